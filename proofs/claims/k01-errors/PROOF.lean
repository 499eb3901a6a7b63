import PyProof.Rows.All
import Wide.All
import OpenK.AllK
import Wide.FinOn
import HandS.ForMost
import HandS.ExcInit
import HandS.ForExc
import HandS.Flow
import HandS.TupAny
import HandS.IsInst
import HandS.Star
import HandS.Conv
import HandS.SortKw
import HandS.SortInts
import HandS.Gcd
import HandS.Deep
import HandS.Defaults
import HandS.TryMany
import HandS.WordsExc
import HandS.TupMul
import HandS.TupLe
import HandS.TupSets
import KE.KRevSl
import HandS.OwnEq
import HandS.More
import KE.KIndexOf
import HandS.Iter
import HandS.Zip
import KE.GoesEnum
import KE.GoesMore
import HandS.Style
import HandS.Comp
import HandS.ExcField
import HandS.HeadHook3
import KE.KExcIs
import HandS.Codes
import KE.KStateDown
import HandS.Head0
import HandS.Head1
import HandS.Head2
import HandS.Head3
import HandS.HeadEnd
import HandS.HeadHook1
import HandS.HeadHook2
import PySem.Challenge.RW_votemargins_k01_errors
import KE.DataCmp
section
set_option Elab.async false
set_option linter.all false
/-! DISem: data, a store of cells, a small language, what it reckons. -/
namespace DI
open PySem

/-- data: tuples and finished objects by value, what may change by its number in the store -/
inductive D where
  | non | bl (b : Bool) | int (i : Int) | str (s : Str) | tup (xs : List D) | tupI (xs : List D) | loc (n : Nat) | obj (c : Nat) (fs : List (Nat × D)) | err (c f : Nat) (d : D)
  deriving Inhabited

/-- what stands in the store -/
inductive Cell where
  | lst (xs : List D) | ro (xs : List D) | ins (c : Nat) (fs : List (Nat × D)) | dic (kvs : List (D × D)) | dead
  deriving Inhabited

abbrev Store := List Cell
abbrev Env := List (Option D)

inductive Res (α : Type) where
  | ok (a : α) (S : Store) | exc (c : Nat) (d : D) (S : Store) | bad

def Res.bind {α β : Type} (r : Res α) (f : α → Store → Res β) : Res β := match r with
  | .ok a S => f a S
  | .exc c d S => .exc c d S
  | .bad => .bad
@[simp] theorem Res.bind_ok {α β : Type} (a : α) (S : Store) (f : α → Store → Res β) : (Res.ok a S).bind f = f a S := rfl
@[simp] theorem Res.bind_exc {α β : Type} (c : Nat) (d : D) (S : Store) (f : α → Store → Res β) : (Res.exc c d S : Res α).bind f = .exc c d S := rfl
@[simp] theorem Res.bind_bad {α β : Type} (f : α → Store → Res β) : (Res.bad : Res α).bind f = .bad := rfl

/-- where no exception may pass -/
def Res.calm {α : Type} (r : Res α) : Res α := match r with
  | .ok a S => .ok a S
  | _ => .bad
@[simp] theorem Res.calm_ok {α : Type} (a : α) (S : Store) : (Res.ok a S).calm = .ok a S := rfl
@[simp] theorem Res.calm_exc {α : Type} (c : Nat) (d : D) (S : Store) : (Res.exc c d S : Res α).calm = .bad := rfl
@[simp] theorem Res.calm_bad {α : Type} : (Res.bad : Res α).calm = .bad := rfl

/-- an expression's worth: a value, or a new list that nobody else holds -/
inductive Sq where
  | val (d : D) | fresh (xs : List D)
  deriving Inhabited

def mat (q : Sq) (S : Store) : Res D := match q with
  | .val d => .ok d S
  | .fresh xs => .ok (.loc S.length) (S ++ [.lst xs])
@[simp] theorem mat_val (d : D) (S : Store) : mat (.val d) S = .ok d S := rfl
@[simp] theorem mat_fresh (xs : List D) (S : Store) : mat (.fresh xs) S = .ok (.loc S.length) (S ++ [.lst xs]) := rfl

/-- from what may have no worth -/
def lift {α : Type} (o : Option α) (S : Store) : Res α := match o with
  | some a => .ok a S
  | none => .bad
@[simp] theorem lift_some {α : Type} (a : α) (S : Store) : lift (some a) S = .ok a S := rfl
@[simp] theorem lift_none {α : Type} (S : Store) : lift (none : Option α) S = .bad := rfl

/-! ### words -/
inductive Bin where
  | add | sub | mul | fdiv | mod | band | shl | pow
inductive Cm where
  | eq | ne | lt | le | gt | ge | is_ | isNot | in_ | notIn
inductive B1 where
  | abs | int_ | str_ | len | sum | max | min | all_ | any_ | tuple_ | tupleI | list_ | sorted_ | sortedRev
inductive B2 where
  | max | min | gcd
inductive Ty where
  | int | bool | str | tuple | list | own (c : Nat)
inductive Bm where
  | append | extend | index | tindex | pop | insert
inductive Tg where
  | one (i : Nat) | two (i j : Nat)
inductive Pt where
  | no | hi | lo | both

mutual
inductive CE where
  | var (i : Nat)
  | cn (d : D)
  | gint (x : Nat) (i : Int)
  | bin (o : Bin) (a b : CE)
  | neg (a : CE)
  | notT (a : CE)
  | andV (a b : CE)
  | orV (a b : CE)
  | cmp (o : Cm) (a b : CE)
  | chain (o p : Cm) (a b c : CE)
  | ite (t a b : CE)
  | tup (es : CEs)
  | lst (es : CEs)
  | idx (a i : CE)
  | slc (p : Pt) (a lo hi : CE)
  | rev (a : CE)
  | attr (a : CE) (f : Nat)
  | call (f : Nat) (es : CEs)
  | mk (c f : Nat) (imm : Bool) (es : CEs)
  | meth (a : CE) (c f : Nat) (es : CEs)
  | eqo (c f : Nat) (a b : CE)
  | b1 (b : B1) (a : CE)
  | b2 (b : B2) (a c : CE)
  | bm (m : Bm) (a : CE) (es : CEs)
  | isi (a : CE) (ts : List Ty)
  | lc (tg : Tg) (it : CIt) (hasIf : Bool) (c e : CE)
  | tin (neg : Bool) (x : Nat) (a : CE)
  | tget (x : Nat) (a : CE)
  | tkeys (x : Nat)
  | lrng (a : CE)
  | eqi (c : Nat) (a b : CE)
  | neo (c f : Nat) (a b : CE)
  | mkE (c : Nat) (a : CE)
  | isE (a : CE) (k : Nat)
  | xat (a : CE) (f : Nat)
inductive CEs where
  | nil
  | cons (e : CE) (es : CEs)
  | star (e : CE) (es : CEs)
inductive CIt where
  | e (a : CE)
  | rng1 (a : CE)
  | rng2 (a b : CE)
  | rng3 (a b c : CE)
  | zip (a b : CE)
  | enum (a : CE)
end

structure Hd where
  cls : Nat
  slot : Nat
  tag : Option Str
  attr : Nat

mutual
inductive CS where
  | set (i : Nat) (e : CE)
  | setT (ts : List Tg) (e : CE)
  | par (i j : Nat) (a b : CE)
  | setI (o i e : CE)
  | setA (o : CE) (f : Nat) (e : CE)
  | aug (i : Nat) (e : CE)
  | ex (e : CE)
  | ifS (t : CE) (a b : CSs)
  | forS (tg : Tg) (it : CIt) (b : CSs)
  | whileS (t : CE) (b : CSs)
  | ret (e : CE)
  | retN
  | brk
  | cont
  | pass_
  | bad_
  | par3 (i j l : Nat) (a b c : CE)
  | raise (c : Nat) (e : CE)
  | tryS (b : CSs) (hs : List Hd)
  | tryI (b : CSs) (h k f : Nat)
inductive CSs where
  | nil
  | cons (s : CS) (r : CSs)
end

/-! ### values -/
def truthD (S : Store) : D → Option Bool
  | .non => some false
  | .bl b => some b
  | .int i => some (i != 0)
  | .str s => if s.length ≤ sizeLine then some ((s.length : Int) != 0) else none
  | .tup xs => some (!xs.isEmpty)
  | .loc n => match S[n]? with
    | some (.lst xs) => some (!xs.isEmpty)
    | some (.ro xs) => some (!xs.isEmpty)
    | _ => none
  | .obj _ _ => none
  | .tupI _ => none
  | .err _ _ _ => none
def truthQ (S : Store) : Sq → Option Bool
  | .val d => truthD S d
  | .fresh xs => some (!xs.isEmpty)

/-- the items of a list that may be read -/
def lstOf (S : Store) : Sq → Option (List D)
  | .fresh xs => some xs
  | .val (.loc n) => match S[n]? with
    | some (.lst xs) => some xs
    | some (.ro xs) => some xs
    | _ => none
  | _ => none
/-- the items of a list of one's own -/
def ownOf (S : Store) : Sq → Option (List D)
  | .fresh xs => some xs
  | .val (.loc n) => match S[n]? with
    | some (.lst xs) => some xs
    | _ => none
  | _ => none
/-- the items of a list or tuple -/
def seqOf (S : Store) : Sq → Option (List D)
  | .val (.tup xs) => some xs
  | q => lstOf S q
abbrev Grd := List (Nat × List D)
/-- .. and the list that must stay as it is while it is walked -/
def walkOf (S : Store) : Sq → Option (List D × Grd)
  | .val (.tup xs) => some (xs, [])
  | .fresh xs => some (xs, [])
  | .val (.loc n) => match S[n]? with
    | some (.lst xs) => some (xs, [(n, xs)])
    | some (.ro xs) => some (xs, [(n, xs)])
    | _ => none
  | _ => none
def grdOk (g : Grd) (S : Store) : Prop := ∀ p ∈ g, S[p.1]? = some (.lst p.2) ∨ S[p.1]? = some (.ro p.2)

def addD (S : Store) : Sq → Sq → Option Sq
  | .val (.int i), .val (.int j) => some (.val (.int (i + j)))
  | .val (.str a), .val (.str b) => if a.length + b.length ≤ sizeLine then some (.val (.str (a ++ b))) else none
  | .val (.tup a), .val (.tup b) => if a.length + b.length ≤ sizeLine then some (.val (.tup (a ++ b))) else none
  | p, q => match ownOf S p, ownOf S q with
    | some a, some b => if a.length + b.length ≤ sizeLine then some (.fresh (a ++ b)) else none
    | _, _ => none
def intD (c : Int → Int → Bool) (f : Int → Int → Int) : Sq → Sq → Option Sq
  | .val (.int i), .val (.int j) => if c i j = true then some (.val (.int (f i j))) else none
  | _, _ => none
def mulOk (i j : Int) : Bool := (decide (-(2 ^ 64) < i) && decide (i < 2 ^ 64)) || (decide (-(2 ^ 64) < j) && decide (j < 2 ^ 64))
def divOk (_ j : Int) : Bool := decide (j ≠ 0) && decide (j.natAbs.log2 < 9000)
def powOk (i j : Int) : Bool := decide (0 ≤ j) && (decide (j ≤ 1000000) && decide (i.natAbs < 2 ^ 64))
def mulD (S : Store) : Sq → Sq → Option Sq
  | .val (.tup a), .val (.int k) => if 0 ≤ k ∧ k ≤ 1000 ∧ a.length ≤ 1000 then some (.val (.tup (List.replicate k.toNat a).flatten)) else none
  | .val (.int i), .val (.int j) => if mulOk i j = true then some (.val (.int (i * j))) else none
  | p, .val (.int k) => match ownOf S p with
    | some a => if -(2 ^ 63) ≤ k ∧ k < 2 ^ 63 ∧ a.length * k.toNat ≤ sizeLine then some (.fresh (List.replicate k.toNat a).flatten) else none
    | none => none
  | _, _ => none
def yes2 (_ _ : Int) : Bool := true
def binD (o : Bin) (S : Store) (p q : Sq) : Option Sq := match o with
  | .add => addD S p q
  | .sub => intD yes2 (fun i j => i - j) p q
  | .mul => mulD S p q
  | .fdiv => intD divOk Int.fdiv p q
  | .mod => intD (fun _ j => decide (j ≠ 0)) Int.fmod p q
  | .band => intD yes2 Builtin.bitAnd p q
  | .shl => intD powOk (fun i j => i * 2 ^ j.toNat) p q
  | .pow => intD powOk (fun i j => i ^ j.toNat) p q

/-- as data: to a depth -/
def pyOf : Nat → Store → D → Option PyData
  | _, _, .non => some .none
  | _, _, .bl b => some (.bool b)
  | _, _, .int i => some (.int i)
  | _, _, .str s => if PyData.strOk s = true then some (.str s) else none
  | 0, _, _ => none
  | k + 1, S, .tup xs => (xs.mapM (pyOf k S)).map .tuple
  | k + 1, S, .loc n => match S[n]? with
    | some (.lst xs) => (xs.mapM (pyOf k S)).map .list
    | some (.ro xs) => (xs.mapM (pyOf k S)).map .list
    | _ => none
  | _ + 1, _, .obj _ _ => none
  | _ + 1, _, .tupI _ => none
  | _ + 1, _, .err _ _ _ => none
def pyQ (S : Store) : Sq → Option PyData
  | .val d => pyOf 60 S d
  | .fresh xs => (xs.mapM (pyOf 59 S)).map .list


def cmpI (o : Cm) (i j : Int) : Option Bool := match o with
  | .lt => some (decide (i < j))
  | .le => some (decide (i ≤ j))
  | .gt => some (decide (j < i))
  | .ge => some (decide (j ≤ i))
  | _ => none
def asInt : D → Option Int
  | .int i => some i
  | _ => none
def intsOf (xs : List D) : Option (List Int) := xs.mapM asInt
def asBl : D → Option Bool
  | .bl b => some b
  | _ => none
def blsOf (xs : List D) : Option (List Bool) := xs.mapM asBl
/-- flat values -/
def flatD : D → Bool
  | .non | .bl _ | .int _ | .str _ => true
  | _ => false
def isNone : Sq → Bool
  | .val .non => true
  | _ => false
/-- a comparison that asks no code of the program -/
def cmpD (o : Cm) (S : Store) (p q : Sq) : Option Bool := match o with
  | .eq => match pyQ S p, pyQ S q with
    | some a, some b => some (PyData.eqv a b)
    | _, _ => none
  | .ne => match pyQ S p, pyQ S q with
    | some a, some b => some (!PyData.eqv a b)
    | _, _ => none
  | .is_ => match p, q with
    | .val (.bl a), .val (.bl b) => some (decide (a = b))
    | p, .val .non => some (isNone p)
    | _, _ => none
  | .isNot => match p, q with
    | .val (.bl a), .val (.bl b) => some (!decide (a = b))
    | p, .val .non => some (!isNone p)
    | _, _ => none
  | .in_ => match pyQ S p, seqOf S q with
    | some a, some xs => ((xs.mapM (pyOf 59 S)).map fun ys => ys.any fun z => PyData.eqv z a)
    | _, _ => none
  | .notIn => match pyQ S p, seqOf S q with
    | some a, some xs => ((xs.mapM (pyOf 59 S)).map fun ys => !ys.any fun z => PyData.eqv z a)
    | _, _ => none
  | o => match p, q with
    | .val (.int i), .val (.int j) => cmpI o i j
    | .val (.tup a), .val (.tup b) => match o, intsOf a, intsOf b with
      | .lt, some x, some y => some (HT.lexLt x y)
      | _, _, _ => none
    | _, _ => none

def maxL : List Int → Option Int
  | [] => none
  | x :: xs => some (xs.foldl (fun m y => if y > m then y else m) x)
def minL : List Int → Option Int
  | [] => none
  | x :: xs => some (xs.foldl (fun m y => if y < m then y else m) x)
def lexLe (a b : List Int) : Bool := !HT.lexLt b a
def tupInts : D → Option (List Int)
  | .tup xs => intsOf xs
  | _ => none
def sortD (xs : List D) : Option (List D) := match intsOf xs with
  | some ns => some ((ns.mergeSort (fun a b => decide (a ≤ b))).map .int)
  | none => (xs.mapM tupInts).bind fun ts => if (decide (ts.length < 2) || ts.all fun t => !t.isEmpty) = true then some ((ts.mergeSort lexLe).map fun t => .tup (t.map .int)) else none
/-- .. or a tuple that can tell places -/
def mxOf (S : Store) : Sq → Option (List D)
  | .val (.tupI xs) => some xs
  | q => seqOf S q
def b1D (b : B1) (S : Store) (q : Sq) : Option Sq := match b with
  | .abs => match q with
    | .val (.int i) => some (.val (.int (if i < 0 then -i else i)))
    | _ => none
  | .int_ => match q with
    | .val (.int i) => some (.val (.int i))
    | .val (.bl k) => some (.val (.int (if k then 1 else 0)))
    | _ => none
  | .str_ => match q with
    | .val (.int i) => if i.natAbs.log2 < 1920 then some (.val (.str (toString i))) else none
    | _ => none
  | .len => match q with
    | .val (.str s) => if s.length ≤ sizeLine then some (.val (.int s.length)) else none
    | q => (seqOf S q).map fun xs => .val (.int xs.length)
  | .sum => ((seqOf S q).bind intsOf).map fun ns => .val (.int ns.sum)
  | .max => (((mxOf S q).bind intsOf).bind maxL).map fun m => .val (.int m)
  | .min => (((seqOf S q).bind intsOf).bind minL).map fun m => .val (.int m)
  | .all_ => ((lstOf S q).bind blsOf).map fun bs => .val (.bl (bs.all id))
  | .any_ => ((lstOf S q).bind blsOf).map fun bs => .val (.bl (bs.any id))
  | .tuple_ => (seqOf S q).map fun xs => .val (.tup xs)
  | .tupleI => (lstOf S q).map fun xs => .val (.tupI xs)
  | .list_ => (seqOf S q).map .fresh
  | .sorted_ => ((seqOf S q).bind sortD).map .fresh
  | .sortedRev => ((seqOf S q).bind intsOf).map fun ns => .fresh ((ns.mergeSort (fun a b => decide (b ≤ a))).map .int)
def b2D (b : B2) (p q : Sq) : Option Sq := match b, p, q with
  | .max, .val (.int i), .val (.int j) => some (.val (.int (if j > i then j else i)))
  | .min, .val (.int i), .val (.int j) => some (.val (.int (if j < i then j else i)))
  | .gcd, .val (.int i), .val (.int j) => some (.val (.int ((Nat.gcd i.natAbs j.natAbs : Nat) : Int)))
  | _, _, _ => none

inductive Kd where
  | non | bl | int | str | tup | lst | own (c : Nat)
  deriving DecidableEq
def isTy (k : Kd) (t : Ty) : Bool := match t with
  | .int => decide (k = .int) || decide (k = .bl)
  | .bool => decide (k = .bl)
  | .str => decide (k = .str)
  | .tuple => decide (k = .tup)
  | .list => decide (k = .lst)
  | .own c => decide (k = .own c)

def cut {α : Type} (xs : List α) (lo hi : Option Int) : List α := let k := HT.sIx xs.length 0 lo; (xs.drop k).take (HT.sIx xs.length xs.length hi - k)
def idxD (S : Store) (q : Sq) (i : Int) : Option Sq := match q with
  | .val (.str z) => if z.length ≤ sizeLine then (L2.atI z.cps.toList i).map fun c => .val (.str ⟨#[c]⟩) else none
  | q => (seqOf S q).bind fun xs => (L2.atI xs i).map .val
def cutD (S : Store) (q : Sq) (lo hi : Option Int) : Option Sq := match q with
  | .val (.str z) => if z.length ≤ sizeLine then some (.val (.str ⟨(cut z.cps.toList lo hi).toArray⟩)) else none
  | .val (.tup xs) => some (.val (.tup (cut xs lo hi)))
  | q => (lstOf S q).map fun xs => .fresh (cut xs lo hi)
def revD (S : Store) (q : Sq) : Option Sq := match q with
  | .val (.tup xs) => some (.val (.tup xs.reverse))
  | q => (lstOf S q).map fun xs => .fresh xs.reverse
def clsD (S : Store) : D → Option Nat
  | .obj c _ => some c
  | .loc n => match S[n]? with
    | some (.ins c _) => some c
    | _ => none
  | _ => none
def isTupD : D → Bool
  | .tup _ => true
  | _ => false
def putA (f : Nat) (d : D) : List (Nat × D) → List (Nat × D)
  | [] => [(f, d)]
  | (g, x) :: r => if g = f then (g, d) :: r else (g, x) :: putA f d r

/-- what of the program's text is asked -/
structure Gx where
  flds : Nat → List Nat
  own : List Nat
  exc : List Nat
  hcl : List Nat
  tab : Nat → List (Str × D)
  sub : Nat → Nat → Bool
  xattr : Nat → Nat
  icl : List Nat := []
  isub : Nat → Nat → Bool := fun _ _ => false

def kindOf (G : Gx) (S : Store) : Sq → Option Kd
  | .fresh _ => some .lst
  | .val .non => some .non
  | .val (.bl _) => some .bl
  | .val (.int _) => some .int
  | .val (.str _) => some .str
  | .val (.tup _) => some .tup
  | .val (.tupI _) => none
  | .val (.err _ _ _) => none
  | .val (.obj c _) => if G.own.contains c = true then some (.own c) else none
  | .val (.loc n) => match S[n]? with
    | some (.lst _) => some .lst
    | some (.ro _) => some .lst
    | some (.ins c _) => if G.own.contains c = true then some (.own c) else none
    | _ => none
def fsD (S : Store) : D → Option (Nat × List (Nat × D))
  | .obj c fs => some (c, fs)
  | .loc n => match S[n]? with
    | some (.ins c fs) => some (c, fs)
    | _ => none
  | _ => none
def attrD (G : Gx) (S : Store) (d : D) (f : Nat) : Option D := (fsD S d).bind fun p => if (G.flds p.1).contains f = true then p.2.lookup f else none

def bindTg (t : Tg) (d : D) (σ : Env) : Option Env := match t with
  | .one i => some (σ.set i (some d))
  | .two i j => match d with
    | .tup [x, y] => some ((σ.set i (some x)).set j (some y))
    | _ => none
def bindTgs : List Tg → List D → Env → Option Env
  | [], [], σ => some σ
  | t :: ts, d :: ds, σ => (bindTg t d σ).bind fun σ1 => bindTgs ts ds σ1
  | _, _, _ => none
def rngL (lo : Int) (n : Nat) : List D := (List.range n).map fun (i : Nat) => .int (lo + i)
def rngC (lo c : Int) (n : Nat) : List D := (List.range n).map fun (i : Nat) => .int (lo + i * c)
def okR (i : Int) : Prop := -(2 ^ 62) ≤ i ∧ i < 2 ^ 62
def zipD : List D → List D → List D
  | x :: xs, y :: ys => .tup [x, y] :: zipD xs ys
  | _, _ => []
def enumD : Int → List D → List D
  | _, [] => []
  | k, x :: xs => .tup [.int k, x] :: enumD (k + 1) xs
def isLst (S : Store) (n : Nat) : Bool := match S[n]? with
  | some (.lst _) => true
  | _ => false
/-- append and its like: the list at n -/
def bmD (m : Bm) (S : Store) (n : Nat) (xs : List D) (ds : List D) : Res Sq := match m, ds with
  | .append, [d] => if xs.length < sizeLine then .ok (.val .non) (S.set n (.lst (xs ++ [d]))) else .bad
  | .pop, [] => match xs.getLast? with
    | some d => .ok (.val d) (S.set n (.lst xs.dropLast))
    | none => .bad
  | .insert, [.int i, d] => if xs.length < sizeLine ∧ 0 ≤ i ∧ i ≤ xs.length then .ok (.val .non) (S.set n (.lst (xs.take i.toNat ++ d :: xs.drop i.toNat))) else .bad
  | _, _ => .bad
open Classical in
noncomputable def guarded {α : Type} (g : Grd) (S : Store) (r : Res α) : Res α := if grdOk g S then r else .bad
/-- the turns of a comprehension -/
noncomputable def lcLoop (g : Grd) (body : D → Store → Res (Option D)) : List D → List D → Store → Res (List D)
  | [], acc, S => guarded g S (.ok acc S)
  | x :: xs, acc, S => guarded g S ((body x S).calm.bind fun o S1 => match o with
    | some d => lcLoop g body xs (acc ++ [d]) S1
    | none => lcLoop g body xs acc S1)

open Classical in
mutual
noncomputable def ev (G : Gx) (cal : Nat → List D → Store → Res D) : CE → Env → Store → Res Sq
  | .var i, σ, S => match σ[i]? with
    | some (some d) => .ok (.val d) S
    | _ => .bad
  | .cn d, _, S => .ok (.val d) S
  | .gint _ i, _, S => .ok (.val (.int i)) S
  | .bin o a b, σ, S => (ev G cal a σ S).bind fun p S1 => (ev G cal b σ S1).bind fun q S2 => lift (binD o S2 p q) S2
  | .neg a, σ, S => (ev G cal a σ S).bind fun p S1 => match p with
    | .val (.int i) => .ok (.val (.int (-i))) S1
    | _ => .bad
  | .notT a, σ, S => (ev G cal a σ S).bind fun p S1 => (lift (truthQ S1 p) S1).bind fun k S2 => .ok (.val (.bl (!k))) S2
  | .andV a b, σ, S => (ev G cal a σ S).bind fun p S1 => (lift (truthQ S1 p) S1).bind fun k S2 => if k = true then ev G cal b σ S2 else .ok p S2
  | .orV a b, σ, S => (ev G cal a σ S).bind fun p S1 => (lift (truthQ S1 p) S1).bind fun k S2 => if k = true then .ok p S2 else ev G cal b σ S2
  | .cmp o a b, σ, S => (ev G cal a σ S).bind fun p S1 => (ev G cal b σ S1).bind fun q S2 => (lift (cmpD o S2 p q) S2).bind fun k S3 => .ok (.val (.bl k)) S3
  | .eqo c f a b, σ, S => (ev G cal a σ S).bind fun p S1 => (ev G cal b σ S1).bind fun q S2 => match p, q with
    | .val d, .val e => if clsD S2 d = some c ∧ (isTupD e = true ∨ clsD S2 e = some c) then (cal f [d, e] S2).bind fun r S4 => match r with
      | .bl k => .ok (.val (.bl k)) S4
      | _ => .bad
      else .bad
    | _, _ => .bad
  | .chain o o2 a b c, σ, S => (ev G cal a σ S).bind fun p S1 => (ev G cal b σ S1).bind fun q S2 => (lift (cmpD o S2 p q) S2).bind fun k S3 =>
      if k = true then (ev G cal c σ S3).bind fun r S4 => (lift (cmpD o2 S4 q r) S4).bind fun k2 S5 => .ok (.val (.bl k2)) S5 else .ok (.val (.bl false)) S3
  | .ite t a b, σ, S => (ev G cal t σ S).bind fun p S1 => (lift (truthQ S1 p) S1).bind fun k S2 => if k = true then ev G cal a σ S2 else ev G cal b σ S2
  | .tup es, σ, S => (evs G cal es σ S).bind fun ds S1 => if ds.length ≤ sizeLine then .ok (.val (.tup ds)) S1 else .bad
  | .lst es, σ, S => (evs G cal es σ S).bind fun ds S1 => if ds.length ≤ sizeLine then .ok (.fresh ds) S1 else .bad
  | .idx a i, σ, S => (ev G cal a σ S).bind fun p S1 => (ev G cal i σ S1).bind fun q S2 => match q with
    | .val (.int k) => lift (idxD S2 p k) S2
    | _ => .bad
  | .slc .no a _ _, σ, S => (ev G cal a σ S).bind fun p S1 => lift (cutD S1 p none none) S1
  | .slc .hi a _ h, σ, S => (ev G cal a σ S).bind fun p S1 => (ev G cal h σ S1).bind fun q S2 => match q with
    | .val (.int k) => lift (cutD S2 p none (some k)) S2
    | _ => .bad
  | .slc .lo a l _, σ, S => (ev G cal a σ S).bind fun p S1 => (ev G cal l σ S1).bind fun q S2 => match q with
    | .val (.int k) => lift (cutD S2 p (some k) none) S2
    | _ => .bad
  | .slc .both a l h, σ, S => (ev G cal a σ S).bind fun p S1 => (ev G cal l σ S1).bind fun q S2 => match q with
    | .val (.int k) => (ev G cal h σ S2).bind fun r S3 => match r with
      | .val (.int m) => lift (cutD S3 p (some k) (some m)) S3
      | _ => .bad
    | _ => .bad
  | .rev a, σ, S => (ev G cal a σ S).bind fun p S1 => lift (revD S1 p) S1
  | .attr a f, σ, S => (ev G cal a σ S).bind fun p S1 => match p with
    | .val d => (lift (attrD G S1 d f) S1).bind fun x S2 => .ok (.val x) S2
    | _ => .bad
  | .call f es, σ, S => (evs G cal es σ S).bind fun ds S1 => (cal f ds S1).bind fun r S2 => .ok (.val r) S2
  | .mk c f imm es, σ, S => (evs G cal es σ S).bind fun ds S1 => (cal f (.loc S1.length :: ds) (S1 ++ [.ins c []])).bind fun r S2 => match r, S2[S1.length]? with
    | .non, some (.ins k fs) => if imm = true then .ok (.val (.obj k fs)) (S2.set S1.length .dead) else .ok (.val (.loc S1.length)) S2
    | _, _ => .bad
  | .meth a c f es, σ, S => (ev G cal a σ S).bind fun p S1 => match p with
    | .val d => if clsD S1 d = some c then (evs G cal es σ S1).bind fun ds S2 => (cal f (d :: ds) S2).bind fun r S3 => .ok (.val r) S3 else .bad
    | _ => .bad
  | .b1 b a, σ, S => (ev G cal a σ S).bind fun p S1 => lift (b1D b S1 p) S1
  | .b2 b a c, σ, S => (ev G cal a σ S).bind fun p S1 => (ev G cal c σ S1).bind fun q S2 => lift (b2D b p q) S2
  | .bm m a es, σ, S => (ev G cal a σ S).bind fun p S1 => match m with
    | .index => match lstOf S1 p with
      | none => .bad
      | some _ => (evs G cal es σ S1).bind fun ds S2 => match (lstOf S2 p).bind intsOf, ds with
        | some ns, [.int k] => if k ∈ ns then .ok (.val (.int (ns.idxOf k : Nat))) S2 else .bad
        | _, _ => .bad
    | .tindex => match p with
      | .val (.tupI xs) => (evs G cal es σ S1).bind fun ds S2 => match intsOf xs, ds with
        | some ns, [.int k] => if k ∈ ns then .ok (.val (.int (ns.idxOf k : Nat))) S2 else .bad
        | _, _ => .bad
      | _ => .bad
    | .extend => match p with
      | .val (.loc n) => if isLst S1 n = true then (evq G cal es σ S1).bind fun q S2 => match S2[n]?, ownOf S2 q with
        | some (.lst xs), some ys => if xs.length + ys.length ≤ sizeLine then .ok (.val .non) (S2.set n (.lst (xs ++ ys))) else .bad
        | _, _ => .bad
        else .bad
      | _ => .bad
    | m => match p with
      | .val (.loc n) => if isLst S1 n = true then (evs G cal es σ S1).bind fun ds S2 => match S2[n]? with
        | some (.lst xs) => bmD m S2 n xs ds
        | _ => .bad
        else .bad
      | _ => .bad
  | .isi a ts, σ, S => (ev G cal a σ S).bind fun p S1 => match kindOf G S1 p with
    | some k => .ok (.val (.bl (ts.any (isTy k)))) S1
    | none => .bad
  | .lc tg it hasIf c e, σ, S => (evIt G cal it σ S).bind fun w S1 => (lcLoop w.2 (fun x S2 => match bindTg tg x σ with
      | none => .bad
      | some σ2 => if hasIf = true then ((ev G cal c σ2 S2).bind fun p S3 => lift (truthQ S3 p) S3).bind fun k S4 => if k = true then (ev G cal e σ2 S4).bind fun q S5 => (mat q S5).bind fun d S6 => .ok (some d) S6 else .ok none S4
        else (ev G cal e σ2 S2).bind fun q S5 => (mat q S5).bind fun d S6 => .ok (some d) S6) w.1 [] S1).bind fun ys S3 => .ok (.fresh ys) S3
  | .tin ng x a, σ, S => (ev G cal a σ S).bind fun p S1 => match p with
    | .val (.str s) => .ok (.val (.bl (ng != ((G.tab x).lookup s).isSome))) S1
    | _ => .bad
  | .tget x a, σ, S => (ev G cal a σ S).bind fun p S1 => match p with
    | .val (.str s) => (lift ((G.tab x).lookup s) S1).bind fun d S2 => .ok (.val d) S2
    | _ => .bad
  | .tkeys x, _, S => if (G.tab x).length ≤ sizeLine then .ok (.fresh ((G.tab x).map fun p => .str p.1)) S else .bad
  | .lrng a, σ, S => (ev G cal a σ S).bind fun p S1 => match p with
    | .val (.int j) => if okR j ∧ j.toNat ≤ sizeLine then .ok (.fresh (rngL 0 j.toNat)) S1 else .bad
    | _ => .bad
  | .eqi c a b, σ, S => (ev G cal a σ S).bind fun p S1 => (ev G cal b σ S1).bind fun q S2 => match p, q with
    | .val (.loc i), .val (.loc j) => if clsD S2 (.loc i) = some c ∧ clsD S2 (.loc j) = some c then .ok (.val (.bl (decide (i = j)))) S2 else .bad
    | _, _ => .bad
  | .neo c f a b, σ, S => (ev G cal a σ S).bind fun p S1 => (ev G cal b σ S1).bind fun q S2 => match p, q with
    | .val d, .val e => if clsD S2 d = some c ∧ clsD S2 e = some c then (cal f [d, e] S2).bind fun r S4 => match r with
      | .bl k => .ok (.val (.bl (!k))) S4
      | _ => .bad
      else .bad
    | _, _ => .bad
  | .mkE c a, σ, S => (ev G cal a σ S).bind fun p S1 => (mat p S1).bind fun d S2 => if G.exc.contains c = true then .ok (.val (.err c (G.xattr c) d)) S2 else .bad
  | .isE a k, σ, S => (ev G cal a σ S).bind fun p S1 => match p with
    | .val (.err c _ _) => if G.exc.contains c = true ∧ G.icl.contains k = true then .ok (.val (.bl (G.isub c k))) S1 else .bad
    | _ => .bad
  | .xat a f, σ, S => (ev G cal a σ S).bind fun p S1 => match p with
    | .val (.err c g d) => if G.exc.contains c = true ∧ G.xattr c = f ∧ g = f then .ok (.val d) S1 else .bad
    | _ => .bad
noncomputable def evs (G : Gx) (cal : Nat → List D → Store → Res D) : CEs → Env → Store → Res (List D)
  | .nil, _, S => .ok [] S
  | .cons e es, σ, S => (ev G cal e σ S).bind fun q S1 => (mat q S1).bind fun d S2 => (evs G cal es σ S2).bind fun ds S3 => .ok (d :: ds) S3
  | .star e es, σ, S => (ev G cal e σ S).bind fun q S1 => (lift (seqOf S1 q) S1).bind fun xs S2 => (evs G cal es σ S2).bind fun ds S3 => .ok (xs ++ ds) S3
/-- one argument, as it is -/
noncomputable def evq (G : Gx) (cal : Nat → List D → Store → Res D) : CEs → Env → Store → Res Sq
  | .cons e .nil, σ, S => ev G cal e σ S
  | _, _, _ => .bad
noncomputable def evIt (G : Gx) (cal : Nat → List D → Store → Res D) : CIt → Env → Store → Res (List D × Grd)
  | .e a, σ, S => (ev G cal a σ S).bind fun p S1 => lift (walkOf S1 p) S1
  | .rng1 a, σ, S => (ev G cal a σ S).bind fun p S1 => match p with
    | .val (.int j) => if okR j ∧ j.toNat ≤ sizeLine then .ok (rngL 0 j.toNat, []) S1 else .bad
    | _ => .bad
  | .rng2 a b, σ, S => (ev G cal a σ S).bind fun p S1 => (ev G cal b σ S1).bind fun q S2 => match p, q with
    | .val (.int i), .val (.int j) => if okR i ∧ okR j ∧ (j - i).toNat ≤ sizeLine then .ok (rngL i (j - i).toNat, []) S2 else .bad
    | _, _ => .bad
  | .rng3 a b c, σ, S => (ev G cal a σ S).bind fun p S1 => (ev G cal b σ S1).bind fun q S2 => (ev G cal c σ S2).bind fun r S3 => match p, q, r with
    | .val (.int i), .val (.int j), .val (.int k) => if okR i ∧ okR j ∧ k = -1 ∧ (i - j).toNat ≤ sizeLine then .ok (rngC i (-1) (i - j).toNat, []) S3 else .bad
    | _, _, _ => .bad
  | .zip a b, σ, S => (ev G cal a σ S).bind fun p S1 => (ev G cal b σ S1).bind fun q S2 => match walkOf S2 p, walkOf S2 q with
    | some (xs, g), some (ys, h) => .ok (zipD xs ys, g ++ h) S2
    | _, _ => .bad
  | .enum a, σ, S => (ev G cal a σ S).bind fun p S1 => (lift (walkOf S1 p) S1).bind fun w S2 => .ok (enumD 0 w.1, w.2) S2
end

/-! ### statements -/
inductive SRes where
  | nx (σ : Env) (S : Store) | rt (d : D) (S : Store) | bk (σ : Env) (S : Store) | ct (σ : Env) (S : Store) | ex (c : Nat) (d : D) (S : Store) | bad
def Res.st {α : Type} (r : Res α) (f : α → Store → SRes) : SRes := match r with
  | .ok a S => f a S
  | .exc c d S => .ex c d S
  | .bad => .bad
@[simp] theorem Res.st_ok {α : Type} (a : α) (S : Store) (f : α → Store → SRes) : (Res.ok a S).st f = f a S := rfl
@[simp] theorem Res.st_exc {α : Type} (c : Nat) (d : D) (S : Store) (f : α → Store → SRes) : (Res.exc c d S : Res α).st f = .ex c d S := rfl
@[simp] theorem Res.st_bad {α : Type} (f : α → Store → SRes) : (Res.bad : Res α).st f = .bad := rfl
def SRes.seq (r : SRes) (f : Env → Store → SRes) : SRes := match r with
  | .nx σ S => f σ S
  | r => r
@[simp] theorem SRes.seq_nx (σ : Env) (S : Store) (f : Env → Store → SRes) : (SRes.nx σ S).seq f = f σ S := rfl
@[simp] theorem SRes.seq_rt (d : D) (S : Store) (f : Env → Store → SRes) : (SRes.rt d S).seq f = .rt d S := rfl
@[simp] theorem SRes.seq_bk (σ : Env) (S : Store) (f : Env → Store → SRes) : (SRes.bk σ S).seq f = .bk σ S := rfl
@[simp] theorem SRes.seq_ct (σ : Env) (S : Store) (f : Env → Store → SRes) : (SRes.ct σ S).seq f = .ct σ S := rfl
@[simp] theorem SRes.seq_ex (c : Nat) (d : D) (S : Store) (f : Env → Store → SRes) : (SRes.ex c d S).seq f = .ex c d S := rfl
@[simp] theorem SRes.seq_bad (f : Env → Store → SRes) : SRes.bad.seq f = .bad := rfl
/-- behind a turn of a loop -/
def SRes.turn (r : SRes) (f : Env → Store → SRes) : SRes := match r with
  | .nx σ S => f σ S
  | .ct σ S => f σ S
  | .bk σ S => .nx σ S
  | r => r
@[simp] theorem SRes.turn_nx (σ : Env) (S : Store) (f : Env → Store → SRes) : (SRes.nx σ S).turn f = f σ S := rfl
@[simp] theorem SRes.turn_ct (σ : Env) (S : Store) (f : Env → Store → SRes) : (SRes.ct σ S).turn f = f σ S := rfl
@[simp] theorem SRes.turn_bk (σ : Env) (S : Store) (f : Env → Store → SRes) : (SRes.bk σ S).turn f = .nx σ S := rfl
@[simp] theorem SRes.turn_rt (d : D) (S : Store) (f : Env → Store → SRes) : (SRes.rt d S).turn f = .rt d S := rfl
@[simp] theorem SRes.turn_ex (c : Nat) (d : D) (S : Store) (f : Env → Store → SRes) : (SRes.ex c d S).turn f = .ex c d S := rfl
@[simp] theorem SRes.turn_bad (f : Env → Store → SRes) : SRes.bad.turn f = .bad := rfl
open Classical in
noncomputable def guardS (g : Grd) (S : Store) (r : SRes) : SRes := if grdOk g S then r else .bad
noncomputable def forLoop (g : Grd) (body : D → Env → Store → SRes) : List D → Env → Store → SRes
  | [], σ, S => guardS g S (.nx σ S)
  | x :: xs, σ, S => guardS g S ((body x σ S).turn fun σ1 S1 => forLoop g body xs σ1 S1)
noncomputable def whileLoop (t : Env → Store → Res Bool) (body : Env → Store → SRes) : Nat → Env → Store → SRes
  | 0, _, _ => .bad
  | k + 1, σ, S => (t σ S).st fun b S1 => if b = true then (body σ S1).turn fun σ2 S2 => whileLoop t body k σ2 S2 else .nx σ S1
def maxTurns : Nat := 1000000
def handle (G : Gx) (c : Nat) (d : D) (S : Store) : List Hd → SRes
  | [] => .ex c d S
  | h :: hs => if G.exc.contains c = true then (if G.sub c h.cls = true then (if G.xattr c = h.attr then .rt (match h.tag with
      | some t => .tup [.str t, d]
      | none => d) S else .bad) else handle G c d S hs) else .bad
/-- an except clause that tells whether the error is of the class k and its value is () -/
def handleI (G : Gx) (c : Nat) (d : D) (S : Store) (h k f : Nat) : SRes :=
  if G.exc.contains c = true then (if G.sub c h = true then (if G.xattr c = f ∧ G.icl.contains k = true then (if G.isub c k = true then (match pyOf 60 S d with
    | some p => .rt (.bl (PyData.eqv p (.tuple []))) S
    | none => .bad) else .rt (.bl false) S) else .bad) else .ex c d S) else .bad
mutual
noncomputable def exec (G : Gx) (cal : Nat → List D → Store → Res D) : CS → Env → Store → SRes
  | .set i e, σ, S => (ev G cal e σ S).st fun q S1 => (mat q S1).st fun d S2 => .nx (σ.set i (some d)) S2
  | .setT ts e, σ, S => (ev G cal e σ S).st fun q S1 => match q with
    | .val (.tup ds) => match bindTgs ts ds σ with
      | some σ2 => .nx σ2 S1
      | none => .bad
    | _ => .bad
  | .par i j a b, σ, S => (ev G cal a σ S).st fun q S1 => (mat q S1).st fun d S2 => (ev G cal b σ S2).st fun r S3 => (mat r S3).st fun e S4 => .nx ((σ.set i (some d)).set j (some e)) S4
  | .setI o i e, σ, S => (ev G cal e σ S).st fun q S1 => (mat q S1).st fun d S2 => (ev G cal o σ S2).st fun p S3 => (ev G cal i σ S3).st fun r S4 => match p, r with
    | .val (.loc n), .val (.int k) => match S4[n]? with
      | some (.lst xs) => match L2.ixN xs.length k with
        | some j => .nx σ (S4.set n (.lst (xs.set j d)))
        | none => .bad
      | _ => .bad
    | _, _ => .bad
  | .setA o f e, σ, S => (ev G cal e σ S).st fun q S1 => (mat q S1).st fun d S2 => (ev G cal o σ S2).st fun p S3 => match p with
    | .val (.loc n) => match S3[n]? with
      | some (.ins c fs) => if (G.flds c).contains f = true ∧ fs.length < 100 then .nx σ (S3.set n (.ins c (putA f d fs))) else .bad
      | _ => .bad
    | _ => .bad
  | .aug i e, σ, S => match σ[i]? with
    | some (some (.int k)) => (ev G cal e σ S).st fun q S1 => match q with
      | .val (.int m) => .nx (σ.set i (some (.int (k + m)))) S1
      | _ => .bad
    | _ => .bad
  | .ex e, σ, S => (ev G cal e σ S).st fun _ S1 => .nx σ S1
  | .ifS t a b, σ, S => (ev G cal t σ S).st fun p S1 => (lift (truthQ S1 p) S1).st fun k S2 => if k = true then execs G cal a σ S2 else execs G cal b σ S2
  | .forS tg it b, σ, S => (evIt G cal it σ S).st fun w S1 => forLoop w.2 (fun x σ2 S2 => match bindTg tg x σ2 with
    | some σ3 => execs G cal b σ3 S2
    | none => .bad) w.1 σ S1
  | .whileS t b, σ, S => whileLoop (fun σ2 S2 => (ev G cal t σ2 S2).bind fun p S3 => lift (truthQ S3 p) S3) (fun σ2 S2 => execs G cal b σ2 S2) maxTurns σ S
  | .ret e, σ, S => (ev G cal e σ S).st fun q S1 => (mat q S1).st fun d S2 => .rt d S2
  | .retN, _, S => .rt .non S
  | .brk, σ, S => .bk σ S
  | .cont, σ, S => .ct σ S
  | .pass_, σ, S => .nx σ S
  | .raise c e, σ, S => (ev G cal e σ S).st fun q S1 => (mat q S1).st fun d S2 => .ex c d S2
  | .tryS b hs, σ, S => match execs G cal b σ S with
    | .ex c d S1 => handle G c d S1 hs
    | r => r
  | .bad_, _, _ => .bad
  | .par3 i j l a b c, σ, S => (ev G cal a σ S).st fun q S1 => (mat q S1).st fun d S2 => (ev G cal b σ S2).st fun r S3 => (mat r S3).st fun e S4 => (ev G cal c σ S4).st fun t S5 => (mat t S5).st fun f S6 => .nx (((σ.set i (some d)).set j (some e)).set l (some f)) S6
  | .tryI b h k f, σ, S => match execs G cal b σ S with
    | .ex c d S1 => handleI G c d S1 h k f
    | r => r
noncomputable def execs (G : Gx) (cal : Nat → List D → Store → Res D) : CSs → Env → Store → SRes
  | .nil, σ, S => .nx σ S
  | .cons s r, σ, S => (exec G cal s σ S).seq fun σ1 S1 => execs G cal r σ1 S1
end

/-- a def: how many parameters, how many names, its body -/
structure CDef where
  np : Nat
  ns : Nat
  body : CSs
def SRes.fin : SRes → Res D
  | .nx _ S => .ok .non S
  | .rt d S => .ok d S
  | .ex c d S => .exc c d S
  | _ => .bad
/-- a call, so many deep -/
noncomputable def calF (G : Gx) (P : Nat → Option CDef) : Nat → Nat → List D → Store → Res D
  | 0, _, _, _ => .bad
  | n + 1, f, ds, S => match P f with
    | some cd => if ds.length = cd.np then (execs G (calF G P n) cd.body (ds.map some ++ List.replicate (cd.ns - cd.np) none) S).fin else .bad
    | none => .bad
end DI
end

section
set_option Elab.async false
set_option linter.all false
/-! DIRel: how data stand in the heap. -/
namespace DI
open PySem PySem.Spec L2

/-- what of the names is asked: attributes' names, the classes' addresses -/
structure Nm where
  n : Nat
  an : Nat → Str
  ca : Nat → Addr

/-- the cell n is there, is not dead, and stands at a -/
def Lv (S : Store) (ρ : List Addr) (a : Addr) : Prop := ∃ (n : Nat) (c : Cell), S[n]? = some c ∧ c ≠ Cell.dead ∧ ρ[n]? = some a

mutual
inductive VR (M : Nm) (S : Store) (ρ : List Addr) (H : Hp) : V → D → Prop where
  | non : VR M S ρ H .non .non
  | bl (b : Bool) : VR M S ρ H (.bl b) (.bl b)
  | int (i : Int) : VR M S ρ H (.int i) (.int i)
  | str (s : Str) : VR M S ρ H (.str s) (.str s)
  | tup {a : Addr} {vs : List V} {ds : List D} (h : H a = some (.tup vs)) (hz : vs.length ≤ sizeLine) (r : VRs M S ρ H vs ds) : VR M S ρ H (.ref a) (.tup ds)
  | tupI {a : Addr} {o : Obj} {vs : List V} {ds : List D} (h : H a = some (.frz o (.tup vs))) (hc : o.cls = .type "tuple" ∧ o.dict = none) (hz : vs.length ≤ sizeLine) (r : VRs M S ρ H vs ds) : VR M S ρ H (.ref a) (.tupI ds)
  | loc {a : Addr} {n : Nat} (h : ρ[n]? = some a) : VR M S ρ H (.ref a) (.loc n)
  | obj {a dx : Addr} {c : Nat} {fs : List (Str × V)} {ds : List (Nat × D)} (h : H a = some (.ins (M.ca c) dx fs)) (hl : ¬ Lv S ρ a) (r : FRs M S ρ H fs ds) : VR M S ρ H (.ref a) (.obj c ds)
  | err {a dx : Addr} {c f : Nat} {v : V} {d : D} (h : H a = some (exo a (M.ca c) (some dx))) (hl : ¬ Lv S ρ a) (h2 : H dx = some (exd dx [(M.an f, v)])) (hl2 : ¬ Lv S ρ dx) (r : VR M S ρ H v d) : VR M S ρ H (.ref a) (.err c f d)
inductive VRs (M : Nm) (S : Store) (ρ : List Addr) (H : Hp) : List V → List D → Prop where
  | nil : VRs M S ρ H [] []
  | cons {v : V} {d : D} {vs : List V} {ds : List D} (h : VR M S ρ H v d) (r : VRs M S ρ H vs ds) : VRs M S ρ H (v :: vs) (d :: ds)
inductive FRs (M : Nm) (S : Store) (ρ : List Addr) (H : Hp) : List (Str × V) → List (Nat × D) → Prop where
  | nil : FRs M S ρ H [] []
  | cons {k : Nat} {v : V} {d : D} {vs : List (Str × V)} {ds : List (Nat × D)} (hk : k < M.n) (h : VR M S ρ H v d) (r : FRs M S ρ H vs ds) : FRs M S ρ H ((M.an k, v) :: vs) ((k, d) :: ds)
end

inductive CellR (M : Nm) (S : Store) (ρ : List Addr) (H : Hp) (a : Addr) : Cell → Prop where
  | lst {vs : List V} {ds : List D} (h : H a = some (.lst vs)) (hz : vs.length ≤ sizeLine) (r : VRs M S ρ H vs ds) : CellR M S ρ H a (.lst ds)
  | ro {vs : List V} {ds : List D} (h : Rd H a (.lst vs)) (hz : vs.length ≤ sizeLine) (r : VRs M S ρ H vs ds) : CellR M S ρ H a (.ro ds)
  | ins {dx : Addr} {c : Nat} {fs : List (Str × V)} {ds : List (Nat × D)} (h : H a = some (.ins (M.ca c) dx fs)) (r : FRs M S ρ H fs ds) : CellR M S ρ H a (.ins c ds)
  | dic {kvs : List (List Key × V)} {ds : List (D × D)} (h : H a = some (.dT kvs)) : CellR M S ρ H a (.dic ds)
  | dead {C dx : Addr} {fs : List (Str × V)} (h : H a = some (.ins C dx fs)) : CellR M S ρ H a .dead

theorem CellR.there {M : Nm} {S : Store} {ρ : List Addr} {H : Hp} {a : Addr} {c : Cell} (r : CellR M S ρ H a c) : ∃ o, H a = some o := by
  cases r with
  | lst h => exact ⟨_, h⟩
  | ro h => rcases h with h | ⟨o, h⟩ <;> exact ⟨_, h⟩
  | ins h => exact ⟨_, h⟩
  | dic h => exact ⟨_, h⟩
  | dead h => exact ⟨_, h⟩
theorem CellR.no_tup {M : Nm} {S : Store} {ρ : List Addr} {H : Hp} {a : Addr} {c : Cell} {vs : List V} (r : CellR M S ρ H a c) (q : H a = Option.some (.tup vs)) : False := by
  cases r with
  | lst h => rw [h] at q; cases q
  | ro h => rcases h with h | ⟨o, h⟩ <;> (rw [h] at q; cases q)
  | ins h => rw [h] at q; cases q
  | dic h => rw [h] at q; cases q
  | dead h => rw [h] at q; cases q

theorem CellR.no_frz {M : Nm} {S : Store} {ρ : List Addr} {H : Hp} {a : Addr} {c : Cell} {o : Obj} {vs : List V} (r : CellR M S ρ H a c) (q : H a = Option.some (.frz o (.tup vs))) : False := by
  cases r with
  | lst h => rw [h] at q; cases q
  | ro h => rcases h with h | ⟨o, h⟩ <;> (rw [h] at q; cases q)
  | ins h => rw [h] at q; cases q
  | dic h => rw [h] at q; cases q
  | dead h => rw [h] at q; cases q

structure Good (M : Nm) (S : Store) (ρ : List Addr) (H : Hp) : Prop where
  len : ρ.length = S.length
  nd : ρ.Nodup
  cells : ∀ (n : Nat) (c : Cell) (a : Addr), S[n]? = some c → ρ[n]? = some a → CellR M S ρ H a c

theorem Good.there {M : Nm} {S : Store} {ρ : List Addr} {H : Hp} (g : Good M S ρ H) {a : Addr} (h : a ∈ ρ) : ∃ o, H a = some o := by
  obtain ⟨n, hn, e⟩ := List.mem_iff_getElem.mp h
  have hs : n < S.length := by rw [← g.len]; exact hn
  exact (g.cells n S[n] a (List.getElem?_eq_getElem hs) (by rw [List.getElem?_eq_getElem hn, e])).there
theorem Good.fresh {M : Nm} {S : Store} {ρ : List Addr} {H : Hp} (g : Good M S ρ H) {a : Addr} (h : H a = none) : a ∉ ρ := fun z => by
  obtain ⟨o, e⟩ := g.there z
  rw [h] at e; cases e
theorem Lv.mem {S : Store} {ρ : List Addr} {a : Addr} (l : Lv S ρ a) : a ∈ ρ := by
  obtain ⟨n, _, _, _, e⟩ := l
  exact List.mem_of_getElem? e
theorem Good.tup_free {M : Nm} {S : Store} {ρ : List Addr} {H : Hp} (g : Good M S ρ H) {a : Addr} {vs : List V} (h : H a = some (.tup vs)) : a ∉ ρ := fun z => by
  obtain ⟨n, hn, e⟩ := List.mem_iff_getElem.mp z
  have hs : n < S.length := by rw [← g.len]; exact hn
  exact (g.cells n S[n] a (List.getElem?_eq_getElem hs) (by rw [List.getElem?_eq_getElem hn, e])).no_tup h

theorem Good.frz_free {M : Nm} {S : Store} {ρ : List Addr} {H : Hp} (g : Good M S ρ H) {a : Addr} {o : Obj} {vs : List V} (h : H a = some (.frz o (.tup vs))) : a ∉ ρ := fun z => by
  obtain ⟨n, hn, e⟩ := List.mem_iff_getElem.mp z
  have hs : n < S.length := by rw [← g.len]; exact hn
  exact (g.cells n S[n] a (List.getElem?_eq_getElem hs) (by rw [List.getElem?_eq_getElem hn, e])).no_frz h

/-- what a piece of the program may do -/
structure Nx (S : Store) (ρ : List Addr) (H : Hp) (S' : Store) (ρ' : List Addr) (H' : Hp) : Prop where
  pre : ∃ l, ρ' = ρ ++ l ∧ ∀ a ∈ l, H a = none
  dead : ∀ n : Nat, S[n]? = some .dead → S'[n]? = some .dead
  kept : ∀ a o, H a = some o → ¬ Lv S ρ a → H' a = some o

theorem Nx.refl {S : Store} {ρ : List Addr} {H : Hp} : Nx S ρ H S ρ H := ⟨⟨[], by simp, fun _ h => by cases h⟩, fun _ h => h, fun _ _ h _ => h⟩
section
variable {M : Nm} {S S1 S2 S' : Store} {ρ ρ1 ρ2 ρ' : List Addr} {H H1 H2 H' : Hp}
theorem Nx.at (x : Nx S ρ H S' ρ' H') {n : Nat} {a : Addr} (h : ρ[n]? = some a) : ρ'[n]? = some a := by
  obtain ⟨l, e, _⟩ := x.pre
  rw [e, List.getElem?_append_left (List.getElem?_eq_some_iff.mp h).1, h]
theorem Nx.mem (x : Nx S ρ H S' ρ' H') {a : Addr} (h : a ∈ ρ) : a ∈ ρ' := by
  obtain ⟨l, e, _⟩ := x.pre
  rw [e]; exact List.mem_append_left _ h
theorem Nx.notin (x : Nx S ρ H S' ρ' H') {a : Addr} {o : HO} (h : H a = some o) (n : a ∉ ρ) : a ∉ ρ' := by
  obtain ⟨l, e, f⟩ := x.pre
  rw [e]
  intro z
  rcases List.mem_append.mp z with z | z
  · exact n z
  · rw [f a z] at h; cases h
/-- what does not live stays so -/
theorem Nx.lv (x : Nx S ρ H S' ρ' H') (g : Good M S ρ H) {a : Addr} {o : HO} (h : H a = some o) (n : ¬ Lv S ρ a) : ¬ Lv S' ρ' a := by
  rintro ⟨k, c, e1, e2, e3⟩
  obtain ⟨l, e, f⟩ := x.pre
  rw [e] at e3
  by_cases hk : k < ρ.length
  · rw [List.getElem?_append_left hk] at e3
    have hs : k < S.length := by rw [← g.len]; exact hk
    by_cases hd : S[k] = Cell.dead
    · have := x.dead k (by rw [List.getElem?_eq_getElem hs, hd])
      rw [e1] at this; cases this; exact e2 rfl
    · exact n ⟨k, S[k], List.getElem?_eq_getElem hs, hd, e3⟩
  · rw [List.getElem?_append_right (by omega)] at e3
    rw [f a (List.mem_of_getElem? e3)] at h; cases h
theorem Nx.none_back (x : Nx S ρ H S' ρ' H') (g : Good M S ρ H) (g' : Good M S' ρ' H') {a : Addr} (h : H' a = none) : H a = none := by
  cases q : H a with
  | none => rfl
  | some o =>
    by_cases l : Lv S ρ a
    · obtain ⟨o', e⟩ := g'.there (x.mem l.mem)
      rw [h] at e; cases e
    · rw [x.kept a o q l] at h; cases h
theorem Nx.trans (x : Nx S ρ H S1 ρ1 H1) (g : Good M S ρ H) (g1 : Good M S1 ρ1 H1) (y : Nx S1 ρ1 H1 S2 ρ2 H2) : Nx S ρ H S2 ρ2 H2 := by
  refine ⟨?_, fun n h => y.dead n (x.dead n h), fun a o h l => y.kept a o (x.kept a o h l) (x.lv g h l)⟩
  obtain ⟨l1, e1, f1⟩ := x.pre
  obtain ⟨l2, e2, f2⟩ := y.pre
  refine ⟨l1 ++ l2, by rw [e2, e1, List.append_assoc], fun a ha => ?_⟩
  rcases List.mem_append.mp ha with z | z
  · exact f1 a z
  · exact x.none_back g g1 (f2 a z)
mutual
theorem VR.nx (x : Nx S ρ H S' ρ' H') (g : Good M S ρ H) : ∀ {v : V} {d : D}, VR M S ρ H v d → VR M S' ρ' H' v d
  | _, _, .non => .non
  | _, _, .bl b => .bl b
  | _, _, .int i => .int i
  | _, _, .str s => .str s
  | _, _, .tup h hz r => .tup (x.kept _ _ h fun l => g.tup_free h l.mem) hz (VRs.nx x g r)
  | _, _, .tupI h hc hz r => .tupI (x.kept _ _ h fun l => g.frz_free h l.mem) hc hz (VRs.nx x g r)
  | _, _, .loc h => .loc (x.at h)
  | _, _, .obj h hl r => .obj (x.kept _ _ h hl) (x.lv g h hl) (FRs.nx x g r)
  | _, _, .err h hl h2 hl2 r => .err (x.kept _ _ h hl) (x.lv g h hl) (x.kept _ _ h2 hl2) (x.lv g h2 hl2) (VR.nx x g r)
theorem VRs.nx (x : Nx S ρ H S' ρ' H') (g : Good M S ρ H) : ∀ {v : List V} {d : List D}, VRs M S ρ H v d → VRs M S' ρ' H' v d
  | _, _, .nil => .nil
  | _, _, .cons h r => .cons (VR.nx x g h) (VRs.nx x g r)
theorem FRs.nx (x : Nx S ρ H S' ρ' H') (g : Good M S ρ H) : ∀ {v : List (Str × V)} {d : List (Nat × D)}, FRs M S ρ H v d → FRs M S' ρ' H' v d
  | _, _, .nil => .nil
  | _, _, .cons hk h r => .cons hk (VR.nx x g h) (FRs.nx x g r)
end
theorem VRs.length : ∀ {vs : List V} {ds : List D}, VRs M S ρ H vs ds → vs.length = ds.length
  | _, _, .nil => rfl
  | _, _, .cons _ r => by simp [VRs.length r]
theorem VRs.get : ∀ {vs : List V} {ds : List D} {i : Nat} {d : D}, VRs M S ρ H vs ds → ds[i]? = some d → ∃ v, vs[i]? = some v ∧ VR M S ρ H v d
  | _, _, _, _, .nil, e => by simp at e
  | _, _, 0, _, .cons h _, e => by simp at e; subst e; exact ⟨_, rfl, h⟩
  | _, _, i + 1, _, .cons _ r, e => by
    obtain ⟨v, e1, e2⟩ := VRs.get (i := i) r (by simpa using e)
    exact ⟨v, by simpa using e1, e2⟩
theorem VRs.get' : ∀ {vs : List V} {ds : List D} {i : Nat} {v : V}, VRs M S ρ H vs ds → vs[i]? = some v → ∃ d, ds[i]? = some d ∧ VR M S ρ H v d
  | _, _, _, _, .nil, e => by simp at e
  | _, _, 0, _, .cons h _, e => by simp at e; subst e; exact ⟨_, rfl, h⟩
  | _, _, i + 1, _, .cons _ r, e => by
    obtain ⟨v, e1, e2⟩ := VRs.get' (i := i) r (by simpa using e)
    exact ⟨v, by simpa using e1, e2⟩
theorem VRs.append : ∀ {vs ws : List V} {ds es : List D}, VRs M S ρ H vs ds → VRs M S ρ H ws es → VRs M S ρ H (vs ++ ws) (ds ++ es)
  | _, _, _, _, .nil, s => s
  | _, _, _, _, .cons h r, s => .cons h (VRs.append r s)
theorem VRs.take : ∀ {vs : List V} {ds : List D} (n : Nat), VRs M S ρ H vs ds → VRs M S ρ H (vs.take n) (ds.take n)
  | _, _, 0, _ => .nil
  | _, _, _ + 1, .nil => .nil
  | _, _, n + 1, .cons h r => .cons h (VRs.take n r)
theorem VRs.drop : ∀ {vs : List V} {ds : List D} (n : Nat), VRs M S ρ H vs ds → VRs M S ρ H (vs.drop n) (ds.drop n)
  | _, _, 0, r => r
  | _, _, _ + 1, .nil => .nil
  | _, _, n + 1, .cons _ r => VRs.drop n r
theorem VRs.reverse : ∀ {vs : List V} {ds : List D}, VRs M S ρ H vs ds → VRs M S ρ H vs.reverse ds.reverse
  | _, _, .nil => .nil
  | _, _, .cons h r => by simpa using VRs.append (VRs.reverse r) (.cons h .nil)
theorem VRs.set {v : V} {d : D} (h : VR M S ρ H v d) : ∀ {vs : List V} {ds : List D} (n : Nat), VRs M S ρ H vs ds → VRs M S ρ H (vs.set n v) (ds.set n d)
  | _, _, _, .nil => .nil
  | _, _, 0, .cons _ r => .cons h r
  | _, _, n + 1, .cons q r => .cons q (VRs.set h n r)
theorem VRs.flat {vs : List V} {ds : List D} (r : VRs M S ρ H vs ds) : ∀ k : Nat, VRs M S ρ H (List.replicate k vs).flatten (List.replicate k ds).flatten
  | 0 => .nil
  | k + 1 => by
    rw [List.replicate_succ, List.replicate_succ, List.flatten_cons, List.flatten_cons]
    exact VRs.append r (VRs.flat r k)

/-- an expression's worth, from the heap H0 on: a new list stands nowhere yet -/
inductive SqR (M : Nm) (H0 : Hp) (S : Store) (ρ : List Addr) (H : Hp) : V → Sq → Prop where
  | val {v : V} {d : D} (h : VR M S ρ H v d) : SqR M H0 S ρ H v (.val d)
  | fresh {a : Addr} {vs : List V} {ds : List D} (h : H a = some (.lst vs)) (hz : vs.length ≤ sizeLine) (r : VRs M S ρ H vs ds) (hn : a ∉ ρ) (h0 : H0 a = none) : SqR M H0 S ρ H (.ref a) (.fresh ds)
theorem SqR.nx {H0 : Hp} {v : V} {q : Sq} (x : Nx S ρ H S' ρ' H') (g : Good M S ρ H) (r : SqR M H0 S ρ H v q) : SqR M H0 S' ρ' H' v q := by
  cases r with
  | val h => exact .val (h.nx x g)
  | fresh h hz r hn h0 => exact .fresh (x.kept _ _ h fun l => hn l.mem) hz (r.nx x g) (x.notin h hn) h0
/-- the earlier heap -/
theorem SqR.back {H0 : Hp} {v : V} {q : Sq} {Sx : Store} {ρx : List Addr} (x : Nx Sx ρx H0 S ρ H) (gx : Good M Sx ρx H0) (g : Good M S ρ H) (r : SqR M H S' ρ' H' v q) : SqR M H0 S' ρ' H' v q := by
  cases r with
  | val h => exact .val h
  | fresh h hz r hn h0 => exact .fresh h hz r hn (x.none_back gx g h0)

/-! ### new things -/
section
variable {a : Addr} {o : HO}
theorem Nx.alloc (g : Good M S ρ H) (h : H a = none) : Nx S ρ H S ρ (upd H a o) :=
  ⟨⟨[], by simp, fun _ z => by cases z⟩, fun _ z => z, fun b u e _ => by rw [upd_ne (ne_of_none e h)]; exact e⟩
theorem CellR.nx {b : Addr} {c : Cell} (x : Nx S ρ H S' ρ' H') (g : Good M S ρ H) (r : CellR M S ρ H b c) (e : H' b = H b) : CellR M S' ρ' H' b c := by
  cases r with
  | lst h hz r => exact .lst (by rw [e]; exact h) hz (r.nx x g)
  | ro h hz r =>
    refine .ro ?_ hz (r.nx x g)
    rcases h with h | ⟨o, h⟩
    · exact .inl (by rw [e]; exact h)
    · exact .inr ⟨o, by rw [e]; exact h⟩
  | ins h r => exact .ins (by rw [e]; exact h) (r.nx x g)
  | dic h => exact .dic (by rw [e]; exact h)
  | dead h => exact .dead (by rw [e]; exact h)
/-- a new object that no cell is -/
theorem Good.alloc (g : Good M S ρ H) (h : H a = none) : Good M S ρ (upd H a o) := by
  refine ⟨g.len, g.nd, fun n c b e1 e2 => (g.cells n c b e1 e2).nx (Nx.alloc g h) g ?_⟩
  have : b ≠ a := fun z => g.fresh h (by rw [← z]; exact List.mem_of_getElem? e2)
  exact upd_ne this
theorem VR.alloc {v : V} {d : D} (g : Good M S ρ H) (h : H a = none) (r : VR M S ρ H v d) : VR M S ρ (upd H a o) v d := r.nx (Nx.alloc g h) g
theorem VRs.alloc {v : List V} {d : List D} (g : Good M S ρ H) (h : H a = none) (r : VRs M S ρ H v d) : VRs M S ρ (upd H a o) v d := r.nx (Nx.alloc g h) g
theorem VR.newTup {vs : List V} {ds : List D} (g : Good M S ρ H) (h : H a = none) (hz : vs.length ≤ sizeLine) (r : VRs M S ρ H vs ds) : VR M S ρ (upd H a (.tup vs)) (.ref a) (.tup ds) :=
  .tup upd_same hz (r.alloc g h)
theorem SqR.newLst {H0 : Hp} {vs : List V} {ds : List D} (g : Good M S ρ H) (h : H a = none) (h0 : H0 a = none) (hz : vs.length ≤ sizeLine) (r : VRs M S ρ H vs ds) : SqR M H0 S ρ (upd H a (.lst vs)) (.ref a) (.fresh ds) :=
  .fresh upd_same hz (r.alloc g h) (g.fresh h) h0
end

/-! ### a new list is given a number -/
section
variable {a : Addr} {vs : List V} {ds : List D}
theorem Lv.push (hn : a ∉ ρ) (hl : ρ.length = S.length) {b : Addr} (hb : b ≠ a) {c : Cell} : Lv (S ++ [c]) (ρ ++ [a]) b ↔ Lv S ρ b := by
  constructor
  · rintro ⟨n, d, e1, e2, e3⟩
    by_cases h : n < S.length
    · rw [List.getElem?_append_left h] at e1
      rw [List.getElem?_append_left (by omega)] at e3
      exact ⟨n, d, e1, e2, e3⟩
    · rw [List.getElem?_append_right (by omega)] at e3
      have : b ∈ [a] := List.mem_of_getElem? e3
      exact absurd (by simpa using this) hb
  · rintro ⟨n, d, e1, e2, e3⟩
    refine ⟨n, d, ?_, e2, ?_⟩
    · rw [List.getElem?_append_left (List.getElem?_eq_some_iff.mp e1).1]; exact e1
    · rw [List.getElem?_append_left (List.getElem?_eq_some_iff.mp e3).1]; exact e3
/-- what is neither an instance nor a thing of its own kind -/
def NoEx (o : HO) : Prop := (∀ C dx fs, o ≠ .ins C dx fs) ∧ ∀ φ, o ≠ .ext φ
mutual
theorem VR.push {c : Cell} {o : HO} (ha : H a = some o) (ho : NoEx o) (hn : a ∉ ρ) (hl : ρ.length = S.length) : ∀ {v : V} {d : D}, VR M S ρ H v d → VR M (S ++ [c]) (ρ ++ [a]) H v d
  | _, _, .non => .non
  | _, _, .bl b => .bl b
  | _, _, .int i => .int i
  | _, _, .str s => .str s
  | _, _, .tup h hz r => .tup h hz (VRs.push ha ho hn hl r)
  | _, _, .tupI h hc hz r => .tupI h hc hz (VRs.push ha ho hn hl r)
  | _, _, .loc h => .loc (by rw [List.getElem?_append_left (List.getElem?_eq_some_iff.mp h).1]; exact h)
  | _, _, .obj (a := b) h hl' r => .obj h (fun z => hl' ((Lv.push hn hl (fun e => by
      rw [e, ha] at h
      exact ho.1 _ _ _ (Option.some.inj h))).mp z)) (FRs.push ha ho hn hl r)
  | _, _, .err h hl' h2 hl2 r => .err h (fun z => hl' ((Lv.push hn hl (fun e => by
      rw [e, ha] at h
      exact ho.2 _ (Option.some.inj h))).mp z)) h2 (fun z => hl2 ((Lv.push hn hl (fun e => by
      rw [e, ha] at h2
      exact ho.2 _ (Option.some.inj h2))).mp z)) (VR.push ha ho hn hl r)
theorem VRs.push {c : Cell} {o : HO} (ha : H a = some o) (ho : NoEx o) (hn : a ∉ ρ) (hl : ρ.length = S.length) : ∀ {v : List V} {d : List D}, VRs M S ρ H v d → VRs M (S ++ [c]) (ρ ++ [a]) H v d
  | _, _, .nil => .nil
  | _, _, .cons h r => .cons (VR.push ha ho hn hl h) (VRs.push ha ho hn hl r)
theorem FRs.push {c : Cell} {o : HO} (ha : H a = some o) (ho : NoEx o) (hn : a ∉ ρ) (hl : ρ.length = S.length) : ∀ {v : List (Str × V)} {d : List (Nat × D)}, FRs M S ρ H v d → FRs M (S ++ [c]) (ρ ++ [a]) H v d
  | _, _, .nil => .nil
  | _, _, .cons hk h r => .cons hk (VR.push ha ho hn hl h) (FRs.push ha ho hn hl r)
end
theorem CellR.push {b : Addr} {c k : Cell} {o : HO} (ha : H a = some o) (ho : NoEx o) (hn : a ∉ ρ) (hl : ρ.length = S.length) (r : CellR M S ρ H b k) : CellR M (S ++ [c]) (ρ ++ [a]) H b k := by
  cases r with
  | lst h hz r => exact .lst h hz (r.push ha ho hn hl)
  | ro h hz r => exact .ro h hz (r.push ha ho hn hl)
  | ins h r => exact .ins h (r.push ha ho hn hl)
  | dic h => exact .dic h
  | dead h => exact .dead h
theorem Good.push {c : Cell} {o : HO} (g : Good M S ρ H) (ha : H a = some o) (ho : NoEx o) (hn : a ∉ ρ) (hc : CellR M (S ++ [c]) (ρ ++ [a]) H a c) : Good M (S ++ [c]) (ρ ++ [a]) H := by
  refine ⟨by simp [g.len], ?_, fun n k b e1 e2 => ?_⟩
  · rw [List.nodup_append]
    refine ⟨g.nd, by simp, fun x hx y hy => ?_⟩
    have : y = a := by simpa using hy
    rw [this]; exact fun z => hn (by rw [← z]; exact hx)
  · by_cases h : n < S.length
    · rw [List.getElem?_append_left h] at e1
      rw [List.getElem?_append_left (by rw [g.len]; exact h)] at e2
      exact (g.cells n k b e1 e2).push ha ho hn g.len
    · have hn' : n = S.length := by
        have := (List.getElem?_eq_some_iff.mp e1).1
        simp at this; omega
      subst hn'
      rw [List.getElem?_append_right (Nat.le_refl _)] at e1
      rw [List.getElem?_append_right (by rw [g.len]; exact Nat.le_refl _)] at e2
      rw [g.len] at e2
      simp at e1 e2
      subst e1; subst e2
      exact hc
end
/-! ### a new thing that is given a number at once -/
section
variable {a : Addr} {c : Cell} {o : HO}
mutual
theorem VR.new (ha : H a = none) (g : Good M S ρ H) : ∀ {v : V} {d : D}, VR M S ρ H v d → VR M (S ++ [c]) (ρ ++ [a]) (upd H a o) v d
  | _, _, .non => .non
  | _, _, .bl b => .bl b
  | _, _, .int i => .int i
  | _, _, .str s => .str s
  | _, _, .tup h hz r => .tup (by rw [upd_ne (ne_of_none h ha)]; exact h) hz (VRs.new ha g r)
  | _, _, .tupI h hc hz r => .tupI (by rw [upd_ne (ne_of_none h ha)]; exact h) hc hz (VRs.new ha g r)
  | _, _, .loc h => .loc (by rw [List.getElem?_append_left (List.getElem?_eq_some_iff.mp h).1]; exact h)
  | _, _, .obj h hl' r => .obj (by rw [upd_ne (ne_of_none h ha)]; exact h) (fun z => hl' ((Lv.push (g.fresh ha) g.len (ne_of_none h ha)).mp z)) (FRs.new ha g r)
  | _, _, .err h hl' h2 hl2 r => .err (by rw [upd_ne (ne_of_none h ha)]; exact h) (fun z => hl' ((Lv.push (g.fresh ha) g.len (ne_of_none h ha)).mp z)) (by rw [upd_ne (ne_of_none h2 ha)]; exact h2) (fun z => hl2 ((Lv.push (g.fresh ha) g.len (ne_of_none h2 ha)).mp z)) (VR.new ha g r)
theorem VRs.new (ha : H a = none) (g : Good M S ρ H) : ∀ {v : List V} {d : List D}, VRs M S ρ H v d → VRs M (S ++ [c]) (ρ ++ [a]) (upd H a o) v d
  | _, _, .nil => .nil
  | _, _, .cons h r => .cons (VR.new ha g h) (VRs.new ha g r)
theorem FRs.new (ha : H a = none) (g : Good M S ρ H) : ∀ {v : List (Str × V)} {d : List (Nat × D)}, FRs M S ρ H v d → FRs M (S ++ [c]) (ρ ++ [a]) (upd H a o) v d
  | _, _, .nil => .nil
  | _, _, .cons hk h r => .cons hk (VR.new ha g h) (FRs.new ha g r)
end
theorem CellR.new {b : Addr} {k : Cell} (ha : H a = none) (g : Good M S ρ H) (hb : b ≠ a) (r : CellR M S ρ H b k) : CellR M (S ++ [c]) (ρ ++ [a]) (upd H a o) b k := by
  have e : upd H a o b = H b := upd_ne hb
  cases r with
  | lst h hz r => exact .lst (by rw [e]; exact h) hz (r.new ha g)
  | ro h hz r =>
    refine .ro ?_ hz (r.new ha g)
    rcases h with h | ⟨o, h⟩
    · exact .inl (by rw [e]; exact h)
    · exact .inr ⟨o, by rw [e]; exact h⟩
  | ins h r => exact .ins (by rw [e]; exact h) (r.new ha g)
  | dic h => exact .dic (by rw [e]; exact h)
  | dead h => exact .dead (by rw [e]; exact h)
theorem Good.new (ha : H a = none) (g : Good M S ρ H) (hc : CellR M (S ++ [c]) (ρ ++ [a]) (upd H a o) a c) : Good M (S ++ [c]) (ρ ++ [a]) (upd H a o) := by
  refine ⟨by simp [g.len], ?_, fun n k b e1 e2 => ?_⟩
  · rw [List.nodup_append]
    refine ⟨g.nd, by simp, fun x hx y hy => ?_⟩
    have : y = a := by simpa using hy
    rw [this]; exact fun z => g.fresh ha (by rw [← z]; exact hx)
  · by_cases h : n < S.length
    · rw [List.getElem?_append_left h] at e1
      rw [List.getElem?_append_left (by rw [g.len]; exact h)] at e2
      exact (g.cells n k b e1 e2).new ha g fun z => g.fresh ha (by rw [← z]; exact List.mem_of_getElem? e2)
    · have hn' : n = S.length := by
        have := (List.getElem?_eq_some_iff.mp e1).1
        simp at this; omega
      subst hn'
      rw [List.getElem?_append_right (Nat.le_refl _)] at e1
      rw [List.getElem?_append_right (by rw [g.len]; exact Nat.le_refl _)] at e2
      rw [g.len] at e2
      simp at e1 e2
      subst e1; subst e2
      exact hc
theorem Nx.new (ha : H a = none) (g : Good M S ρ H) : Nx S ρ H (S ++ [c]) (ρ ++ [a]) (upd H a o) := by
  refine ⟨⟨[a], rfl, fun b hb => ?_⟩, fun n h => ?_, fun b u e _ => by rw [upd_ne (ne_of_none e ha)]; exact e⟩
  · rw [show b = a by simpa using hb]; exact ha
  · rw [List.getElem?_append_left (List.getElem?_eq_some_iff.mp h).1]; exact h
end
/-! ### an instance that never changes again -/
section
variable {n : Nat}
theorem Lv.set_dead {b : Addr} (l : Lv (S.set n .dead) ρ b) : Lv S ρ b := by
  obtain ⟨m, c, e1, e2, e3⟩ := l
  by_cases h : n = m
  · subst h
    by_cases hl : n < S.length
    · rw [List.getElem?_set_self hl] at e1
      cases e1; exact absurd rfl e2
    · rw [List.getElem?_eq_none (by simpa using hl)] at e1; cases e1
  · rw [List.getElem?_set_ne h] at e1
    exact ⟨m, c, e1, e2, e3⟩
mutual
theorem VR.fin : ∀ {v : V} {d : D}, VR M S ρ H v d → VR M (S.set n .dead) ρ H v d
  | _, _, .non => .non
  | _, _, .bl b => .bl b
  | _, _, .int i => .int i
  | _, _, .str s => .str s
  | _, _, .tup h hz r => .tup h hz (VRs.fin r)
  | _, _, .tupI h hc hz r => .tupI h hc hz (VRs.fin r)
  | _, _, .loc h => .loc h
  | _, _, .obj h hl' r => .obj h (fun z => hl' z.set_dead) (FRs.fin r)
  | _, _, .err h hl' h2 hl2 r => .err h (fun z => hl' z.set_dead) h2 (fun z => hl2 z.set_dead) (VR.fin r)
theorem VRs.fin : ∀ {v : List V} {d : List D}, VRs M S ρ H v d → VRs M (S.set n .dead) ρ H v d
  | _, _, .nil => .nil
  | _, _, .cons h r => .cons (VR.fin h) (VRs.fin r)
theorem FRs.fin : ∀ {v : List (Str × V)} {d : List (Nat × D)}, FRs M S ρ H v d → FRs M (S.set n .dead) ρ H v d
  | _, _, .nil => .nil
  | _, _, .cons hk h r => .cons hk (VR.fin h) (FRs.fin r)
end
theorem CellR.fin {b : Addr} {k : Cell} (r : CellR M S ρ H b k) : CellR M (S.set n .dead) ρ H b k := by
  cases r with
  | lst h hz r => exact .lst h hz r.fin
  | ro h hz r => exact .ro h hz r.fin
  | ins h r => exact .ins h r.fin
  | dic h => exact .dic h
  | dead h => exact .dead h
theorem Good.fin {a C dx : Addr} {fs : List (Str × V)} (g : Good M S ρ H) (hn : ρ[n]? = some a) (ha : H a = some (.ins C dx fs)) : Good M (S.set n .dead) ρ H := by
  refine ⟨by simpa using g.len, g.nd, fun m k b e1 e2 => ?_⟩
  by_cases h : n = m
  · subst h
    rw [hn] at e2; cases e2
    by_cases hl : n < S.length
    · rw [List.getElem?_set_self hl] at e1
      cases e1; exact .dead ha
    · rw [List.getElem?_eq_none (by simpa using hl)] at e1; cases e1
  · rw [List.getElem?_set_ne h] at e1
    exact (g.cells m k b e1 e2).fin
theorem Nx.fin : Nx S ρ H (S.set n .dead) ρ H := by
  refine ⟨⟨[], by simp, fun _ h => by cases h⟩, fun m h => ?_, fun _ _ h _ => h⟩
  by_cases q : n = m
  · subst q
    rw [List.getElem?_set_self (List.getElem?_eq_some_iff.mp h).1]
  · rw [List.getElem?_set_ne q]; exact h
theorem Good.gone {a : Addr} (g : Good M S ρ H) (hn : ρ[n]? = some a) : ¬ Lv (S.set n .dead) ρ a := by
  rintro ⟨m, c, e1, e2, e3⟩
  obtain ⟨h1, h2⟩ := List.getElem?_eq_some_iff.mp hn
  obtain ⟨h3, h4⟩ := List.getElem?_eq_some_iff.mp e3
  have : n = m := (List.getElem_inj g.nd).mp (h2.trans h4.symm)
  subst this
  by_cases hl : n < S.length
  · rw [List.getElem?_set_self hl] at e1
    cases e1; exact e2 rfl
  · rw [List.getElem?_eq_none (by simpa using hl)] at e1; cases e1
end
end
end DI
end

section
set_option Elab.async false
set_option linter.all false
/-! DIPost: what is wanted behind a piece of the program. -/
namespace DI
open PySem PySem.Spec L2

def PostG {α : Type} (M : Nm) (G : Gx) (E : XK) (S : Store) (ρ : List Addr) (H : Hp) (r : Res α) (K : α → Store → List Addr → Hp → Prop) : Prop := match r with
  | .ok a S' => ∀ ρ' H', Nx S ρ H S' ρ' H' → Good M S' ρ' H' → K a S' ρ' H'
  | .exc c d S' => ∀ ρ' H' v dx, Nx S ρ H S' ρ' H' → Good M S' ρ' H' → VR M S' ρ' H' v d → H' dx = some (.xd [(M.an (G.xattr c), v)]) → E (.ref (M.ca c)) (some dx) H'
  | .bad => False

section
variable {α β : Type} {M : Nm} {G : Gx} {E : XK} {S S1 : Store} {ρ ρ1 : List Addr} {H H1 : Hp} {K K' : α → Store → List Addr → Hp → Prop}
theorem PostG.imp {r : Res α} (h : PostG M G E S ρ H r K) (f : ∀ a S' ρ' H', r = .ok a S' → Nx S ρ H S' ρ' H' → Good M S' ρ' H' → K a S' ρ' H' → K' a S' ρ' H') : PostG M G E S ρ H r K' := by
  cases r with
  | ok a S' => exact fun ρ' H' x g => f a S' ρ' H' rfl x g (h ρ' H' x g)
  | exc c d S' => exact h
  | bad => exact h
/-- from a later state -/
theorem PostG.later {r : Res α} (g : Good M S ρ H) (g1 : Good M S1 ρ1 H1) (x : Nx S ρ H S1 ρ1 H1) (h : PostG M G E S ρ H r K) : PostG M G E S1 ρ1 H1 r K := by
  cases r with
  | ok a S' => exact fun ρ' H' y g' => h ρ' H' (x.trans g g1 y) g'
  | exc c d S' => exact fun ρ' H' v dx y g' => h ρ' H' v dx (x.trans g g1 y) g'
  | bad => exact h
theorem PostG.bind {K : β → Store → List Addr → Hp → Prop} {r : Res α} {f : α → Store → Res β} (g : Good M S ρ H) (h : PostG M G E S ρ H (r.bind f) K) :
    PostG M G E S ρ H r fun a S1 ρ1 H1 => PostG M G E S1 ρ1 H1 (f a S1) K := by
  cases r with
  | ok a S' => exact fun ρ' H' x g' => PostG.later g g' x h
  | exc c d S' => exact h
  | bad => exact h
theorem PostG.here {a : α} (g : Good M S ρ H) (h : PostG M G E S ρ H (.ok a S) K) : K a S ρ H := h ρ H Nx.refl g
theorem PostG.lift_ {o : Option α} (h : PostG M G E S ρ H (lift o S) K) : ∃ a, o = some a ∧ PostG M G E S ρ H (.ok a S) K := by
  cases o with
  | none => exact h.elim
  | some a => exact ⟨a, rfl, h⟩
end

/-- the slots -/
structure ER (M : Nm) (S : Store) (ρ : List Addr) (H : Hp) (σ : St) (σd : Env) : Prop where
  len : σ.length = σd.length
  at_ : ∀ (i : Nat) (d : D), σd[i]? = some (some d) → ∃ v, σ[i]? = some (some v) ∧ VR M S ρ H v d
theorem ER.nx {M : Nm} {S S' : Store} {ρ ρ' : List Addr} {H H' : Hp} {σ : St} {σd : Env} (e : ER M S ρ H σ σd) (x : Nx S ρ H S' ρ' H') (g : Good M S ρ H) : ER M S' ρ' H' σ σd :=
  ⟨e.len, fun i d h => by obtain ⟨v, e1, e2⟩ := e.at_ i d h; exact ⟨v, e1, e2.nx x g⟩⟩
theorem ER.set {M : Nm} {S : Store} {ρ : List Addr} {H : Hp} {σ : St} {σd : Env} {v : V} {d : D} (e : ER M S ρ H σ σd) (i : Nat) (r : VR M S ρ H v d) : ER M S ρ H (σ.set i (some v)) (σd.set i (some d)) := by
  refine ⟨by simpa using e.len, fun j d' h => ?_⟩
  by_cases hj : i = j
  · subst hj
    by_cases hi : i < σd.length
    · rw [List.getElem?_set_self hi] at h
      cases h
      exact ⟨v, by rw [List.getElem?_set_self (by rw [e.len]; exact hi)], r⟩
    · rw [List.getElem?_eq_none (by simpa using hi)] at h; cases h
  · rw [List.getElem?_set_ne hj] at h
    obtain ⟨w', e1, e2⟩ := e.at_ j d' h
    exact ⟨w', by rw [List.getElem?_set_ne hj]; exact e1, e2⟩

/-- what a context takes of exceptions -/
def XT (X : Cx) (E : XK) : Prop := Takes X (fun c d _ H => E c d H)

abbrev KE (M : Nm) (H : Hp) (Q : VK) : Sq → Store → List Addr → Hp → Prop := fun q S' ρ' H' => ∀ v, SqR M H S' ρ' H' v q → Q v H'
def tEv (X : Cx) (M : Nm) (G : Gx) (m : Env → Store → Res Sq) : TE := fun σ H Q => ∃ E S ρ σd, XT X E ∧ Good M S ρ H ∧ ER M S ρ H σ σd ∧ PostG M G E S ρ H (m σd S) (KE M H Q)
def tTv (X : Cx) (M : Nm) (G : Gx) (m : Env → Store → Res Bool) : TT := fun σ H Q => ∃ E S ρ σd, XT X E ∧ Good M S ρ H ∧ ER M S ρ H σ σd ∧ PostG M G E S ρ H (m σd S) fun b _ _ H' => Q b H'
def tAv (X : Cx) (M : Nm) (G : Gx) (m : Env → Store → Res (List D)) : TA := fun σ H Q => ∃ E S ρ σd, XT X E ∧ Good M S ρ H ∧ ER M S ρ H σ σd ∧ PostG M G E S ρ H (m σd S) fun ds S' ρ' H' => ∀ vs, VRs M S' ρ' H' vs ds → Q vs H'
def SE (X : Cx) (M : Nm) (G : Gx) (e : Expr) (m : Env → Store → Res Sq) : Prop := PE X e (tEv X M G m)
def SA (X : Cx) (M : Nm) (G : Gx) (es : List Expr) (m : Env → Store → Res (List D)) : Prop := PA X es (tAv X M G m)
def ST (X : Cx) (M : Nm) (G : Gx) (e : Expr) (m : Env → Store → Res Bool) : Prop := PT X e (tTv X M G m)
def SW (X : Cx) (M : Nm) (G : Gx) (e : Expr) (m : Env → Store → Res Bool) : Prop := PW X e (tTv X M G m)
abbrev tr (m : Env → Store → Res Sq) : Env → Store → Res Bool := fun σ S => (m σ S).bind fun p S1 => lift (truthQ S1 p) S1

section
variable {X : Cx} {M : Nm} {G : Gx}
/-- two expressions one after the other -/
theorem two {a b : Env → Store → Res Sq} {g : Sq → Sq → Store → Res Sq} {E : XK} {S : Store} {ρ : List Addr} {H : Hp} {σ : St} {σd : Env} {Q : VK} {R : V → V → Hp → Prop}
    (xt : XT X E) (gd : Good M S ρ H) (er : ER M S ρ H σ σd) (h : PostG M G E S ρ H ((a σd S).bind fun p S1 => (b σd S1).bind fun q S2 => g p q S2) (KE M H Q))
    (k : ∀ p q x y S2 ρ2 H2, Nx S ρ H S2 ρ2 H2 → Good M S2 ρ2 H2 → SqR M H S2 ρ2 H2 x p → SqR M H S2 ρ2 H2 y q → PostG M G E S2 ρ2 H2 (g p q S2) (KE M H Q) → R x y H2) :
    tEv X M G a σ H fun x H1 => tEv X M G b σ H1 fun y H2 => R x y H2 := by
  refine ⟨E, S, ρ, σd, xt, gd, er, (PostG.bind gd h).imp fun p S1 ρ1 H1 e1 n1 g1 h1 x hx => ?_⟩
  refine ⟨E, S1, ρ1, σd, xt, g1, er.nx n1 gd, (PostG.bind g1 h1).imp fun q S2 ρ2 H2 e2 n2 g2 h2 y hy => ?_⟩
  exact k p q x y S2 ρ2 H2 (n1.trans gd g1 n2) g2 (hx.nx n2 g1) (hy.back n1 gd g1) h2
theorem one {a : Env → Store → Res Sq} {g : Sq → Store → Res Sq} {E : XK} {S : Store} {ρ : List Addr} {H : Hp} {σ : St} {σd : Env} {Q : VK} {R : V → Hp → Prop}
    (xt : XT X E) (gd : Good M S ρ H) (er : ER M S ρ H σ σd) (h : PostG M G E S ρ H ((a σd S).bind fun p S1 => g p S1) (KE M H Q))
    (k : ∀ p x S2 ρ2 H2, Nx S ρ H S2 ρ2 H2 → Good M S2 ρ2 H2 → SqR M H S2 ρ2 H2 x p → PostG M G E S2 ρ2 H2 (g p S2) (KE M H Q) → R x H2) :
    tEv X M G a σ H fun x H1 => R x H1 :=
  ⟨E, S, ρ, σd, xt, gd, er, (PostG.bind gd h).imp fun p S1 ρ1 H1 e1 n1 g1 h1 x hx => k p x S1 ρ1 H1 n1 g1 hx h1⟩

theorem se_var {i : Nat} {x : Str} {pos : Pos} {cal} (hN : X.N[i]? = some x) (hv : Vis X.env.scope x) (hd : (x == ("__debug__" : Str)) = false) (hcd : (x == ("__classdict__" : Str)) = false) : SE X M G (.Name x pos) (ev G cal (.var i)) := by
  refine ⟨fun pins s σ H Q I h => (pe_var hN hv hd hcd).run pins s σ H Q I ?_⟩
  obtain ⟨E, S, ρ, σd, xt, gd, er, h⟩ := h
  unfold ev at h
  split at h
  · rename_i d e
    obtain ⟨v, e1, r⟩ := er.at_ i d e
    exact ⟨v, e1, h.here gd v (.val r)⟩
  · exact h.elim
theorem se_int {i : Int} {j pos cal} : SE X M G (.Constant (.int i) j pos) (ev G cal (.cn (.int i))) :=
  ⟨fun pins s σ H Q I h => pe_int.run pins s σ H Q I (by
    obtain ⟨E, S, ρ, σd, xt, gd, er, h⟩ := h
    unfold ev at h
    exact h.here gd _ (.val (.int i)))⟩
theorem se_bl {b : Bool} {j pos cal} : SE X M G (.Constant (.bool b) j pos) (ev G cal (.cn (.bl b))) :=
  ⟨fun pins s σ H Q I h => pe_bl.run pins s σ H Q I (by
    obtain ⟨E, S, ρ, σd, xt, gd, er, h⟩ := h
    unfold ev at h
    exact h.here gd _ (.val (.bl b)))⟩
theorem se_non {j pos cal} : SE X M G (.Constant .none j pos) (ev G cal (.cn .non)) :=
  ⟨fun pins s σ H Q I h => pe_non.run pins s σ H Q I (by
    obtain ⟨E, S, ρ, σd, xt, gd, er, h⟩ := h
    unfold ev at h
    exact h.here gd _ (.val .non))⟩
theorem se_str {x : Str} {j pos cal} : SE X M G (.Constant (.str x) j pos) (ev G cal (.cn (.str x))) :=
  ⟨fun pins s σ H Q I h => pe_str.run pins s σ H Q I (by
    obtain ⟨E, S, ρ, σd, xt, gd, er, h⟩ := h
    unfold ev at h
    exact h.here gd _ (.val (.str x)))⟩
theorem se_gint {x : Str} {n : Nat} {i : Int} {u : Value} {pos cal} (hg : Gl X x) (hm : X.mg x = some u) (r : RelV (.int i) u) (hd : (x == ("__debug__" : Str)) = false) : SE X M G (.Name x pos) (ev G cal (.gint n i)) :=
  ⟨fun pins s σ H Q I h => (pe_glob hg hm r hd).run pins s σ H Q I (by
    obtain ⟨E, S, ρ, σd, xt, gd, er, h⟩ := h
    unfold ev at h
    exact h.here gd _ (.val (.int i)))⟩
end
end DI
end

section
set_option Elab.async false
set_option linter.all false
/-! DIOps: operators. -/
namespace DI
open PySem PySem.Spec L2

section
variable {M : Nm} {S : Store} {ρ : List Addr} {H H0 : Hp} {x : V} {q : Sq} {ds : List D} {K : PySem.W.Frag}
theorem own_rep (g : Good M S ρ H) (r : SqR M H0 S ρ H x q) (h : ownOf S q = some ds) : ∃ a vs, x = .ref a ∧ H a = some (.lst vs) ∧ vs.length ≤ sizeLine ∧ VRs M S ρ H vs ds := by
  unfold ownOf at h
  split at h
  · cases h
    cases r with
    | fresh e hz r _ _ => exact ⟨_, _, rfl, e, hz, r⟩
  · rename_i n
    cases r with
    | val r =>
      cases r with
      | loc e =>
        split at h
        · rename_i xs e2
          cases h
          cases g.cells _ _ _ e2 e with
          | lst e3 hz r => exact ⟨_, _, rfl, e3, hz, r⟩
        · cases h
  · cases h
theorem lst_rep (g : Good M S ρ H) (r : SqR M H0 S ρ H x q) (h : lstOf S q = some ds) : ∃ a vs, x = .ref a ∧ SqL K H a vs ∧ vs.length ≤ sizeLine ∧ VRs M S ρ H vs ds := by
  unfold lstOf at h
  split at h
  · cases h
    cases r with
    | fresh e hz r _ _ => exact ⟨_, _, rfl, SqL.of e, hz, r⟩
  · rename_i n
    cases r with
    | val r =>
      cases r with
      | loc e =>
        split at h
        · rename_i xs e2
          cases h
          cases g.cells _ _ _ e2 e with
          | lst e3 hz r => exact ⟨_, _, rfl, SqL.of e3, hz, r⟩
        · rename_i xs e2
          cases h
          cases g.cells _ _ _ e2 e with
          | ro e3 hz r => exact ⟨_, _, rfl, .inl e3, hz, r⟩
        · cases h
  · cases h
theorem seq_rep (g : Good M S ρ H) (r : SqR M H0 S ρ H x q) (h : seqOf S q = some ds) : ∃ a vs, x = .ref a ∧ ((SqL K H a vs) ∨ (SqT K H a vs ∧ H a = some (.tup vs))) ∧ vs.length ≤ sizeLine ∧ VRs M S ρ H vs ds := by
  unfold seqOf at h
  split at h
  · cases h
    cases r with
    | val r =>
      cases r with
      | tup e hz r => exact ⟨_, _, rfl, .inr ⟨SqT.of e, e⟩, hz, r⟩
  · obtain ⟨a, vs, e1, e2, e3, e4⟩ := lst_rep (K := K) g r h
    exact ⟨a, vs, e1, .inl e2, e3, e4⟩
end

/-- an operation by data keeps to its rule by values -/
def OpOK (M : Nm) (f : Store → Sq → Sq → Option Sq) (r : R2) : Prop :=
  ∀ (H : Hp) (S2 : Store) (ρ2 : List Addr) (H2 : Hp) (x y : V) (p q w : Sq) (Q : VK), Good M S2 ρ2 H2 → (∀ a, H2 a = none → H a = none) → SqR M H S2 ρ2 H2 x p → SqR M H S2 ρ2 H2 y q → f S2 p q = some w →
    (∀ ρ' H', Nx S2 ρ2 H2 S2 ρ' H' → Good M S2 ρ' H' → KE M H Q w S2 ρ' H') → r x y H2 Q

section
variable {X : Cx} {M : Nm} {G : Gx} {a b : Expr} {pos : Pos} {ma mb : Env → Store → Res Sq}
theorem se_bin {f : Store → Sq → Sq → Option Sq} {op : Operator} {r : R2} (ho : OpR X (binaryOp op) r) (ok : OpOK M f r) (ha : SE X M G a ma) (hb : SE X M G b mb) :
    SE X M G (.BinOp a op b pos) (fun σ S => (ma σ S).bind fun p S1 => (mb σ S1).bind fun q S2 => lift (f S2 p q) S2) := by
  refine ⟨fun pins s σ H Q I h => (pe_op (pos := pos) ho ha hb).run pins s σ H Q I ?_⟩
  obtain ⟨E, S, ρ, σd, xt, gd, er, h⟩ := h
  refine two xt gd er h fun p q x y S2 ρ2 H2 n2 g2 hx hy h2 => ?_
  obtain ⟨w, e, h3⟩ := h2.lift_
  exact ok H S2 ρ2 H2 x y p q w Q g2 (fun a z => n2.none_back gd g2 z) hx hy e h3

/-! #### plus -/
abbrev rStr : R2 := fun x y H Q => ∃ i j, x = .str i ∧ y = .str j ∧ i.length + j.length ≤ sizeLine ∧ Q (.str (i ++ j)) H
abbrev rAdd4 (K : PySem.W.Frag) : R2 := fun x y H Q => (rI0 (fun i j => .int (i + j)) x y H Q ∨ rStr x y H Q) ∨ (rCatA K x y H Q ∨ rCat x y H Q)
theorem op_add4 : OpR X (binaryOp .Add) (rAdd4 X.K) := (op_add.or op_add_str).or (op_catA.or op_cat)
theorem VRs.nil_l {S : Store} {ρ : List Addr} {H : Hp} {ds : List D} (r : VRs M S ρ H [] ds) : ds = [] := by cases r; rfl
theorem VRs.nil_r {S : Store} {ρ : List Addr} {H : Hp} {vs : List V} (r : VRs M S ρ H vs []) : vs = [] := by cases r; rfl
theorem ok_add {K : PySem.W.Frag} : OpOK M addD (rAdd4 K) := by
  intro H S2 ρ2 H2 x y p q w Q g nb hx hy e k
  unfold addD at e
  split at e
  · cases hx with
    | val hx => cases hy with
      | val hy =>
        cases hx; cases hy; cases e
        exact .inl (.inl ⟨_, _, rfl, rfl, k _ _ Nx.refl g _ (.val (.int _))⟩)
  · cases hx with
    | val hx => cases hy with
      | val hy =>
        cases hx; cases hy
        split at e
        · rename_i hz
          cases e
          exact .inl (.inr ⟨_, _, rfl, rfl, hz, k _ _ Nx.refl g _ (.val (.str _))⟩)
        · cases e
  · cases hx with
    | val hx => cases hy with
      | val hy =>
        cases hx with
        | tup e1 z1 r1 => cases hy with
          | tup e2 z2 r2 =>
            split at e
            · rename_i hz
              cases e
              refine .inr (.inl ⟨_, _, _, _, rfl, rfl, SqT.of e1, SqT.of e2, by rw [r1.length, r2.length]; exact hz, fun hn => ?_, fun _ hn => ?_, fun h1 h2 p hp => ?_⟩)
              · subst hn
                cases r1
                exact k _ _ Nx.refl g _ (.val (.tup e2 z2 r2))
              · subst hn
                cases r2
                rw [List.append_nil] at k
                exact k _ _ Nx.refl g _ (.val (.tup e1 z1 r1))
              · exact k _ _ (Nx.alloc g hp) (g.alloc hp) _ (.val (VR.newTup g hp (by rw [List.length_append, r1.length, r2.length]; exact hz) (r1.append r2)))
            · cases e
  · split at e
    · rename_i a' b' e1 e2
      obtain ⟨a, vs, rfl, h1, z1, r1⟩ := own_rep g hx e1
      obtain ⟨b, ws, rfl, h2, z2, r2⟩ := own_rep g hy e2
      split at e
      · rename_i hz
        cases e
        refine .inr (.inr ⟨_, _, _, _, rfl, rfl, h1, h2, by rw [r1.length, r2.length]; exact hz, fun p hp => ?_⟩)
        exact k _ _ (Nx.alloc g hp) (g.alloc hp) _ (SqR.newLst g hp (nb p hp) (by rw [List.length_append, r1.length, r2.length]; exact hz) (r1.append r2))
      · cases e
    · cases e

/-! #### ints alone -/
theorem ok_int {c : Int → Int → Bool} {C : Int → Int → Prop} {f : Int → Int → Int} (hc : ∀ i j, c i j = true → C i j) : OpOK M (fun _ => intD c f) (rI C fun i j => .int (f i j)) := by
  intro H S2 ρ2 H2 x y p q w Q g nb hx hy e k
  have e : intD c f p q = some w := e
  unfold intD at e
  split at e
  · split at e
    · rename_i hz
      cases hx with
      | val hx => cases hy with
        | val hy =>
          cases hx; cases hy; cases e
          exact ⟨_, _, rfl, rfl, hc _ _ hz, k _ _ Nx.refl g _ (.val (.int _))⟩
    · cases e
  · cases e
theorem ok_int0 {f : Int → Int → Int} : OpOK M (fun _ => intD yes2 f) (rI0 fun i j => .int (f i j)) := by
  intro H S2 ρ2 H2 x y p q w Q g nb hx hy e k
  obtain ⟨i, j, e1, e2, _, r⟩ := ok_int (M := M) (c := yes2) (C := fun _ _ => True) (f := f) (fun _ _ _ => trivial) H S2 ρ2 H2 x y p q w Q g nb hx hy e k
  exact ⟨i, j, e1, e2, r⟩
def CDivB (i j : Int) : Prop := j ≠ 0 ∧ j.natAbs.log2 < 9000
theorem divOk_ok {i j : Int} (h : divOk i j = true) : CDivB i j := by
  unfold divOk at h
  simp only [Bool.and_eq_true, decide_eq_true_eq] at h
  exact h
theorem powOk_ok {i j : Int} (h : powOk i j = true) : CPow i j := by
  unfold powOk at h
  simp only [Bool.and_eq_true, decide_eq_true_eq] at h
  exact ⟨h.1, h.2.1, h.2.2⟩
theorem mulOk_ok {i j : Int} (h : mulOk i j = true) : CMul i j := by
  unfold mulOk at h
  simp only [Bool.and_eq_true, Bool.or_eq_true, decide_eq_true_eq] at h
  exact h
/-! #### times -/
/-- a tuple some times: none, once, more -/
def rRepA (K : PySem.W.Frag) : R2 := fun x y H Q => ∃ l k xs, x = .ref l ∧ y = .int k ∧ SqT K H l xs ∧ 0 ≤ k ∧ k ≤ 1000 ∧ xs.length ≤ 1000 ∧
  (((List.replicate k.toNat xs).flatten = xs → Q (.ref l) H) ∧ ∀ p, H p = none → Q (.ref p) (upd H p (.tup (List.replicate k.toNat xs).flatten)))
end
end DI
end

section
set_option Elab.async false
set_option linter.all false
set_option maxRecDepth 100000
/-! DIMul: a tuple or a list some times. -/
namespace DI
open PySem PySem.Spec L2
section
variable (l : Addr) (items : Array Value) (n : Nat) (sl : Array (Option Value)) (x : Int) (u : Tok) (dd : Option Addr)
theorem tmul_same (c0 : (decide (x < -(2 ^ 63)) || decide (x ≥ 2 ^ 63)) = false) (c1 : (items.isEmpty || x == 1) = true) :
    Meets (Builtin.«tuple.__mul__» ⟨[.ref l, .int x u], []⟩) (fun _ R s => s.heap.get? l = some { cls := .type "tuple", dict := dd, data := .seq items n, slots := sl } ∧ R (.ok (.ret (Value.ref l))) s) :=
  .of_wp fun prog w A R s h => by
    obtain ⟨hp, g, d, tk, os⟩ := s
    obtain ⟨hl, h⟩ := h
    have f1 := AutoSeq1.idx_int
    wp_walk using PySem.AutoSeq1.wpAny_loadPart' hl
    repeat (first
      | (refine wpAny_ite_false (decide_eq_false (by rw [c0]; exact Bool.false_ne_true)) ?_; wp_walk using PySem.AutoSeq1.wpAny_loadPart' hl)
      | (refine wpAny_ite_true (decide_eq_true (by rw [c1])) ?_; wp_walk using PySem.AutoSeq1.wpAny_loadPart' hl))
    exact ⟨_, rfl, h⟩
theorem tmul_none (c0 : (decide (x < -(2 ^ 63)) || decide (x ≥ 2 ^ 63)) = false) (c1 : (items.isEmpty || x == 1) = false) (c2 : (decide (x ≤ 0) || items.isEmpty) = true) :
    Meets (Builtin.«tuple.__mul__» ⟨[.ref l, .int x u], []⟩) (fun _ R s => s.heap.get? l = some { cls := .type "tuple", dict := dd, data := .seq items n, slots := sl } ∧
      R (.ok (.ret (Value.ref s.heap.objs.size))) { s with heap := s.heap.push { cls := Value.type "tuple", data := Data.seq #[] } }) :=
  .of_wp fun prog w A R s h => by
    obtain ⟨hp, g, d, tk, os⟩ := s
    obtain ⟨hl, h⟩ := h
    have f1 := AutoSeq1.idx_int
    wp_walk using PySem.AutoSeq1.wpAny_loadPart' hl
    repeat (first
      | (refine wpAny_ite_false (decide_eq_false (by rw [c0]; exact Bool.false_ne_true)) ?_; wp_walk using PySem.AutoSeq1.wpAny_loadPart' hl)
      | (refine wpAny_ite_false (decide_eq_false (by rw [c1]; exact Bool.false_ne_true)) ?_; wp_walk using PySem.AutoSeq1.wpAny_loadPart' hl)
      | (refine wpAny_ite_true (decide_eq_true (by rw [c2])) ?_; wp_walk using PySem.AutoSeq1.wpAny_loadPart' hl))
    exact ⟨_, rfl, h⟩
end

section
variable {X : Cx} {M : Nm}
/-- the road to tuple.__mul__ -/
theorem mul_road {prog : Program} {w : World} {A : Around} {E : Value → Shared → Prop} {s : Shared} {l : Addr} {items : Array Value} {dd : Option Addr} {n : Nat} {sl : Array (Option Value)} {k : Int} {t : Tok} {Q : Value → Shared → Prop}
    (ho : s.heap.get? l = some { cls := .type "tuple", dict := dd, data := .seq items n, slots := sl })
    (h : wpAny (model prog w) A (call (.builtin "tuple.__mul__") [.ref l, .int k t]) Q E s) : wpAny (model prog w) A (binaryOp .Mult (.ref l) (.int k t)) Q E s :=
  wpAny_binaryOp_repeat_ref (T := "tuple") (U := "int") (by decide) ⟨_, ho, rfl⟩ (fun s' => typeIs_int s' k t) noFill_tuple_mul PySem.F.fills_int_mul PySem.F.slot_int_rmul repeat_tuple PySem.F.slot_int_index.lookup
    (call_meets PySem.F.slot_int_rmul (typeIs_int s k t) PySem.F.entry_int_rmul (PySem.F.args_int_rmul_2 _ _) (int_rmul_tuple k t l items n dd sl) ⟨ho, rfl, ⟨_, ho, rfl⟩, h⟩)
abbrev rRepA2 (K : PySem.W.Frag) : R2 := fun x y H Q => rRepA K x y H Q
theorem flat_nil {α : Type} (k : Nat) : (List.replicate k ([] : List α)).flatten = [] := by
  induction k with
  | zero => rfl
  | succ k ih => rw [List.replicate_succ, List.flatten_cons, ih]; rfl
theorem op_repA : OpR X (binaryOp .Mult) (rRepA X.K) := by
  intro pins s σ H x y v u Q I rx ry h
  obtain ⟨l, k, xs, rfl, rfl, hT, h1, h2, hz, qs, q⟩ := h
  by_cases hbig : xs ≠ [] ∧ 2 ≤ k
  · exact op_repT pins s σ H _ _ v u Q I rx ry ⟨l, k, xs, rfl, rfl, hT, hbig.1, hbig.2, h2, hz, q⟩
  · cases rx
    obtain ⟨t, rfl⟩ := ry
    obtain ⟨its, r, ⟨⟨cls, dd, data, sl⟩, ho, hc, n, hd⟩, hs⟩ := I.tuple hT
    simp only at hc hd
    subst hc hd
    have c0 : (decide (k < -(2 ^ 63)) || decide (k ≥ 2 ^ 63)) = false := by
      rw [decide_eq_false (show ¬ k < -(2 ^ 63) by omega), decide_eq_false (show ¬ k ≥ 2 ^ 63 by omega)] <;> rfl
    refine mul_road ho ?_
    by_cases c1 : (its.toArray.isEmpty || k == 1) = true
    · have e : (List.replicate k.toNat xs).flatten = xs := by
        rw [Bool.or_eq_true] at c1
        rcases c1 with z | z
        · have : its = [] := by simpa using z
          subst this
          cases r
          exact flat_nil _
        · have : k = 1 := by simpa using z
          subst this
          show (List.replicate 1 xs).flatten = xs
          simp
      exact call_meets PySem.F.slot_tuple_mul ⟨_, ho, rfl⟩ PySem.F.entry_tuple_mul (PySem.F.args_tuple_mul_2 _ _) (tmul_same l its.toArray n sl k t dd c0 c1) ⟨ho, .ref l, H, I, rfl, qs e⟩
    · have c1 : (its.toArray.isEmpty || k == 1) = false := by simpa using c1
      have hk : k ≤ 0 := by
        rw [Bool.or_eq_false_iff] at c1
        have h3 : ¬ k = 1 := by simpa using c1.2
        have h4 : xs ≠ [] := fun z => by
          subst z
          cases r
          simp at c1
        have h5 : ¬ 2 ≤ k := fun z => hbig ⟨h4, z⟩
        omega
      have c2 : (decide (k ≤ 0) || its.toArray.isEmpty) = true := by rw [decide_eq_true hk]; rfl
      have e0 : k.toNat = 0 := by omega
      have q1 := q s.heap.objs.size (I.hok.fresh (Nat.le_refl _))
      rw [e0] at q1
      refine call_meets PySem.F.slot_tuple_mul ⟨_, ho, rfl⟩ PySem.F.entry_tuple_mul (PySem.F.args_tuple_mul_2 _ _) (tmul_none l its.toArray n sl k t dd c0 c1 c2) ⟨ho, ?_⟩
      refine ⟨.ref s.heap.objs.size, _, I.laid (t' := s.toks) (o := .tup []) (fun b ob z => Heap.get?_push_of_some _ z) (Nat.le_refl _) ?_, rfl, q1⟩
      exact ⟨Nat.zero_le _, [], .nil, ⟨_, Heap.get?_push_size _ rfl, rfl, 0, rfl⟩⟩
abbrev rMul3 (K : PySem.W.Frag) : R2 := fun x y H Q => rI CMul (fun i j => .int (i * j)) x y H Q ∨ (rRepA K x y H Q ∨ rRep x y H Q)
theorem op_mul3 : OpR X (binaryOp .Mult) (rMul3 X.K) := op_mul.or (op_repA.or op_rep)
theorem ok_mul {K : PySem.W.Frag} : OpOK M mulD (rMul3 K) := by
  intro H S2 ρ2 H2 x y p q w Q g nb hx hy e k
  unfold mulD at e
  split at e
  · split at e
    · rename_i a m hz
      cases e
      cases hx with
      | val hx => cases hx with
        | tup e1 z1 r1 => cases hy with
          | val hy =>
            cases hy
            have hl : (List.replicate m.toNat a).flatten.length ≤ sizeLine := by
              rw [PyProof.Rows.lm_len_rep_flat, sizeLine_eq]
              have a1 : m.toNat * a.length ≤ 1000 * 1000 := Nat.mul_le_mul (by omega) hz.2.2
              omega
            refine .inr (.inl ⟨_, _, _, rfl, rfl, SqT.of e1, hz.1, hz.2.1, by rw [r1.length]; exact hz.2.2, fun ee => ?_, fun p hp => ?_⟩)
            · have r2 := r1.flat m.toNat
              rw [ee] at r2
              exact k _ _ Nx.refl g _ (.val (.tup e1 z1 r2))
            · have r2 := r1.flat m.toNat
              exact k _ _ (Nx.alloc g hp) (g.alloc hp) _ (.val (VR.newTup g hp (by rw [r2.length]; exact hl) r2))
    · cases e
  · split at e
    · rename_i hz
      cases e
      cases hx with
      | val hx => cases hy with
        | val hy =>
          cases hx; cases hy
          exact .inl ⟨_, _, rfl, rfl, mulOk_ok hz, k _ _ Nx.refl g _ (.val (.int _))⟩
    · cases e
  · split at e
    · rename_i a e1
      obtain ⟨b, vs, rfl, h1, z1, r1⟩ := own_rep g hx e1
      split at e
      · rename_i hz
        cases e
        cases hy with
        | val hy =>
          cases hy
          have r2 := r1.flat
          refine .inr (.inr ⟨_, _, _, rfl, rfl, h1, hz.1, hz.2.1, by rw [r1.length]; exact hz.2.2, fun p hp => ?_⟩)
          refine k _ _ (Nx.alloc g hp) (g.alloc hp) _ (SqR.newLst g hp (nb p hp) ?_ (r2 _))
          rw [PyProof.Rows.lm_len_rep_flat, r1.length, Nat.mul_comm]
          exact hz.2.2
      · cases e
    · cases e
  · cases e
end
end DI
end

section
set_option Elab.async false
set_option linter.all false
set_option maxRecDepth 100000
/-! DICmp: comparisons. -/
namespace DI
open PySem PySem.Spec L2
section
variable {M : Nm} {S : Store} {ρ : List Addr} {H H0 : Hp} {K : PySem.W.Frag}
theorem mapM_cons {α β : Type} {f : α → Option β} {x : α} {xs : List α} {ys : List β} (h : (x :: xs).mapM f = some ys) : ∃ y r, f x = some y ∧ xs.mapM f = some r ∧ ys = y :: r := by
  rw [List.mapM_cons] at h
  cases e : f x with
  | none => rw [e] at h; cases h
  | some y =>
    rw [e] at h
    cases e2 : xs.mapM f with
    | none => rw [e2] at h; cases h
    | some r =>
      rw [e2] at h
      cases h
      exact ⟨y, r, rfl, rfl, rfl⟩
theorem py_all {k : Nat} (one : ∀ v d a, VR M S ρ H v d → pyOf k S d = some a → Dp K H v a ∧ a.canLay0 = true ∧ a.depth ≤ k) : ∀ {vs : List V} {ds : List D} {as : List PyData}, VRs M S ρ H vs ds → ds.mapM (pyOf k S) = some as →
    DpAll K H vs as ∧ PyData.canLayAll0 as = true ∧ PyData.depthAll as ≤ k
  | _, _, as, .nil, h => by
    have : as = [] := by simpa using h.symm
    subst this
    exact ⟨.nil, rfl, Nat.zero_le _⟩
  | _, _, _, .cons q r, h => by
    obtain ⟨y, t, e1, e2, rfl⟩ := mapM_cons h
    obtain ⟨a1, a2, a3⟩ := one _ _ _ q e1
    obtain ⟨b1, b2, b3⟩ := py_all one r e2
    refine ⟨.cons a1 b1, ?_, ?_⟩
    · show (y.canLay0 && PyData.canLayAll0 t) = true
      rw [a2, b2]; rfl
    · show max y.depth (PyData.depthAll t) ≤ k
      omega
theorem py_rep (g : Good M S ρ H) : ∀ (k : Nat) (v : V) (d : D) (a : PyData), VR M S ρ H v d → pyOf k S d = some a → Dp K H v a ∧ a.canLay0 = true ∧ a.depth ≤ k := by
  intro k
  induction k with
  | zero =>
    intro v d a r h
    cases r with
    | non => cases h; exact ⟨.non, rfl, Nat.zero_le _⟩
    | bl b => cases h; exact ⟨.bl b, rfl, Nat.zero_le _⟩
    | int i => cases h; exact ⟨.int i, rfl, Nat.zero_le _⟩
    | str s =>
      unfold pyOf at h
      split at h
      · rename_i e; cases h; exact ⟨.str s, e, Nat.zero_le _⟩
      · cases h
    | tup _ _ _ => cases h
    | tupI _ _ _ _ => cases h
    | loc _ => cases h
    | obj _ _ _ => cases h
    | err _ _ _ _ _ => cases h
  | succ k ih =>
    intro v d a r h
    cases r with
    | non => cases h; exact ⟨.non, rfl, Nat.zero_le _⟩
    | bl b => cases h; exact ⟨.bl b, rfl, Nat.zero_le _⟩
    | int i => cases h; exact ⟨.int i, rfl, Nat.zero_le _⟩
    | str s =>
      unfold pyOf at h
      split at h
      · rename_i e; cases h; exact ⟨.str s, e, Nat.zero_le _⟩
      · cases h
    | tup e hz r =>
      unfold pyOf at h
      obtain ⟨as, e1, rfl⟩ := Option.map_eq_some_iff.mp h
      obtain ⟨a1, a2, a3⟩ := py_all (K := K) ih r e1
      exact ⟨.tup (SqT.of e) a1, a2, Nat.succ_le_succ a3⟩
    | tupI _ _ _ _ => cases h
    | loc e =>
      unfold pyOf at h
      split at h
      · rename_i xs e2
        obtain ⟨as, e1, rfl⟩ := Option.map_eq_some_iff.mp h
        cases g.cells _ _ _ e2 e with
        | lst e3 hz r =>
          obtain ⟨a1, a2, a3⟩ := py_all (K := K) ih r e1
          exact ⟨.lst (SqL.of e3) a1, a2, Nat.succ_le_succ a3⟩
      · rename_i xs e2
        obtain ⟨as, e1, rfl⟩ := Option.map_eq_some_iff.mp h
        cases g.cells _ _ _ e2 e with
        | ro e3 hz r =>
          obtain ⟨a1, a2, a3⟩ := py_all (K := K) ih r e1
          exact ⟨.lst (.inl e3) a1, a2, Nat.succ_le_succ a3⟩
      · cases h
    | obj _ _ _ => cases h
    | err _ _ _ _ _ => cases h
theorem pyq_rep (g : Good M S ρ H) {x : V} {q : Sq} {a : PyData} (r : SqR M H0 S ρ H x q) (h : pyQ S q = some a) : Dp K H x a ∧ SeqAt.shaped a = true := by
  have fin : ∀ {k : Nat}, k ≤ 64 → a.canLay0 = true → a.depth ≤ k → SeqAt.shaped a = true := fun hk h1 h2 => by
    unfold SeqAt.shaped
    rw [h1, Bool.true_and]
    exact decide_eq_true (Nat.le_trans h2 hk)
  unfold pyQ at h
  cases r with
  | val r =>
    obtain ⟨a1, a2, a3⟩ := py_rep (K := K) g _ _ _ _ r h
    exact ⟨a1, fin (by decide) a2 a3⟩
  | fresh e hz r hn h0 =>
    obtain ⟨as, e1, rfl⟩ := Option.map_eq_some_iff.mp h
    obtain ⟨a1, a2, a3⟩ := py_all (K := K) (py_rep g 59) r e1
    exact ⟨.lst (SqL.of e) a1, fin (k := 60) (by decide) a2 (Nat.succ_le_succ a3)⟩
theorem ints_rep : ∀ {vs : List V} {ds : List D} {ns : List Int}, VRs M S ρ H vs ds → intsOf ds = some ns → vs = ns.map V.int
  | _, _, ns, .nil, h => by
    have : ns = [] := by simpa [intsOf] using h.symm
    subst this; rfl
  | _, _, _, .cons q r, h => by
    obtain ⟨y, t, e1, e2, rfl⟩ := mapM_cons h
    have e3 := ints_rep r e2
    cases q <;> first | (cases e1; done) | (cases e1; rw [e3]; rfl)
theorem bls_rep : ∀ {vs : List V} {ds : List D} {ns : List Bool}, VRs M S ρ H vs ds → blsOf ds = some ns → vs = ns.map V.bl
  | _, _, ns, .nil, h => by
    have : ns = [] := by simpa [blsOf] using h.symm
    subst this; rfl
  | _, _, _, .cons q r, h => by
    obtain ⟨y, t, e1, e2, rfl⟩ := mapM_cons h
    have e3 := bls_rep r e2
    cases q <;> first | (cases e1; done) | (cases e1; rw [e3]; rfl)
end

/-- a comparison by data keeps to its rule by values -/
def CmOK (M : Nm) (o : Cm) (r : R2) : Prop :=
  ∀ (H : Hp) (S2 : Store) (ρ2 : List Addr) (H2 : Hp) (x y : V) (p q : Sq) (w : Bool) (Q : VK), Good M S2 ρ2 H2 → SqR M H S2 ρ2 H2 x p → SqR M H S2 ρ2 H2 y q → cmpD o S2 p q = some w → Q (.bl w) H2 → r x y H2 Q

section
variable {X : Cx} {M : Nm} {K : PySem.W.Frag}
theorem ok_eq : CmOK M .eq (rEqD K) := by
  intro H S2 ρ2 H2 x y p q w Q g hx hy e k
  simp only [cmpD] at e
  split at e
  · rename_i a b e1 e2
    obtain ⟨d1, s1⟩ := pyq_rep (K := K) g hx e1
    obtain ⟨d2, s2⟩ := pyq_rep (K := K) g hy e2
    cases e
    exact ⟨a, b, d1, d2, s1, s2, k⟩
  · cases e
theorem ok_ne : CmOK M .ne (rNeD K) := by
  intro H S2 ρ2 H2 x y p q w Q g hx hy e k
  simp only [cmpD] at e
  split at e
  · rename_i a b e1 e2
    obtain ⟨d1, s1⟩ := pyq_rep (K := K) g hx e1
    obtain ⟨d2, s2⟩ := pyq_rep (K := K) g hy e2
    cases e
    exact ⟨a, b, d1, d2, s1, s2, k⟩
  · cases e
theorem sq_non {H0 : Hp} {S : Store} {ρ : List Addr} {H : Hp} {x : V} {p : Sq} (r : SqR M H0 S ρ H x p) : isNone p = decide (x = .non) := by
  cases r with
  | fresh _ _ _ _ _ => rfl
  | val r => cases r <;> rfl
abbrev rIsB : R2 := fun x y H Q => ∃ a b, x = .bl a ∧ y = .bl b ∧ Q (.bl (decide (a = b))) H
abbrev rNotB : R2 := fun x y H Q => ∃ a b, x = .bl a ∧ y = .bl b ∧ Q (.bl (!decide (a = b))) H
abbrev rIsN : R2 := fun x y H Q => y = .non ∧ Q (.bl (decide (x = .non))) H
abbrev rNotN : R2 := fun x y H Q => y = .non ∧ Q (.bl (!decide (x = .non))) H
theorem ok_is : CmOK M .is_ (fun x y H Q => rIsB x y H Q ∨ rIsN x y H Q) := by
  intro H S2 ρ2 H2 x y p q w Q g hx hy e k
  simp only [cmpD] at e
  split at e
  · cases hx with
    | val hx => cases hy with
      | val hy =>
        cases hx; cases hy; cases e
        exact .inl ⟨_, _, rfl, rfl, k⟩
  · cases e
    cases hy with
    | val hy =>
      cases hy
      exact .inr ⟨rfl, by rw [← sq_non hx]; exact k⟩
  · cases e
theorem ok_isNot : CmOK M .isNot (fun x y H Q => rNotB x y H Q ∨ rNotN x y H Q) := by
  intro H S2 ρ2 H2 x y p q w Q g hx hy e k
  simp only [cmpD] at e
  split at e
  · cases hx with
    | val hx => cases hy with
      | val hy =>
        cases hx; cases hy; cases e
        exact .inl ⟨_, _, rfl, rfl, k⟩
  · cases e
    cases hy with
    | val hy =>
      cases hy
      exact .inr ⟨rfl, by rw [← sq_non hx]; exact k⟩
  · cases e
abbrev rCmI (f : Int → Int → Bool) : R2 := rI0 fun i j => .bl (f i j)
theorem ok_ord {o : Cm} {f : Int → Int → Bool} (ho : ∀ i j, cmpI o i j = some (f i j)) (h1 : ∀ S p q, cmpD o S p q = (match p, q with
    | .val (.int i), .val (.int j) => cmpI o i j
    | .val (.tup a), .val (.tup b) => match o, intsOf a, intsOf b with
      | .lt, some x, some y => some (HT.lexLt x y)
      | _, _, _ => none
    | _, _ => none)) (hl : o ≠ .lt) : CmOK M o (rCmI f) := by
  intro H S2 ρ2 H2 x y p q w Q g hx hy e k
  rw [h1] at e
  split at e
  · cases hx with
    | val hx => cases hy with
      | val hy =>
        cases hx; cases hy
        rw [ho] at e
        cases e
        exact ⟨_, _, rfl, rfl, k⟩
  · split at e
    · exact absurd rfl hl
    · cases e
  · cases e
theorem ok_le : CmOK M .le (rCmI fun i j => decide (i ≤ j)) := ok_ord (fun _ _ => rfl) (fun _ _ _ => rfl) (by intro z; cases z)
theorem ok_gt : CmOK M .gt (rCmI fun i j => decide (j < i)) := ok_ord (fun _ _ => rfl) (fun _ _ _ => rfl) (by intro z; cases z)
theorem ok_ge : CmOK M .ge (rCmI fun i j => decide (j ≤ i)) := ok_ord (fun _ _ => rfl) (fun _ _ _ => rfl) (by intro z; cases z)
theorem ok_lt : CmOK M .lt (fun x y H Q => rCmI (fun i j => decide (i < j)) x y H Q ∨ rLtT K x y H Q) := by
  intro H S2 ρ2 H2 x y p q w Q g hx hy e k
  simp only [cmpD] at e
  split at e
  · cases hx with
    | val hx => cases hy with
      | val hy =>
        cases hx; cases hy
        cases e
        exact .inl ⟨_, _, rfl, rfl, k⟩
  · split at e
    · rename_i xa xb _ i j e1 e2
      cases hx with
      | val hx => cases hy with
        | val hy =>
          cases hx with
          | tup t1 z1 r1 => cases hy with
            | tup t2 z2 r2 =>
              cases e
              have f1 := ints_rep r1 e1
              have f2 := ints_rep r2 e2
              subst f1 f2
              exact .inr ⟨_, _, _, _, rfl, rfl, SqT.of t1, SqT.of t2, k⟩
    · cases e
  · cases e
/-- in, not in: over lists of data, over tuples of data -/
theorem shaped_lst {k : Nat} {as : List PyData} (h1 : PyData.canLayAll0 as = true) (h2 : PyData.depthAll as ≤ 59) : SeqAt.shaped (.list as) = true := by
  unfold SeqAt.shaped
  have e1 : PyData.canLay0 (.list as) = true := h1
  have e2 : PyData.depth (.list as) ≤ 64 := by
    show PyData.depthAll as + 1 ≤ 64
    omega
  rw [e1, Bool.true_and]
  exact decide_eq_true e2
abbrev rInQ (K : PySem.W.Frag) (neg : Bool) : R2 := fun x y H Q => ∃ d ds, Dp K H x d ∧ (Dp K H y (.list ds) ∨ Dp K H y (.tuple ds)) ∧ SeqAt.shaped d = true ∧ SeqAt.shaped (.list ds) = true ∧ Q (.bl (neg != ds.any fun z => PyData.eqv z d)) H
theorem room_in {A : Around} {d : PyData} (hd : SeqAt.shaped d = true) (hu : A.units + 65 < cLine) (n : Nat) : A.units + 1 + min n d.depth < cLine := by
  have h1 : d.depth ≤ 64 := SeqAt.depth_of_shaped hd
  have h2 : min n d.depth ≤ d.depth := Nat.min_le_right _ _
  omega
theorem op_inQ (hu : X.A.units + 65 < cLine) : OpR X (compareOp .In) (rInQ X.K false) := by
  intro pins s σ H x y v u Q I rx ry h
  obtain ⟨d, ds, hd, he, sd, se, q⟩ := h
  obtain ⟨as, r1⟩ := Dp.reads I d x v hd rx
  have q' : EP X pins σ Q (.bool (ds.any fun z => PyData.eqv z d)) s := ⟨.bl _, H, I, rfl, by rw [Bool.false_bne] at q; exact q⟩
  rcases he with he | he
  · obtain ⟨bs, r2⟩ := Dp.reads I _ y u he ry
    exact SeqAt.in_list_reads r2 r1 (SeqAt.canLay_of_shaped se) (SeqAt.canLay_of_shaped sd) (room_in sd hu _) q'
  · obtain ⟨bs, r2⟩ := Dp.reads I _ y u he ry
    exact SeqAt.in_tuple_reads r2 r1 (SeqAt.canLay_of_shaped se) (SeqAt.canLay_of_shaped sd) (room_in sd hu _) q'
theorem op_notInQ (hu : X.A.units + 65 < cLine) : OpR X (compareOp .NotIn) (rInQ X.K true) := by
  intro pins s σ H x y v u Q I rx ry h
  obtain ⟨d, ds, hd, he, sd, se, q⟩ := h
  obtain ⟨as, r1⟩ := Dp.reads I d x v hd rx
  have q' : EP X pins σ Q (.bool (!ds.any fun z => PyData.eqv z d)) s := ⟨.bl _, H, I, rfl, by rw [Bool.true_bne] at q; exact q⟩
  rcases he with he | he
  · obtain ⟨bs, r2⟩ := Dp.reads I _ y u he ry
    exact SeqAt.notIn_list_reads r2 r1 (SeqAt.canLay_of_shaped se) (SeqAt.canLay_of_shaped sd) (room_in sd hu _) q'
  · obtain ⟨bs, r2⟩ := Dp.reads I _ y u he ry
    exact SeqAt.notIn_tuple_reads r2 r1 (SeqAt.canLay_of_shaped se) (SeqAt.canLay_of_shaped sd) (room_in sd hu _) q'
theorem in_core {H0 : Hp} {S2 : Store} {ρ2 : List Addr} {H2 : Hp} {x y : V} {p q : Sq} {a : PyData} {xs : List D} {ys : List PyData} (g : Good M S2 ρ2 H2) (hx : SqR M H0 S2 ρ2 H2 x p) (hy : SqR M H0 S2 ρ2 H2 y q)
    (e1 : pyQ S2 p = some a) (e2 : seqOf S2 q = some xs) (e3 : xs.mapM (pyOf 59 S2) = some ys) : Dp K H2 x a ∧ (Dp K H2 y (.list ys) ∨ Dp K H2 y (.tuple ys)) ∧ SeqAt.shaped a = true ∧ SeqAt.shaped (.list ys) = true := by
  obtain ⟨d1, s1⟩ := pyq_rep (K := K) g hx e1
  obtain ⟨b, vs, rfl, hs, z, r⟩ := seq_rep (K := K) g hy e2
  obtain ⟨a1, a2, a3⟩ := py_all (K := K) (py_rep g 59) r e3
  refine ⟨d1, ?_, s1, shaped_lst (k := 59) a2 a3⟩
  rcases hs with hs | ⟨hs, _⟩
  · exact .inl (.lst hs a1)
  · exact .inr (.tup hs a1)
theorem ok_in : CmOK M .in_ (rInQ K false) := by
  intro H S2 ρ2 H2 x y p q w Q g hx hy e k
  simp only [cmpD] at e
  split at e
  · rename_i a xs e1 e2
    obtain ⟨ys, e3, rfl⟩ := Option.map_eq_some_iff.mp e
    obtain ⟨h1, h2, h3, h4⟩ := in_core (K := K) g hx hy e1 e2 e3
    exact ⟨a, ys, h1, h2, h3, h4, by rw [Bool.false_bne]; exact k⟩
  · cases e
theorem ok_notIn : CmOK M .notIn (rInQ K true) := by
  intro H S2 ρ2 H2 x y p q w Q g hx hy e k
  simp only [cmpD] at e
  split at e
  · rename_i a xs e1 e2
    obtain ⟨ys, e3, rfl⟩ := Option.map_eq_some_iff.mp e
    obtain ⟨h1, h2, h3, h4⟩ := in_core (K := K) g hx hy e1 e2 e3
    exact ⟨a, ys, h1, h2, h3, h4, by rw [Bool.true_bne]; exact k⟩
  · cases e

/-! ### by the word -/
def cmOp : Cm → CmpOp
  | .eq => .Eq | .ne => .NotEq | .lt => .Lt | .le => .LtE | .gt => .Gt | .ge => .GtE | .is_ => .Is | .isNot => .IsNot | .in_ => .In | .notIn => .NotIn
/-- for each word a rule by values that both keep -/
theorem cm_rule (hu : X.A.units + 65 < cLine) (o : Cm) : ∃ r : R2, OpR X (compareOp (cmOp o)) r ∧ CmOK M o r := by
  cases o with
  | eq => exact ⟨_, op_eqD (by omega), ok_eq⟩
  | ne => exact ⟨_, op_neD (by omega), ok_ne⟩
  | lt => exact ⟨_, op_lt.or (op_ltT (by omega)), ok_lt⟩
  | le => exact ⟨_, op_le, ok_le⟩
  | gt => exact ⟨_, op_gt, ok_gt⟩
  | ge => exact ⟨_, op_ge, ok_ge⟩
  | is_ => exact ⟨_, op_is_bl.or op_isN, ok_is⟩
  | isNot => exact ⟨_, op_isnot_bl.or op_notN, ok_isNot⟩
  | in_ => exact ⟨_, op_inQ hu, ok_in⟩
  | notIn => exact ⟨_, op_notInQ hu, ok_notIn⟩
def biOp : Bin → Operator
  | .add => .Add | .sub => .Sub | .mul => .Mult | .fdiv => .FloorDiv | .mod => .Mod | .band => .BitAnd | .shl => .LShift | .pow => .Pow
theorem op_fdivB {X : Cx} : OpR X (binaryOp .FloorDiv) (rI CDivB fun i j => .int (i.fdiv j)) := opI fun _ _ _ _ _ _ _ hc q => PyProof.Rows.floordiv_int hc.1 q (.inl (PyProof.noPylong_of_log2 hc.2))
theorem bi_rule (o : Bin) : ∃ r : R2, OpR X (binaryOp (biOp o)) r ∧ OpOK M (fun S => binD o S) r := by
  cases o with
  | add => exact ⟨_, op_add4, ok_add⟩
  | sub => exact ⟨_, op_sub, ok_int0⟩
  | mul => exact ⟨_, op_mul3, ok_mul⟩
  | fdiv => exact ⟨_, op_fdivB, ok_int fun _ _ => divOk_ok⟩
  | mod => exact ⟨_, op_modN, ok_int fun i j h => of_decide_eq_true h⟩
  | band => exact ⟨_, op_and, ok_int0⟩
  | shl => exact ⟨_, op_shl, ok_int fun _ _ => powOk_ok⟩
  | pow => exact ⟨_, op_pow, ok_int fun _ _ => powOk_ok⟩
end

section
variable {X : Cx} {M : Nm} {G : Gx} {a b c : Expr} {pos : Pos} {ma mb mc : Env → Store → Res Sq}
theorem se_bino {o : Bin} (ha : SE X M G a ma) (hb : SE X M G b mb) : SE X M G (.BinOp a (biOp o) b pos) (fun σ S => (ma σ S).bind fun p S1 => (mb σ S1).bind fun q S2 => lift (binD o S2 p q) S2) := by
  obtain ⟨r, h1, h2⟩ := bi_rule (X := X) (M := M) o
  exact se_bin h1 h2 ha hb
/-- a comparison, asking no code: its bool -/
theorem cmp_core {o : Cm} {r : R2} (ok : CmOK M o r) {E : XK} {S : Store} {ρ : List Addr} {H : Hp} {σ : L2.St} {σd : Env} {Q : VK} (xt : XT X E) (gd : Good M S ρ H) (er : ER M S ρ H σ σd)
    (h : PostG M G E S ρ H ((ma σd S).bind fun p S1 => (mb σd S1).bind fun q S2 => (lift (cmpD o S2 p q) S2).bind fun k S3 => .ok (.val (.bl k)) S3) (KE M H Q)) : tOp r (tEv X M G ma) (tEv X M G mb) σ H Q := by
  refine two xt gd er h fun p q x y S2 ρ2 H2 n2 g2 hx hy h2 => ?_
  have h3 := PostG.bind g2 h2
  obtain ⟨w, e, h4⟩ := h3.lift_
  exact ok H S2 ρ2 H2 x y p q w Q g2 hx hy e ((h4.here g2).here g2 _ (.val (.bl w)))
theorem se_cmp {o : Cm} (hu : X.A.units + 65 < cLine) (hm : behindInMarks (cmOp o) b = false) (ha : SE X M G a ma) (hb : SE X M G b mb) :
    SE X M G (.Compare a [cmOp o] [b] pos) (fun σ S => (ma σ S).bind fun p S1 => (mb σ S1).bind fun q S2 => (lift (cmpD o S2 p q) S2).bind fun k S3 => .ok (.val (.bl k)) S3) := by
  obtain ⟨r, h1, h2⟩ := cm_rule (X := X) (M := M) hu o
  refine ⟨fun pins s σ H Q I h => (pe_cmpR (pos := pos) h1 ha hb hm).run pins s σ H Q I ?_⟩
  obtain ⟨E, S, ρ, σd, xt, gd, er, h⟩ := h
  exact cmp_core h2 xt gd er h
end
end DI
end

section
set_option Elab.async false
set_option linter.all false
set_option maxRecDepth 100000
/-! DITest: truth, and, or, not, conditional expressions, chains. -/
namespace DI
open PySem PySem.Spec L2
theorem Res.bind_assoc {α β γ : Type} (r : Res α) (f : α → Store → Res β) (g : β → Store → Res γ) : (r.bind f).bind g = r.bind fun a S => (f a S).bind g := by
  cases r <;> rfl
section
variable {X : Cx} {M : Nm} {G : Gx} {a b c : Expr} {pos : Pos} {ma mb mc : Env → Store → Res Sq} {na nb nc : Env → Store → Res Bool}
theorem truth_rep {H0 : Hp} {S : Store} {ρ : List Addr} {H : Hp} {x : V} {q : Sq} {k : Bool} (g : Good M S ρ H) (r : SqR M H0 S ρ H x q) (h : truthQ S q = some k) : TruV X.K x H k := by
  have emp : ∀ {vs : List V} {ds : List D}, VRs M S ρ H vs ds → (!ds.isEmpty) = !vs.isEmpty := fun r => by cases r <;> rfl
  unfold truthQ at h
  cases r with
  | fresh e hz r hn h0 =>
    cases h
    exact .inl ⟨_, SqL.of e, emp r⟩
  | val r =>
    cases r with
    | non => cases h; rfl
    | bl b => cases h; rfl
    | int i => cases h; rfl
    | str s =>
      simp only [truthD] at h
      split at h
      · rename_i hz
        cases h
        exact ⟨hz, rfl⟩
      · cases h
    | tup e hz r =>
      cases h
      exact .inr (.inl ⟨_, SqT.of e, emp r⟩)
    | tupI _ _ _ _ => cases h
    | loc e =>
      simp only [truthD] at h
      split at h
      · rename_i xs e2
        cases h
        cases g.cells _ _ _ e2 e with
        | lst e3 hz r => exact .inl ⟨_, SqL.of e3, emp r⟩
      · rename_i xs e2
        cases h
        cases g.cells _ _ _ e2 e with
        | ro e3 hz r => exact .inl ⟨_, .inl e3, emp r⟩
      · cases h
    | obj _ _ _ => cases h
    | err _ _ _ _ _ => cases h
theorem oneB {m : Env → Store → Res Sq} {g : Sq → Store → Res Bool} {E : XK} {S : Store} {ρ : List Addr} {H : Hp} {σ : L2.St} {σd : Env} {K : Bool → Store → List Addr → Hp → Prop} {R : V → Hp → Prop}
    (xt : XT X E) (gd : Good M S ρ H) (er : ER M S ρ H σ σd) (h : PostG M G E S ρ H ((m σd S).bind fun p S1 => g p S1) K)
    (k : ∀ p x S2 ρ2 H2, Nx S ρ H S2 ρ2 H2 → Good M S2 ρ2 H2 → SqR M H S2 ρ2 H2 x p → PostG M G E S2 ρ2 H2 (g p S2) K → R x H2) :
    tEv X M G m σ H fun x H1 => R x H1 :=
  ⟨E, S, ρ, σd, xt, gd, er, (PostG.bind gd h).imp fun p S1 ρ1 H1 e1 n1 g1 h1 x hx => k p x S1 ρ1 H1 n1 g1 hx h1⟩
/-- an expression whose test is its value's truth -/
theorem st_plain (ha : SE X M G a ma) (he : ∀ whole, isTrue a X.env whole = (do let v ← whole; standAt a.pos; holding [v] (truthy v))) : ST X M G a (tr ma) := by
  refine ⟨fun pins s σ H Q I h => (pt_truth ha he).run pins s σ H Q I ?_⟩
  obtain ⟨E, S, ρ, σd, xt, gd, er, h⟩ := h
  refine oneB xt gd er h fun p x S2 ρ2 H2 n2 g2 hx h2 => ?_
  obtain ⟨k, e, h3⟩ := h2.lift_
  exact ⟨k, truth_rep g2 hx e, h3.here g2⟩
/-- a test that ends in the same bool -/
theorem ST.of (h : ST X M G a na) (e : ∀ σ S, nb σ S = na σ S) : ST X M G a nb := by
  have : nb = na := by funext σ S; exact e σ S
  rw [this]; exact h
theorem SE.of (h : SE X M G a ma) (e : ∀ σ S, mb σ S = ma σ S) : SE X M G a mb := by
  have : mb = ma := by funext σ S; exact e σ S
  rw [this]; exact h
theorem truth_bl (S : Store) (k : Bool) : lift (truthQ S (.val (.bl k))) S = .ok k S := rfl
theorem st_cmp {o : Cm} (hu : X.A.units + 65 < cLine) (hm : behindInMarks (cmOp o) b = false) (ha : SE X M G a ma) (hb : SE X M G b mb) :
    ST X M G (.Compare a [cmOp o] [b] pos) (fun σ S => (ma σ S).bind fun p S1 => (mb σ S1).bind fun q S2 => lift (cmpD o S2 p q) S2) := by
  obtain ⟨r, h1, h2⟩ := cm_rule (X := X) (M := M) hu o
  refine ⟨fun pins s σ H Q I h => (pt_cmpR (pos := pos) h1 ha hb hm).run pins s σ H Q I ?_⟩
  obtain ⟨E, S, ρ, σd, xt, gd, er, h⟩ := h
  refine ⟨E, S, ρ, σd, xt, gd, er, (PostG.bind gd h).imp fun p S1 ρ1 H1 e1 n1 g1 h1 x hx => ?_⟩
  refine ⟨E, S1, ρ1, σd, xt, g1, er.nx n1 gd, (PostG.bind g1 h1).imp fun q S2 ρ2 H2 e2 n2 g2 h3 y hy => ?_⟩
  obtain ⟨w, e, h4⟩ := h3.lift_
  exact h2 H S2 ρ2 H2 x y p q w _ g2 (hx.nx n2 g1) (hy.back n1 gd g1) e ⟨w, rfl, h4.here g2⟩
/-- a o b o2 c, as a value -/
def chainB (o o2 : Cm) (ma mb mc : Env → Store → Res Sq) : Env → Store → Res Bool := fun σ S => (ma σ S).bind fun p S1 => (mb σ S1).bind fun q S2 => (lift (cmpD o S2 p q) S2).bind fun k S3 =>
  if k = true then (mc σ S3).bind fun r S4 => lift (cmpD o2 S4 q r) S4 else .ok false S3
theorem chain_core {o o2 : Cm} {r r2 : R2} (h1 : CmOK M o r) (h2 : CmOK M o2 r2) {E : XK} {S : Store} {ρ : List Addr} {H : Hp} {σ : L2.St} {σd : Env} {Q : VK} (xt : XT X E) (gd : Good M S ρ H) (er : ER M S ρ H σ σd)
    (h : PostG M G E S ρ H (chainB o o2 ma mb mc σd S) fun b _ _ H' => Q (.bl b) H') : tChain r r2 (tEv X M G ma) (tEv X M G mb) (tEv X M G mc) σ H Q := by
  refine ⟨E, S, ρ, σd, xt, gd, er, (PostG.bind gd h).imp fun p S1 ρ1 H1 e1 n1 g1 h3 x hx => ?_⟩
  refine ⟨E, S1, ρ1, σd, xt, g1, er.nx n1 gd, (PostG.bind g1 h3).imp fun q S2 ρ2 H2 e2 n2 g2 h4 y hy => ?_⟩
  obtain ⟨w, e, h5⟩ := (PostG.bind g2 h4).lift_
  refine h1 H S2 ρ2 H2 x y p q w _ g2 (hx.nx n2 g1) (hy.back n1 gd g1) e ⟨w, rfl, ?_⟩
  have h6 := h5.here g2
  cases w with
  | false =>
    rw [if_neg Bool.false_ne_true] at h6
    refine iteF ?_
    exact h6.here g2
  | true =>
    rw [if_pos rfl] at h6
    refine iteT ?_
    refine ⟨E, S2, ρ2, σd, xt, g2, (er.nx n1 gd).nx n2 g1, (PostG.bind g2 h6).imp fun r' S3 ρ3 H3 e3 n3 g3 h7 z hz => ?_⟩
    obtain ⟨w2, e4, h8⟩ := h7.lift_
    have n12 := n1.trans gd g1 n2
    exact h2 H S3 ρ3 H3 y z q r' w2 _ g3 ((hy.back n1 gd g1).nx n3 g2) (hz.back n12 gd g2) e4 (h8.here g3)
theorem st_chain {o o2 : Cm} (hu : X.A.units + 65 < cLine) (hm : lastMarks [cmOp o, cmOp o2] [b, c] = false) (ha : SE X M G a ma) (hb : SE X M G b mb) (hc : SE X M G c mc) :
    ST X M G (.Compare a [cmOp o, cmOp o2] [b, c] pos) (chainB o o2 ma mb mc) := by
  obtain ⟨r, h1, h2⟩ := cm_rule (X := X) (M := M) hu o
  obtain ⟨r2, h3, h4⟩ := cm_rule (X := X) (M := M) hu o2
  refine ⟨fun pins s σ H Q I h => (pt_chain (pos := pos) h1 h3 ha hb hc hm).run pins s σ H Q I ?_⟩
  obtain ⟨E, S, ρ, σd, xt, gd, er, h⟩ := h
  exact chain_core h2 h4 xt gd er (h.imp fun k S1 ρ1 H1 e1 n1 g1 h5 => ⟨k, rfl, h5⟩)
theorem se_chain {o o2 : Cm} (hu : X.A.units + 65 < cLine) (hm : lastMarks [cmOp o, cmOp o2] [b, c] = false) (ha : SE X M G a ma) (hb : SE X M G b mb) (hc : SE X M G c mc) :
    SE X M G (.Compare a [cmOp o, cmOp o2] [b, c] pos) (fun σ S => (chainB o o2 ma mb mc σ S).bind fun k S1 => .ok (.val (.bl k)) S1) := by
  obtain ⟨r, h1, h2⟩ := cm_rule (X := X) (M := M) hu o
  obtain ⟨r2, h3, h4⟩ := cm_rule (X := X) (M := M) hu o2
  refine ⟨fun pins s σ H Q I h => (pe_chain (pos := pos) h1 h3 ha hb hc hm).run pins s σ H Q I ?_⟩
  obtain ⟨E, S, ρ, σd, xt, gd, er, h⟩ := h
  exact chain_core h2 h4 xt gd er ((PostG.bind gd h).imp fun k S1 ρ1 H1 e1 n1 g1 h5 => h5.here g1 _ (.val (.bl k)))

/-! ### and, or, not as tests -/
theorem st_not (ha : ST X M G a na) : ST X M G (.UnaryOp .Not a pos) (fun σ S => (na σ S).bind fun k S1 => .ok (!k) S1) := by
  refine ⟨fun pins s σ H Q I h => (pt_not (pos := pos) ha).run pins s σ H Q I ?_⟩
  obtain ⟨E, S, ρ, σd, xt, gd, er, h⟩ := h
  exact ⟨E, S, ρ, σd, xt, gd, er, (PostG.bind gd h).imp fun k S1 ρ1 H1 e1 n1 g1 h5 => h5.here g1⟩
abbrev andB (na nb : Env → Store → Res Bool) : Env → Store → Res Bool := fun σ S => (na σ S).bind fun k S1 => if k = true then nb σ S1 else .ok false S1
abbrev orB (na nb : Env → Store → Res Bool) : Env → Store → Res Bool := fun σ S => (na σ S).bind fun k S1 => if k = true then .ok true S1 else nb σ S1
theorem sw_and1 (ha : ST X M G a na) : SW X M G (.BoolOp .And [a] pos) na := pw_and1 ha
theorem sw_or1 (ha : ST X M G a na) : SW X M G (.BoolOp .Or [a] pos) na := pw_or1 ha
theorem sw_and {rest : List Expr} (ha : ST X M G a na) (hb : SW X M G (.BoolOp .And (b :: rest) pos) nb) : SW X M G (.BoolOp .And (a :: b :: rest) pos) (andB na nb) := by
  refine ⟨fun whole pins s σ H Q I h => (pw_and (pos := pos) ha hb).run whole pins s σ H Q I ?_⟩
  obtain ⟨E, S, ρ, σd, xt, gd, er, h⟩ := h
  refine ⟨E, S, ρ, σd, xt, gd, er, (PostG.bind gd h).imp fun k S1 ρ1 H1 e1 n1 g1 h5 => ?_⟩
  cases k with
  | false =>
    rw [if_neg Bool.false_ne_true] at h5
    refine iteF ?_
    exact h5.here g1
  | true =>
    rw [if_pos rfl] at h5
    refine iteT ?_
    exact ⟨E, S1, ρ1, σd, xt, g1, er.nx n1 gd, h5⟩
theorem sw_or {rest : List Expr} (ha : ST X M G a na) (hb : SW X M G (.BoolOp .Or (b :: rest) pos) nb) : SW X M G (.BoolOp .Or (a :: b :: rest) pos) (orB na nb) := by
  refine ⟨fun whole pins s σ H Q I h => (pw_or (pos := pos) ha hb).run whole pins s σ H Q I ?_⟩
  obtain ⟨E, S, ρ, σd, xt, gd, er, h⟩ := h
  refine ⟨E, S, ρ, σd, xt, gd, er, (PostG.bind gd h).imp fun k S1 ρ1 H1 e1 n1 g1 h5 => ?_⟩
  cases k with
  | true =>
    rw [if_pos rfl] at h5
    refine iteT ?_
    exact h5.here g1
  | false =>
    rw [if_neg Bool.false_ne_true] at h5
    refine iteF ?_
    exact ⟨E, S1, ρ1, σd, xt, g1, er.nx n1 gd, h5⟩
/-! ### .. as values -/
abbrev andQ (ma mb : Env → Store → Res Sq) : Env → Store → Res Sq := fun σ S => (ma σ S).bind fun p S1 => (lift (truthQ S1 p) S1).bind fun k S2 => if k = true then mb σ S2 else .ok p S2
abbrev orQ (ma mb : Env → Store → Res Sq) : Env → Store → Res Sq := fun σ S => (ma σ S).bind fun p S1 => (lift (truthQ S1 p) S1).bind fun k S2 => if k = true then .ok p S2 else mb σ S2
theorem se_one {op} (ha : SE X M G a ma) : SE X M G (.BoolOp op [a] pos) ma := pe_one ha
theorem se_and {rest : List Expr} (ha : SE X M G a ma) (hb : SE X M G (.BoolOp .And (b :: rest) pos) mb) : SE X M G (.BoolOp .And (a :: b :: rest) pos) (andQ ma mb) := by
  refine ⟨fun pins s σ H Q I h => (pe_andT (pos := pos) ha hb).run pins s σ H Q I ?_⟩
  obtain ⟨E, S, ρ, σd, xt, gd, er, h⟩ := h
  refine one xt gd er h fun p x S2 ρ2 H2 n2 g2 hx h2 => ?_
  obtain ⟨k, e, h3⟩ := (PostG.bind g2 h2).lift_
  have h4 := h3.here g2
  refine ⟨k, truth_rep g2 hx e, ?_⟩
  cases k with
  | false =>
    rw [if_neg Bool.false_ne_true] at h4
    refine iteF ?_
    exact h4.here g2 x hx
  | true =>
    rw [if_pos rfl] at h4
    refine iteT ?_
    exact ⟨E, S2, ρ2, σd, xt, g2, er.nx n2 gd, h4.imp fun q S3 ρ3 H3 e3 n3 g3 k3 v hv => k3 v (hv.back n2 gd g2)⟩
theorem se_or {rest : List Expr} (ha : SE X M G a ma) (hb : SE X M G (.BoolOp .Or (b :: rest) pos) mb) : SE X M G (.BoolOp .Or (a :: b :: rest) pos) (orQ ma mb) := by
  refine ⟨fun pins s σ H Q I h => (pe_orT (pos := pos) ha hb).run pins s σ H Q I ?_⟩
  obtain ⟨E, S, ρ, σd, xt, gd, er, h⟩ := h
  refine one xt gd er h fun p x S2 ρ2 H2 n2 g2 hx h2 => ?_
  obtain ⟨k, e, h3⟩ := (PostG.bind g2 h2).lift_
  have h4 := h3.here g2
  refine ⟨k, truth_rep g2 hx e, ?_⟩
  cases k with
  | true =>
    rw [if_pos rfl] at h4
    refine iteT ?_
    exact h4.here g2 x hx
  | false =>
    rw [if_neg Bool.false_ne_true] at h4
    refine iteF ?_
    exact ⟨E, S2, ρ2, σd, xt, g2, er.nx n2 gd, h4.imp fun q S3 ρ3 H3 e3 n3 g3 k3 v hv => k3 v (hv.back n2 gd g2)⟩
theorem se_not (ha : SE X M G a ma) : SE X M G (.UnaryOp .Not a pos) (fun σ S => (ma σ S).bind fun p S1 => (lift (truthQ S1 p) S1).bind fun k S2 => .ok (.val (.bl (!k))) S2) := by
  refine ⟨fun pins s σ H Q I h => (pe_notT (pos := pos) ha).run pins s σ H Q I ?_⟩
  obtain ⟨E, S, ρ, σd, xt, gd, er, h⟩ := h
  refine one xt gd er h fun p x S2 ρ2 H2 n2 g2 hx h2 => ?_
  obtain ⟨k, e, h3⟩ := (PostG.bind g2 h2).lift_
  exact ⟨k, truth_rep g2 hx e, (h3.here g2).here g2 _ (.val (.bl _))⟩
theorem se_neg (ha : SE X M G a ma) : SE X M G (.UnaryOp .USub a pos) (fun σ S => (ma σ S).bind fun p S1 => match p with
    | .val (.int i) => .ok (.val (.int (-i))) S1
    | _ => .bad) := by
  refine ⟨fun pins s σ H Q I h => (pe_un (pos := pos) un_neg ha).run pins s σ H Q I ?_⟩
  obtain ⟨E, S, ρ, σd, xt, gd, er, h⟩ := h
  refine one xt gd er h fun p x S2 ρ2 H2 n2 g2 hx h2 => ?_
  split at h2
  · cases hx with
    | val hx =>
      cases hx
      exact ⟨_, rfl, h2.here g2 _ (.val (.int _))⟩
  · exact h2.elim
theorem se_ite (ht : ST X M G c nc) (ha : SE X M G a ma) (hb : SE X M G b mb) : SE X M G (.IfExp c a b pos) (fun σ S => (nc σ S).bind fun k S2 => if k = true then ma σ S2 else mb σ S2) := by
  refine ⟨fun pins s σ H Q I h => (pe_ifExp (pos := pos) ht ha hb).run pins s σ H Q I ?_⟩
  obtain ⟨E, S, ρ, σd, xt, gd, er, h⟩ := h
  refine ⟨E, S, ρ, σd, xt, gd, er, (PostG.bind gd h).imp fun k S1 ρ1 H1 e1 n1 g1 h5 => ?_⟩
  have fin : ∀ {m : Env → Store → Res Sq}, PostG M G E S1 ρ1 H1 (m σd S1) (KE M H Q) → tEv X M G m σ H1 Q := fun h6 =>
    ⟨E, S1, ρ1, σd, xt, g1, er.nx n1 gd, h6.imp fun q S3 ρ3 H3 e3 n3 g3 k3 v hv => k3 v (hv.back n1 gd g1)⟩
  cases k with
  | true =>
    rw [if_pos rfl] at h5
    refine iteT ?_
    exact fin h5
  | false =>
    rw [if_neg Bool.false_ne_true] at h5
    refine iteF ?_
    exact fin h5
end
end DI
end

section
set_option Elab.async false
set_option linter.all false
set_option maxRecDepth 100000
/-! DISeq: arguments, displays, places, slices, attributes, calls. -/
namespace DI
open PySem PySem.Spec L2
section
variable {α β : Type} {X : Cx} {M : Nm} {G : Gx} {E : XK} {S S1 : Store} {ρ ρ1 : List Addr} {H H1 : Hp}
theorem PostG.bind0 {K : β → Store → List Addr → Hp → Prop} {r : Res α} {f : α → Store → Res β} (h : PostG M G E S ρ H (r.bind f) K) :
    PostG M G E S ρ H r fun a S1 _ _ => PostG M G E S ρ H (f a S1) K := by
  cases r with
  | ok a S' => exact fun ρ' H' x g' => h
  | exc c d S' => exact h
  | bad => exact h
/-- a value of it: a new list gets its number -/
theorem mat_ok {x : V} {q : Sq} (gd : Good M S ρ H) (n1 : Nx S ρ H S1 ρ1 H1) (g1 : Good M S1 ρ1 H1) (r : SqR M H S1 ρ1 H1 x q) :
    ∃ d S2 ρ2, mat q S1 = .ok d S2 ∧ Nx S ρ H S2 ρ2 H1 ∧ Good M S2 ρ2 H1 ∧ VR M S2 ρ2 H1 x d := by
  cases r with
  | val r => exact ⟨_, _, _, rfl, n1, g1, r⟩
  | @fresh a vs ds e hz r hn h0 =>
    have ni : NoEx (HO.lst vs) := ⟨fun _ _ _ z => (by cases z), fun _ z => (by cases z)⟩
    have r2 : VRs M (S1 ++ [.lst ds]) (ρ1 ++ [a]) H1 vs ds := r.push e ni hn g1.len
    refine ⟨_, _, ρ1 ++ [a], rfl, ⟨?_, fun n z => ?_, n1.kept⟩, g1.push e ni hn (.lst e hz r2), .loc ?_⟩
    · obtain ⟨l, e1, f1⟩ := n1.pre
      refine ⟨l ++ [a], by rw [e1, List.append_assoc], fun b hb => ?_⟩
      rcases List.mem_append.mp hb with z | z
      · exact f1 b z
      · rw [show b = a by simpa using z]; exact h0
    · have := n1.dead n z
      rw [List.getElem?_append_left (List.getElem?_eq_some_iff.mp this).1]; exact this
    · rw [← g1.len, List.getElem?_append_right (Nat.le_refl _)]; simp
theorem oneD {m : Env → Store → Res Sq} {g : D → Store → Res β} {σ : L2.St} {σd : Env} {K : β → Store → List Addr → Hp → Prop} {R : V → Hp → Prop}
    (xt : XT X E) (gd : Good M S ρ H) (er : ER M S ρ H σ σd) (h : PostG M G E S ρ H ((m σd S).bind fun q S1 => (mat q S1).bind g) K)
    (k : ∀ d x S2 ρ2 H2, Nx S ρ H S2 ρ2 H2 → Good M S2 ρ2 H2 → VR M S2 ρ2 H2 x d → PostG M G E S2 ρ2 H2 (g d S2) K → R x H2) : tEv X M G m σ H fun x H1 => R x H1 := by
  refine ⟨E, S, ρ, σd, xt, gd, er, (PostG.bind0 h).imp fun q S1 ρ1 H1 e1 n1 g1 h1 x hx => ?_⟩
  obtain ⟨d, S2, ρ2, e2, n2, g2, r2⟩ := mat_ok gd n1 g1 hx
  rw [e2] at h1
  exact k d x S2 ρ2 H1 n2 g2 r2 (PostG.later gd g2 n2 h1)
end
section
variable {X : Cx} {M : Nm} {G : Gx} {a b e : Expr} {es : List Expr} {pos : Pos} {ma mb : Env → Store → Res Sq} {ms : Env → Store → Res (List D)}
theorem sa_nil {cal} : SA X M G [] (evs G cal .nil) := ⟨fun ps pins s σ H Q I h => pa_nil.run ps pins s σ H Q I (by
  obtain ⟨E, S, ρ, σd, xt, gd, er, h⟩ := h
  unfold evs at h
  exact h.here gd _ .nil)⟩
/-- a starred argument -/
def starB : Expr → Bool
  | .Starred _ _ => true
  | _ => false
theorem star_no (h : starB e = false) : starEach (e :: es) X.env = (false, eval e X.env) :: starEach es X.env := by
  cases e <;> first | rfl | cases h
theorem sa_cons (hs : starB e = false) (ha : SE X M G e ma) (hr : SA X M G es ms) : SA X M G (e :: es) (fun σ S => (ma σ S).bind fun q S1 => (mat q S1).bind fun d S2 => (ms σ S2).bind fun ds S3 => .ok (d :: ds) S3) := by
  refine ⟨fun ps pins s σ H Q I h => (pa_cons ha hr (star_no hs)).run ps pins s σ H Q I ?_⟩
  obtain ⟨E, S, ρ, σd, xt, gd, er, h⟩ := h
  refine oneD xt gd er h fun d x S2 ρ2 H2 n2 g2 hx h2 => ?_
  refine ⟨E, S2, ρ2, σd, xt, g2, er.nx n2 gd, (PostG.bind g2 h2).imp fun ds S3 ρ3 H3 e3 n3 g3 h3 vs hv => ?_⟩
  exact h3.here g3 _ (.cons (hx.nx n3 g2) hv)
theorem sa_star {p : Pos} (ha : SE X M G e ma) (hr : SA X M G es ms) : SA X M G (.Starred e p :: es) (fun σ S => (ma σ S).bind fun q S1 => (lift (seqOf S1 q) S1).bind fun xs S2 => (ms σ S2).bind fun ds S3 => .ok (xs ++ ds) S3) := by
  refine ⟨fun ps pins s σ H Q I h => (StX.pa_star (p := p) ha hr).run ps pins s σ H Q I ?_⟩
  obtain ⟨E, S, ρ, σd, xt, gd, er, h⟩ := h
  refine ⟨E, S, ρ, σd, xt, gd, er, (PostG.bind gd h).imp fun q S1 ρ1 H1 e1 n1 g1 h1 x hx => ?_⟩
  obtain ⟨xs, e2, h2⟩ := (PostG.bind g1 h1).lift_
  have h3 := h2.here g1
  obtain ⟨a, vs, rfl, hq, z, r⟩ := seq_rep (K := X.K) g1 hx e2
  refine ⟨a, vs, rfl, ?_, ?_⟩
  · rcases hq with hq | ⟨hq, _⟩
    · exact .inr hq
    · exact .inl hq
  · refine ⟨E, S1, ρ1, σd, xt, g1, er.nx n1 gd, (PostG.bind g1 h3).imp fun ds S3 ρ3 H3 e3 n3 g3 h4 ws hv => ?_⟩
    exact h4.here g3 _ ((r.nx n3 g1).append hv)
theorem se_tup {k : Nat} (hr : SA X M G es ms) : SE X M G (.Tuple es k pos) (fun σ S => (ms σ S).bind fun ds S1 => if ds.length ≤ sizeLine then .ok (.val (.tup ds)) S1 else .bad) := by
  refine ⟨fun pins s σ H Q I h => (pe_tup (pos := pos) (x1 := k) hr).run pins s σ H Q I ?_⟩
  obtain ⟨E, S, ρ, σd, xt, gd, er, h⟩ := h
  refine ⟨E, S, ρ, σd, xt, gd, er, (PostG.bind gd h).imp fun ds S3 ρ3 H3 e3 n3 g3 h4 vs hv => ?_⟩
  split at h4
  · rename_i hz
    refine ⟨by rw [hv.length]; exact hz, fun p hp => ?_⟩
    exact h4 _ _ (Nx.alloc g3 hp) (g3.alloc hp) _ (.val (VR.newTup g3 hp (by rw [hv.length]; exact hz) hv))
  · exact h4.elim
theorem se_lst (hr : SA X M G es ms) : SE X M G (.List es pos) (fun σ S => (ms σ S).bind fun ds S1 => if ds.length ≤ sizeLine then .ok (.fresh ds) S1 else .bad) := by
  refine ⟨fun pins s σ H Q I h => (pe_lst (pos := pos) hr).run pins s σ H Q I ?_⟩
  obtain ⟨E, S, ρ, σd, xt, gd, er, h⟩ := h
  refine ⟨E, S, ρ, σd, xt, gd, er, (PostG.bind gd h).imp fun ds S3 ρ3 H3 e3 n3 g3 h4 vs hv => ?_⟩
  split at h4
  · rename_i hz
    refine ⟨by rw [hv.length]; exact hz, fun p hp => ?_⟩
    exact h4 _ _ (Nx.alloc g3 hp) (g3.alloc hp) _ (SqR.newLst g3 hp (n3.none_back gd g3 hp) (by rw [hv.length]; exact hz) hv)
  · exact h4.elim
theorem atI_rep {S : Store} {ρ : List Addr} {H : Hp} {vs : List V} {ds : List D} {i : Int} {d : D} (r : VRs M S ρ H vs ds) (h : atI ds i = some d) : ∃ v, atI vs i = some v ∧ VR M S ρ H v d := by
  unfold atI at h ⊢
  rw [← r.length] at h
  cases e : ixN vs.length i with
  | none => rw [e] at h; cases h
  | some j =>
    rw [e] at h
    exact r.get h
theorem ix_plain (h : ∀ lo hi st p, b ≠ .Slice lo hi st p) : PlainIx b := by
  intro o i
  cases b <;> first | rfl | exact absurd rfl (h _ _ _ _)
theorem se_idx (hb' : ∀ lo hi st p, b ≠ .Slice lo hi st p) (ha : SE X M G a ma) (hb : SE X M G b mb) : SE X M G (.Subscript a b pos) (fun σ S => (ma σ S).bind fun p S1 => (mb σ S1).bind fun q S2 => match q with
    | .val (.int k) => lift (idxD S2 p k) S2
    | _ => .bad) := by
  refine ⟨fun pins s σ H Q I h => (pe_ix (pos := pos) ix_seq ha hb (ix_plain hb')).run pins s σ H Q I ?_⟩
  obtain ⟨E, S, ρ, σd, xt, gd, er, h⟩ := h
  refine two xt gd er h fun p q x y S2 ρ2 H2 n2 g2 hx hy h2 => ?_
  split at h2
  · rename_i k
    cases hy with
    | val hy =>
      cases hy
      obtain ⟨w, e, h3⟩ := h2.lift_
      have h4 := h3.here g2
      unfold idxD at e
      split at e
      · cases hx with
        | val hx =>
          cases hx
          split at e
          · rename_i hz
            obtain ⟨c, e2, rfl⟩ := Option.map_eq_some_iff.mp e
            exact .inr (.inr ⟨_, _, _, rfl, rfl, hz, e2, h4 _ (.val (.str _))⟩)
          · cases e
      · obtain ⟨xs, e2, e3⟩ := Option.bind_eq_some_iff.mp e
        obtain ⟨d, e4, rfl⟩ := Option.map_eq_some_iff.mp e3
        obtain ⟨a, vs, rfl, hq, z, r⟩ := seq_rep (K := X.K) g2 hx e2
        obtain ⟨v, e5, r5⟩ := atI_rep r e4
        rcases hq with hq | ⟨hq, _⟩
        · exact .inl ⟨_, _, _, _, rfl, rfl, hq, e5, h4 _ (.val r5)⟩
        · exact .inr (.inl ⟨_, _, _, _, rfl, rfl, hq, e5, h4 _ (.val r5)⟩)
  · exact h2.elim
end
end DI
end

section
set_option Elab.async false
set_option linter.all false
set_option maxRecDepth 100000
/-! DISort: sorted, of lists and tuples of whole numbers, of tuples of whole numbers. -/
namespace DI
open PySem PySem.Spec L2
open PyProof.Rows hiding St
section
variable {prog : Program} {w : World} {A : Around} {E : Value → Shared → Prop} {s : Shared}
theorem collect_seq {T : String} (hT : T = "list" ∨ T = "tuple") {l : Addr} {o : Obj} {n : Nat} {vs : List Value} {Q : List Value → Shared → Prop} (ho : s.heap.get? l = some o) (hc : o.cls = .type T) (hd : o.data = .seq vs.toArray n)
    (h : Q vs { s with heap := (s.heap.push (seqObj "list" #[] 0)).update s.heap.objs.size (Obj.mapSeq (· ++ vs.toArray)) }) (hsz : vs.length ≤ sizeLine) :
    wpAny (model prog w) A (collect (.ref l)) Q E s := by
  unfold collect
  refine wpAny_bind (wpAny_runValue (codeAny_builtin entry_proto_collect' ?_))
  show wpAny _ _ (do again (.builtin "list.__iadd__" ⟨[← newList [], .ref l], []⟩)) _ _ s
  refine wpAny_bind (wpAny_newList (wpAny_pure ⟨Code.quiet_builtin _ (by decide +kernel), codeAny_builtin entry_list_iadd' ?_⟩))
  show wpAny _ _ (Builtin.List.listExtendWith (.ref s.heap.objs.size) (.ref l) (.ref s.heap.objs.size)) _ _ { s with heap := s.heap.push (seqObj "list" #[] 0) }
  unfold Builtin.List.listExtendWith
  have ho' : (s.heap.push (seqObj "list" #[] 0)).get? l = some o := Heap.get?_push_of_some _ ho
  refine wpAny_bind (wpAny_typeOf (T := T) ⟨o, ho', hc⟩ ?_)
  have ht : (Value.type T == Value.type "list" || Value.type T == Value.type "tuple") = true := by
    rcases hT with rfl | rfl <;> rfl
  rw [if_pos (by rw [Bool.or_assoc, ht, Bool.or_true])]
  refine wpAny_bind (listItems_at ho' hd ?_)
  refine wpAny_bind (listItems_at (xs := #[]) (n := 0) (Heap.get?_push_size _ rfl) rfl ?_)
  rw [if_neg (by simp)]
  refine wpAny_bind (listUpdate_at (xs := #[]) (n := 0) (Heap.get?_push_size _ rfl) rfl ?_ (Nat.zero_le _) (by show (#[] ++ vs.toArray).size ≤ sizeLine + 1; simp only [Array.size_append, List.size_toArray, List.length_nil]; omega))
  refine wpAny_pure ?_
  show wpAny (model prog w) A (do
      let o ← load s.heap.objs.size
      match o.data with
      | .seq xs _ => pure xs.toList
      | _ => unsupported "internal:collect") Q E { s with heap := (s.heap.push (seqObj "list" #[] 0)).update s.heap.objs.size (Obj.mapSeq (· ++ vs.toArray)) }
  refine wpAny_bind (wpAny_load (get?_update_seq (Heap.get?_push_size _ rfl) _) ?_)
  show wpAny _ _ (pure ((#[] : Array Value) ++ vs.toArray).toList) Q E _
  rw [show ((#[] : Array Value) ++ vs.toArray).toList = vs by simp]
  exact wpAny_pure h
/-- sorted of a list or tuple -/
theorem sorted_seq {T : String} (hT : T = "list" ∨ T = "tuple") {l : Addr} {o : Obj} {n : Nat} {vs : List Value} {b : Bool} {kw : List (Str × Value)} {ltv : Value → Value → Bool} {Q : Value → Shared → Prop} (hk : ∀ a, Builtin.«list.sort» ⟨[.ref a], kw⟩ = Builtin.«list.sort» ⟨[.ref a], [(Str.ofString "reverse", .bool b)]⟩)
    (ha1 : argsOk "sorted" ⟨[.ref l], kw⟩) (ha2 : ∀ a, argsOk "list.sort" ⟨[a], kw⟩) (O : SrtO.Swo ltv) (ho : s.heap.get? l = some o) (hc : o.cls = .type T) (hd : o.data = .seq vs.toArray n) (hz : vs.length ≤ sizeLine)
    (hS : 2 ≤ vs.length → ∀ (h₁ : Heap) (a : Addr), h₁.get? a = some (seqObj "list" vs.toArray 0) → (∀ b o, s.heap.get? b = some o → b ≠ a ∧ h₁.get? b = some o) → SrtO.SortableO prog w A.in1.in1 { s with heap := h₁ } a vs ltv)
    (h : ∀ out : List Value, SrtO.Srtd ltv out → SrtO.Stb ltv out (if b = true then vs.reverse else vs) → Q (.ref (s.heap.objs.size + 1)) { s with heap := sortedAll s.heap vs (if b = true then out.toArray.reverse else out.toArray) }) :
    wpAny (model prog w) A (call (.builtin "sorted") [.ref l] kw) Q E s := by
  refine call_function_entry_kw kind_sorted plain_sorted entry_sorted ha1 ?_
  unfold Builtin.«sorted»
  refine wpAny_bind (m := checkCount "sorted" 1 1 _) (wpAny_pure ?_)
  refine wpAny_bind (collect_seq hT ho hc hd ?_ hz)
  refine wpAny_bind (wpAny_newList ?_ hz)
  have hsz : ((s.heap.push (seqObj "list" #[] 0)).update s.heap.objs.size (Obj.mapSeq (· ++ vs.toArray))).objs.size = s.heap.objs.size + 1 := by
    rw [Heap.size_update, size_push']
  have hoL : (((s.heap.push (seqObj "list" #[] 0)).update s.heap.objs.size (Obj.mapSeq (· ++ vs.toArray))).push (seqObj "list" vs.toArray 0)).get? (s.heap.objs.size + 1) = some (seqObj "list" vs.toArray 0) := by
    rw [← hsz]; exact Heap.get?_push_size _ rfl
  have keep : ∀ b o, s.heap.get? b = some o → b ≠ s.heap.objs.size + 1 ∧ (((s.heap.push (seqObj "list" #[] 0)).update s.heap.objs.size (Obj.mapSeq (· ++ vs.toArray))).push (seqObj "list" vs.toArray 0)).get? b = some o := fun b o q => by
    have hlt : b < s.heap.objs.size := Heap.lt_size q
    refine ⟨Nat.ne_of_lt (Nat.lt_succ_of_lt hlt), Heap.get?_push_of_some _ ?_⟩
    rw [Heap.get?_update_ne _ _ _ _ (Nat.ne_of_lt hlt)]
    exact Heap.get?_push_of_some _ q
  show wpAny _ _ _ _ _ { s with heap := ((s.heap.push (seqObj "list" #[] 0)).update s.heap.objs.size (Obj.mapSeq (· ++ vs.toArray))).push (seqObj "list" vs.toArray 0) }
  rw [hsz]
  refine wpAny_bind (wpAny_holding (wpAny_call_entry_kw slot_list_sort ⟨_, hoL, rfl⟩ entry_list_sort ?_ (ha2 _)))
  rw [hk]
  refine SrtR.list_sort_ordR O hoL hz (fun h2 => hS h2 _ _ hoL keep) fun out hs hb => ⟨_, rfl, ?_⟩
  exact wpAny_pure ⟨_, rfl, h out hs hb⟩
theorem sort_plain (a : Addr) : Builtin.«list.sort» ⟨[.ref a], []⟩ = Builtin.«list.sort» ⟨[.ref a], [(Str.ofString "reverse", .bool false)]⟩ := by
  rw [PyProof.Rows.list_sort_rev]
  first | rfl | kernel_rfl
end

/-! ### the order of rows of whole numbers -/
theorem lex_irr : ∀ a : List Int, HT.lexLt a a = false
  | [] => rfl
  | x :: a => by rw [HT.lexLt_cons, if_pos rfl]; exact lex_irr a
theorem lex_asym : ∀ {a b : List Int}, HT.lexLt a b = true → HT.lexLt b a = false
  | [], [], h => by cases h
  | [], _ :: _, _ => rfl
  | _ :: _, [], h => by cases h
  | x :: a, y :: b, h => by
    rw [HT.lexLt_cons] at h ⊢
    by_cases e : x = y
    · subst e
      rw [if_pos rfl] at h ⊢
      exact lex_asym h
    · rw [if_neg e] at h
      rw [if_neg (fun z => e z.symm)]
      have := of_decide_eq_true h
      exact decide_eq_false (by omega)
theorem lex_anti : ∀ {a b : List Int}, HT.lexLt a b = false → HT.lexLt b a = false → a = b
  | [], [], _, _ => rfl
  | [], _ :: _, h, _ => by cases h
  | _ :: _, [], _, h => by cases h
  | x :: a, y :: b, h1, h2 => by
    rw [HT.lexLt_cons] at h1 h2
    by_cases e : x = y
    · subst e
      rw [if_pos rfl] at h1 h2
      rw [lex_anti h1 h2]
    · rw [if_neg e] at h1
      rw [if_neg (fun z => e z.symm)] at h2
      have a1 := of_decide_eq_false h1
      have a2 := of_decide_eq_false h2
      omega
theorem lex_tr : ∀ {a b c : List Int}, HT.lexLt b a = false → HT.lexLt c b = false → HT.lexLt c a = false
  | [], b, [], _, _ => rfl
  | [], [], _ :: _, _, _ => rfl
  | [], _ :: _, _ :: _, _, _ => rfl
  | _ :: _, [], _, h, _ => by cases h
  | _ :: _, _ :: _, [], _, h => by cases h
  | x :: a, y :: b, z :: c, h1, h2 => by
    rw [HT.lexLt_cons] at h1 h2 ⊢
    by_cases e : y = x
    · subst e
      rw [if_pos rfl] at h1
      by_cases f : z = y
      · subst f
        rw [if_pos rfl] at h2 ⊢
        exact lex_tr h1 h2
      · rw [if_neg f] at h2 ⊢
        exact h2
    · rw [if_neg e] at h1
      have a1 := of_decide_eq_false h1
      by_cases f : z = y
      · subst f
        rw [if_neg e]
        exact h1
      · rw [if_neg f] at h2
        have a2 := of_decide_eq_false h2
        rw [if_neg (by omega)]
        exact decide_eq_false (by omega)
theorem lexLe_tr (a b c : List Int) (h1 : lexLe a b = true) (h2 : lexLe b c = true) : lexLe a c = true := by
  simp only [lexLe, Bool.not_eq_true'] at *
  exact lex_tr h1 h2
theorem lexLe_tot (a b : List Int) : (lexLe a b || lexLe b a) = true := by
  simp only [lexLe]
  cases h : HT.lexLt b a with
  | false => rfl
  | true => rw [lex_asym h]; rfl
theorem swo_lexk {α : Type} (k : α → List Int) : SrtO.Swo fun v u : α => HT.lexLt (k v) (k u) := by
  refine ⟨fun x y h => ?_, fun x y z h1 h2 => ?_⟩
  · exact lex_asym h
  · exact lex_tr h1 h2
/-- what is sorted is told by what it is a row of -/
theorem lex_uniq {l m : List (List Int)} (h1 : l.Pairwise fun a b => HT.lexLt b a = false) (hp : l.Perm m) : l = m.mergeSort lexLe := by
  refine List.Perm.eq_of_pairwise (le := fun a b => lexLe a b = true) (fun a b _ _ q1 q2 => ?_) (h1.imp fun h => by simp [lexLe, h]) (List.pairwise_mergeSort lexLe_tr lexLe_tot m) (hp.trans (List.mergeSort_perm m lexLe).symm)
  simp only [lexLe, Bool.not_eq_true'] at q1 q2
  exact lex_anti q2 q1
theorem ord_uniq {l m : List Int} (h1 : l.Pairwise (· ≤ ·)) (hp : l.Perm m) : l = m.mergeSort fun a b => decide (a ≤ b) := by
  refine List.Perm.eq_of_pairwise (le := fun a b => decide (a ≤ b) = true) (fun a b _ _ q1 q2 => ?_) (h1.imp fun h => decide_eq_true h) (List.pairwise_mergeSort (fun a b c q1 q2 => ?_) (fun a b => ?_) m) (hp.trans (List.mergeSort_perm m _).symm)
  · have a1 := of_decide_eq_true q1
    have a2 := of_decide_eq_true q2
    omega
  · have a1 := of_decide_eq_true q1
    have a2 := of_decide_eq_true q2
    exact decide_eq_true (by omega)
  · by_cases h : a ≤ b
    · rw [decide_eq_true h]; rfl
    · rw [decide_eq_true (show b ≤ a by omega), Bool.or_true]
theorem ord_uniqR {l m : List Int} (h1 : l.Pairwise (· ≥ ·)) (hp : l.Perm m) : l = m.mergeSort fun a b => decide (b ≤ a) := by
  refine List.Perm.eq_of_pairwise (le := fun a b => decide (b ≤ a) = true) (fun a b _ _ q1 q2 => ?_) (h1.imp fun h => decide_eq_true h) (List.pairwise_mergeSort (fun a b c q1 q2 => ?_) (fun a b => ?_) m) (hp.trans (List.mergeSort_perm m _).symm)
  · have a1 := of_decide_eq_true q1
    have a2 := of_decide_eq_true q2
    omega
  · have a1 := of_decide_eq_true q1
    have a2 := of_decide_eq_true q2
    exact decide_eq_true (by omega)
  · by_cases h : b ≤ a
    · rw [decide_eq_true h]; rfl
    · rw [decide_eq_true (show a ≤ b by omega), Bool.or_true]

/-! ### tuples of whole numbers compare -/
section
variable {prog : Program} {w : World} {A : Around} {E : Value → Shared → Prop} {s : Shared}
theorem lex_walk {b sz : Bool} {Q : Bool → Shared → Prop} {xs : List Value} {ns : List Int} (hx : IntsAre xs ns) : ∀ {ys : List Value} {ms : List Int} (i : Nat), IntsAre ys ms → sz = decide (ns.length < ms.length) → Q (HT.lexLt ns ms) s →
    PySem.W.KatLex prog w A b sz Q (xs.zip ys) i s := by
  induction hx with
  | nil =>
    intro ys ms i hy hz h
    cases hy with
    | nil =>
      have e : sz = false := hz
      subst e
      exact PySem.W.kat_nil h
    | cons q u hy =>
      have e : sz = true := by rw [hz]; exact decide_eq_true (Nat.succ_pos _)
      subst e
      exact PySem.W.kat_nil h
  | @cons p t xs ns hx ih =>
    intro ys ms i hy hz h
    cases hy with
    | nil =>
      have e : sz = false := by rw [hz]; exact decide_eq_false (Nat.not_lt_zero _)
      subst e
      exact PySem.W.kat_nil h
    | @cons q u ys ms hy =>
      refine PySem.W.kat_cons (wpAny_eqBool_int ?_)
      rw [HT.lexLt_cons] at h
      by_cases e : p = q
      · subst e
        rw [if_pos rfl] at h
        rw [beq_self_eq_true]
        exact PySem.W.kat_yes (ih (i + 1) hy (by rw [hz]; simp) h)
      · rw [if_neg e] at h
        rw [show (p == q) = false from beq_eq_false_iff_ne.mpr e]
        exact PySem.W.kat_no (TS.oneLt_ints _ h)
theorem firsts_at {h : Heap} (k : Value → List Int) : ∀ vs : List Value, (∀ v ∈ vs, TS.TupInts h v (k v) ∧ k v ≠ []) → ∃ fs, PySem.W.KatTups h vs fs ∧ fs.length = vs.length ∧ ∀ f, f ∈ fs → ∃ n t, f = Value.int n t
  | [], _ => ⟨[], PySem.W.KatTups.nil, rfl, fun f hf => by simp at hf⟩
  | v :: vs, x => by
    obtain ⟨fs, kk, hl, hi⟩ := firsts_at k vs fun u hu => x u (List.mem_cons_of_mem _ hu)
    obtain ⟨⟨a, xs, rfl, ⟨o, ho, hc, n, hdt⟩, i⟩, hn⟩ := x v (List.mem_cons_self ..)
    obtain ⟨y, ys, e⟩ : ∃ y ys, xs.toList = y :: ys := by
      cases q : xs.toList with
      | nil =>
        rw [q] at i
        exact absurd (List.eq_nil_of_length_eq_zero i.length.symm) hn
      | cons y ys => exact ⟨y, ys, rfl⟩
    obtain ⟨m, t, hy⟩ := i.all y (by rw [e]; exact List.mem_cons_self ..)
    refine ⟨y :: fs, PySem.W.KatTups.cons ho hc hdt ?_ kk, by simp [hl], ?_⟩
    · have z := congrArg (fun l : List Value => l[0]?) e
      simpa using z
    · intro f hf
      rcases List.mem_cons.mp hf with rfl | hf
      · exact ⟨m, t, hy⟩
      · exact hi f hf
theorem tups_sortable {a : Addr} {vs : List Value} {k : Value → List Int} (h2 : 2 ≤ vs.length) (hp : ∀ v ∈ vs, TS.TupInts s.heap v (k v) ∧ k v ≠ []) (ha : ∀ o, s.heap.get? a = some o → o.cls ≠ .type "tuple") :
    SrtO.SortableO prog w A s a vs fun v u => HT.lexLt (k v) (k u) := by
  intro h' keep
  have hp' : ∀ v ∈ vs, TS.TupInts h' v (k v) ∧ k v ≠ [] := fun v hm => ⟨(hp v hm).1.keeps fun b o e c => keep b o (fun z => by subst z; exact ha o e c) e, (hp v hm).2⟩
  obtain ⟨fs, h1, hl, h3⟩ := firsts_at k vs hp'
  refine ⟨tuples' true, fun Q E hq => ?_, ?_⟩
  · refine PySem.W.kat_kind (T := .type "int") h1 (by omega) (fun f hm => ?_) (by rfl) ?_
    · obtain ⟨x, t, rfl⟩ := h3 f hm
      exact PySem.W.Looks.now
    · have e : (Value.type "int" != Value.type "tuple") = true := by first | decide +kernel | rfl | decide
      rw [e]
      exact hq
  · intro p q hm hm'
    have g1 := (hp' _ hm).1
    have g2 := (hp' _ hm').1
    show wpAny (model prog w) A (keyLt' (tuples' true) p.1 q.1) (fun r s' => s' = { s with heap := h' } ∧ r = HT.lexLt (k p.1) (k q.1)) (fun _ _ => False) { s with heap := h' }
    generalize k p.1 = x at g1 ⊢
    generalize k q.1 = y at g2 ⊢
    obtain ⟨a1, xs, e1, ⟨o, ho, hc, n, hdt⟩, i⟩ := g1
    obtain ⟨a2, ys, e2, ⟨o', ho', hc', n', hdt'⟩, i'⟩ := g2
    rw [e1, e2]
    refine PySem.W.kat_lt ho hdt ho' hdt' ?_
    refine lex_walk i 0 i' ?_ ⟨rfl, rfl⟩
    rw [← i.length, ← i'.length, Array.length_toList, Array.length_toList]
end
section
variable {X : Cx}
/-- the numbers of a tuple of whole numbers -/
def readI (H : Hp) : V → List Int
  | .ref t => match H t with
    | some (.tup vs) => vs.map fun v => match v with
      | .int i => i
      | _ => 0
    | _ => []
  | _ => []
theorem readI_at {H : Hp} {t : Addr} {ns : List Int} (h : H t = some (.tup (ns.map V.int))) : readI H (.ref t) = ns := by
  simp only [readI, h, List.map_map]
  exact (List.map_congr_left fun _ _ => rfl).trans (List.map_id ns)
/-- sorted -/
def rSort (K : PySem.W.Frag) (b : Bool) : List V → Hp → VK → Prop := fun vs H Q => ∃ (a : Addr) (xs : List V), vs = [V.ref a] ∧ (SqL K H a xs ∨ SqT K H a xs) ∧
  ((∃ ns : List Int, xs = ns.map V.int ∧ ∀ (ns' : List Int) (p : Addr), ns'.Perm ns → L2.OrdB b ns' → H p = none → Q (.ref p) (upd H p (.lst (ns'.map V.int)))) ∨
   (b = false ∧ (∀ x ∈ xs, ∃ (t : Addr) (ns : List Int), x = V.ref t ∧ H t = some (.tup (ns.map V.int))) ∧ (2 ≤ xs.length → ∀ x ∈ xs, readI H x ≠ []) ∧
    ∀ (ys : List V) (p : Addr), ys.Perm xs → (ys.map (readI H)).Pairwise (fun x y => HT.lexLt y x = false) → H p = none → Q (.ref p) (upd H p (.lst ys))))
theorem seq_open {pins : List (Addr × Obj)} {s : Shared} {σ : St} {H : Hp} {a : Addr} {xs : List V} (I : Inv X pins σ H s) (hs : SqL X.K H a xs ∨ SqT X.K H a xs) :
    ∃ its T o n, Vals xs its ∧ xs.length ≤ sizeLine ∧ (T = "list" ∨ T = "tuple") ∧ s.heap.get? a = some o ∧ o.cls = .type T ∧ o.data = .seq its.toArray n := by
  rcases hs with hs | hs
  · obtain ⟨its, rv, hl, hz⟩ := I.list hs
    obtain ⟨o, ho, hc, n, hd⟩ := hl.isList
    exact ⟨its, "list", o, n, rv, hz, .inl rfl, ho, hc, hd⟩
  · obtain ⟨its, rv, hl, hz⟩ := I.tuple hs
    obtain ⟨o, ho, hc, n, hd⟩ := hl
    exact ⟨its, "tuple", o, n, rv, hz, .inr rfl, ho, hc, hd⟩
theorem sort_run {b : Bool} {kw : List (Str × Value)} {pins : List (Addr × Obj)} {s : Shared} {σ : St} {H : Hp} {vs : List V} {us : List Value} {Q : VK} (I : Inv X pins σ H s) (rr : Vals vs us)
    (hk : ∀ a, Builtin.«list.sort» ⟨[.ref a], kw⟩ = Builtin.«list.sort» ⟨[.ref a], [(Str.ofString "reverse", .bool b)]⟩) (ha1 : ∀ a, argsOk "sorted" ⟨[.ref a], kw⟩) (ha2 : ∀ a, argsOk "list.sort" ⟨[a], kw⟩)
    (h : rSort X.K b vs H Q) : wpAny (model X.prog X.w) X.A (call (.builtin "sorted") us kw) (EP X pins σ Q) X.xe s := by
  obtain ⟨a, xs, rfl, hs, h⟩ := h
  rw [Vals.ref1 rr]
  obtain ⟨its, T, o, n, rv, hz, hT, ho, hc, hd⟩ := seq_open I hs
  have hz' : its.length ≤ sizeLine := by rw [← rv.length]; exact hz
  rcases h with ⟨ns, rfl, q⟩ | ⟨rfl, hx, hne, q⟩
  · have hi := rv.ints
    refine sorted_seq hT hk (ha1 _) ha2 SrtO.swo_int ho hc hd hz' (fun h2 h₁ a' _ _ => SrtO.ints_sortable hi h2) fun out h1 h2 => ?_
    obtain ⟨ns', k1, k2, k3⟩ := SrtR.ints_outR hi h1 h2
    obtain ⟨ep, he'⟩ := PyProof.Rows.sortedAll_at s.heap its (if b = true then out.toArray.reverse else out.toArray)
    have hlen : (ns'.map V.int).length ≤ sizeLine := by
      rw [List.length_map, k2.length_eq]
      rw [List.length_map] at hz
      exact hz
    have e0 : ((if b = true then out.toArray.reverse else out.toArray).toList).toArray = (if b = true then out.toArray.reverse else out.toArray) := by rw [Array.toArray_toList]
    exact ⟨.ref _, upd H (s.heap.objs.size + 1) (.lst (ns'.map V.int)), I.laid (t' := s.toks) (fun _ _ => PyProof.Rows.sortedAll_old) (Nat.le_succ _) ⟨hlen, _, ep, vals_of_ints k1, by rw [e0]; exact he'⟩, rfl, q _ _ k2 k3 (I.hok.fresh (Nat.le_succ _))⟩
  · obtain ⟨e1, e2⟩ := refs_back rv fun x m => by
      obtain ⟨t, ns, e, _⟩ := hx x m
      exact ⟨t, e⟩
    have hp : ∀ v ∈ its, TS.TupInts s.heap v (readI H (backV v)) := fun v hv => by
      obtain ⟨t, rfl⟩ := e2 v hv
      have hm : V.ref t ∈ xs := by rw [e1]; exact List.mem_map.mpr ⟨_, hv, rfl⟩
      obtain ⟨t', ns, e, ht⟩ := hx _ hm
      cases e
      obtain ⟨_, its2, r2, tp⟩ := I.hok _ _ ht
      have er : readI H (backV (.ref t)) = ns := readI_at ht
      rw [er]
      exact ⟨t, _, rfl, tp, by simpa using r2.ints⟩
    have hm : ∀ v ∈ its, backV v ∈ xs := fun v hv => by rw [e1]; exact List.mem_map.mpr ⟨_, hv, rfl⟩
    refine sorted_seq (ltv := fun v u => HT.lexLt (readI H (backV v)) (readI H (backV u))) hT hk (ha1 _) ha2 (swo_lexk fun u => readI H (backV u)) ho hc hd hz' (fun h2 h₁ a' ha' kk => tups_sortable h2 (fun v hv => ⟨(hp v hv).keeps fun b o e _ => (kk b o e).2, hne (by rw [rv.length]; exact h2) _ (hm v hv)⟩) fun o e => ?_) fun out h1 h2 => ?_
    · have e' : some o = some (seqObj "list" its.toArray 0) := e.symm.trans ha'
      cases e'
      intro c
      exact absurd (Value.type.inj c) (by decide)
    · have h2p : out.Perm its := h2.perm
      have h3 : ∀ u ∈ out, ∃ a, u = Value.ref a := fun u hu => e2 u (h2p.mem_iff.mp hu)
      have hb : (out.map backV).Perm xs := by
        rw [e1]
        exact h2p.map backV
      obtain ⟨ep, he'⟩ := PyProof.Rows.sortedAll_at s.heap its out.toArray
      have hlen : (out.map backV).length ≤ sizeLine := by
        rw [hb.length_eq]
        exact hz
      refine ⟨.ref _, upd H (s.heap.objs.size + 1) (.lst (out.map backV)), I.laid (t' := s.toks) (fun _ _ => PyProof.Rows.sortedAll_old) (Nat.le_succ _) ⟨hlen, out, ep, vals_back h3, he'⟩, rfl, q _ _ hb ?_ (I.hok.fresh (Nat.le_succ _))⟩
      rw [List.map_map]
      exact List.pairwise_map.mpr h1
theorem cr_sort : CallR X (.builtin "sorted") (rSort X.K false) := by
  intro pins s σ H vs us Q I r h
  exact sort_run I r sort_plain (fun _ => PyProof.Rows.args_sorted1 _) (fun _ => PyProof.Rows.args_list_sort _) h
theorem cr_sortR : CallRK X (.builtin "sorted") [Str.ofString "reverse"] fun vs zs H Q => zs = [.bl true] ∧ rSort X.K true vs H Q := by
  intro pins s σ H vs zs us ws Q I r rz h
  obtain ⟨rfl, h⟩ := h
  obtain ⟨w1, rfl, e1⟩ := vals1 rz
  obtain rfl : w1 = Value.bool true := e1
  exact sort_run I r (fun _ => rfl) (fun _ => PyProof.Rows.args_sorted_rev _ _) (fun _ => PyProof.Rows.args_list_sort_rev _ _) h
end
end DI
end

section
set_option Elab.async false
set_option linter.all false
set_option maxRecDepth 100000
/-! DIBlt: built-in functions. -/
namespace DI
open PySem PySem.Spec L2
open PyProof.Rows hiding St
section
variable {prog : Program} {w : World} {A : Around} {E : Value → Shared → Prop} {s : Shared} {l : Addr} {its : List Value} {ns : List Int}
theorem iter_tupA {items : Array Value} {Q : Value → Shared → Prop} (hl : s.heap.IsTuple l items)
    (h : ∀ s₂ : Shared, s₂ = { s with heap := s.heap.push { cls := .type "tuple_iterator", data := .fields #[.ref l, .int 0 0] } } → (s₂.heap.IsTupleIter s.heap.objs.size l 0 ∧ s₂.heap.IsTuple l items) → (∀ b ∈ [s.heap.objs.size, l], b < s₂.heap.objs.size) → l ≠ s.heap.objs.size → Q (.ref s.heap.objs.size) s₂) : wpAny (model prog w) A (pyIter (.ref l)) Q E s := by
  have lt : l < s.heap.objs.size := by
    obtain ⟨o, e, _⟩ := hl
    exact Heap.lt_size e
  refine wpAny_pyIter_tuple hl (h _ rfl ⟨⟨_, Heap.get?_push_size _ rfl, rfl, rfl⟩, hl.at fun o e => Heap.get?_push_of_some _ e⟩ (fun b hb => ?_) (Nat.ne_of_lt lt))
  have q : b = s.heap.objs.size ∨ b = l := by simpa using hb
  refine Nat.lt_of_lt_of_eq (?_ : b < s.heap.objs.size + 1) (Heap.size_push _ _).symm
  rcases q with rfl | rfl
  · exact Nat.lt_succ_self _
  · exact Nat.lt_succ_of_lt lt
theorem tup_kept {hp' : Heap} (hk : ∀ b o, b ∉ [s.heap.objs.size] → (s.heap.push { cls := .type "tuple_iterator", data := .fields #[.ref l, .int 0 0] }).get? b = some o → hp'.get? b = some o) :
    ∀ b o, s.heap.get? b = some o → hp'.get? b = some o := fun b o ez =>
  hk b o (by simp only [List.mem_singleton]; exact Nat.ne_of_lt (Heap.lt_size ez)) (Heap.get?_push_of_some _ ez)
/-- the numbers of a tuple of whole numbers, as an array with their tokens -/
theorem ints_of (ii : IntsAre its ns) : ∃ zs, numsOf (intItems zs).toList = ns ∧ its.toArray = intItems zs :=
  let ⟨zs, ez⟩ := ii.allInts.items
  ⟨zs, ez ▸ ii.numsOf, ez⟩
theorem num_mem {zs : Array (Int × Tok)} {j : Nat} (hj : j < zs.size) : numAt zs j ∈ zs.toList.map (·.1) :=
  numAt_eq zs j ▸ PySem.getD_mem (by simpa using hj)
theorem mem_num {zs : Array (Int × Tok)} {a : Int} (ha : a ∈ zs.toList.map (·.1)) : ∃ j, j < zs.size ∧ numAt zs j = a :=
  let ⟨j, lt, e⟩ := mem_getD ha
  ⟨j, by simpa using lt, (numAt_eq zs j).trans e⟩
theorem sum_tup (hh : A.handled = none) (hl : s.heap.IsTuple l its.toArray) (ii : IntsAre its ns) {Q : Value → Shared → Prop}
    (kk : ∀ hp' tk t', (∀ b o, s.heap.get? b = some o → hp'.get? b = some o) → Q (.int ns.sum t') { s with heap := hp', toks := tk }) : wpAny (model prog w) A (call (.builtin "sum") [.ref l]) Q E s := by
  obtain ⟨zs, en, ez⟩ := ints_of ii
  rw [nums_intItems] at en
  rw [ez] at hl
  refine call_sum_walkG (iter_tupA hl fun s₂ ez st hfp hlI => ?_)
  subst ez
  refine ⟨_, _, _, _, _, _, numAt zs, rfl, Walks.tuple (A := A.in1) hh _ l hlI (intItems zs), st, hfp, (fun _ _ => intItems_at), fun hp' tk t' hk => ?_⟩
  have := kk hp' tk t' (tup_kept hk)
  rw [← en] at this
  rw [show (intItems zs).size = zs.size by simp [intItems], preSum_eq, List.take_of_length_le (by simp)]
  exact this
theorem max_tup (hh : A.handled = none) (hl : s.heap.IsTuple l its.toArray) (ii : IntsAre its ns) (hne : 0 < ns.length) {Q : Value → Shared → Prop}
    (kk : ∀ hp' tk m t', (∀ b o, s.heap.get? b = some o → hp'.get? b = some o) → m ∈ ns → (∀ a, a ∈ ns → a ≤ m) → Q (.int m t') { s with heap := hp', toks := tk }) : wpAny (model prog w) A (call (.builtin "max") [.ref l]) Q E s := by
  obtain ⟨zs, en, ez⟩ := ints_of ii
  rw [nums_intItems] at en
  subst en
  rw [ez] at hl
  have hpos : zs.size > 0 := by simpa using hne
  refine call_max_walk (iter_tupA hl fun s₂ ez st hfp hlI => ?_)
  subst ez
  refine ⟨_, _, _, _, _, _, _, rfl, Walks.tuple (A := A.in1) hh _ l hlI (intItems zs), st, hfp, by simpa [intItems] using hpos, CmpOf.ints_gt (numAt zs) (fun _ _ => intItems_at), fun v hp' tk hP hk => ?_⟩
  have atv : (intItems zs)[argBest (fun i j => decide (numAt zs i > numAt zs j)) (zs.size - 1)]? = some v := by simpa [intItems] using hP
  obtain ⟨t, rfl⟩ := intItems_at atv
  have ⟨g1, g2⟩ := argBest_gt (numAt zs) (zs.size - 1)
  refine kk hp' tk _ t (tup_kept hk) ?_ fun a ha => ?_
  · exact num_mem (by omega)
  · obtain ⟨j, jl, rfl⟩ := mem_num ha
    exact g2 j (by omega)
theorem min_tup (hh : A.handled = none) (hl : s.heap.IsTuple l its.toArray) (ii : IntsAre its ns) (hne : 0 < ns.length) {Q : Value → Shared → Prop}
    (kk : ∀ hp' tk m t', (∀ b o, s.heap.get? b = some o → hp'.get? b = some o) → m ∈ ns → (∀ a, a ∈ ns → m ≤ a) → Q (.int m t') { s with heap := hp', toks := tk }) : wpAny (model prog w) A (call (.builtin "min") [.ref l]) Q E s := by
  obtain ⟨zs, en, ez⟩ := ints_of ii
  rw [nums_intItems] at en
  subst en
  rw [ez] at hl
  have hpos : zs.size > 0 := by simpa using hne
  refine call_min_walk (iter_tupA hl fun s₂ ez st hfp hlI => ?_)
  subst ez
  refine ⟨_, _, _, _, _, _, _, rfl, Walks.tuple (A := A.in1) hh _ l hlI (intItems zs), st, hfp, by simpa [intItems] using hpos, CmpOf.ints_lt (numAt zs) (fun _ _ => intItems_at), fun v hp' tk hP hk => ?_⟩
  have atv : (intItems zs)[argBest (fun i j => decide (numAt zs i < numAt zs j)) (zs.size - 1)]? = some v := by simpa [intItems] using hP
  obtain ⟨t, rfl⟩ := intItems_at atv
  have ⟨g1, g2⟩ := argBest_lt (numAt zs) (zs.size - 1)
  refine kk hp' tk _ t (tup_kept hk) ?_ fun a ha => ?_
  · exact num_mem (by omega)
  · obtain ⟨j, jl, rfl⟩ := mem_num ha
    exact g2 j (by omega)
end
section
variable {X : Cx} {M : Nm} {K : PySem.W.Frag}
abbrev rSumA (K : PySem.W.Frag) : List V → Hp → VK → Prop := fun vs H Q => ∃ (a : Addr) (ns : List Int), vs = [V.ref a] ∧ (SqL K H a (ns.map V.int) ∨ SqT K H a (ns.map V.int)) ∧ Q (.int ns.sum) H
abbrev rMaxA (K : PySem.W.Frag) : List V → Hp → VK → Prop := fun vs H Q => ∃ (a : Addr) (ns : List Int), vs = [V.ref a] ∧ (SqL K H a (ns.map V.int) ∨ SqT K H a (ns.map V.int)) ∧ 0 < ns.length ∧ ∀ m, m ∈ ns → (∀ y, y ∈ ns → y ≤ m) → Q (.int m) H
abbrev rMinA (K : PySem.W.Frag) : List V → Hp → VK → Prop := fun vs H Q => ∃ (a : Addr) (ns : List Int), vs = [V.ref a] ∧ (SqL K H a (ns.map V.int) ∨ SqT K H a (ns.map V.int)) ∧ 0 < ns.length ∧ ∀ m, m ∈ ns → (∀ y, y ∈ ns → m ≤ y) → Q (.int m) H
theorem cr_sumA (hc : X.calm = true) : CallR X (.builtin "sum") (rSumA X.K) := by
  intro pins s σ H vs us Q I r h
  obtain ⟨a, ns, rfl, hq, q⟩ := h
  have e := r.ref1
  subst e
  rcases hq with hq | hq
  · exact cr_sum hc pins s σ H _ _ Q I r ⟨a, ns, rfl, hq, q⟩
  · obtain ⟨its, rv, p, hz⟩ := I.tuple hq
    exact sum_tup (I.ok.hd hc) p rv.ints fun h' tk t' k => ⟨.int _, H, I.kept k, ⟨_, rfl⟩, q⟩
theorem cr_maxA (hc : X.calm = true) : CallR X (.builtin "max") (rMaxA X.K) := by
  intro pins s σ H vs us Q I r h
  obtain ⟨a, ns, rfl, hq, hl, q⟩ := h
  have e := r.ref1
  subst e
  rcases hq with hq | hq
  · exact cr_max hc pins s σ H _ _ Q I r ⟨a, ns, rfl, hq, hl, q⟩
  · obtain ⟨its, rv, p, hz⟩ := I.tuple hq
    exact max_tup (I.ok.hd hc) p rv.ints hl fun h' tk m t' k h1 h2 => ⟨.int _, H, I.kept k, ⟨_, rfl⟩, q m h1 h2⟩
theorem cr_minA (hc : X.calm = true) : CallR X (.builtin "min") (rMinA X.K) := by
  intro pins s σ H vs us Q I r h
  obtain ⟨a, ns, rfl, hq, hl, q⟩ := h
  have e := r.ref1
  subst e
  rcases hq with hq | hq
  · exact cr_min hc pins s σ H _ _ Q I r ⟨a, ns, rfl, hq, hl, q⟩
  · obtain ⟨its, rv, p, hz⟩ := I.tuple hq
    exact min_tup (I.ok.hd hc) p rv.ints hl fun h' tk m t' k h1 h2 => ⟨.int _, H, I.kept k, ⟨_, rfl⟩, q m h1 h2⟩
/-! ### by data -/
def B1OK (M : Nm) (f : Store → Sq → Option Sq) (r : List V → Hp → VK → Prop) : Prop :=
  ∀ (H : Hp) (S2 : Store) (ρ2 : List Addr) (H2 : Hp) (x : V) (p w : Sq) (Q : VK), Good M S2 ρ2 H2 → (∀ a, H2 a = none → H a = none) → SqR M H S2 ρ2 H2 x p → f S2 p = some w →
    (∀ ρ' H', Nx S2 ρ2 H2 S2 ρ' H' → Good M S2 ρ' H' → KE M H Q w S2 ρ' H') → r [x] H2 Q
theorem ok_abs : B1OK M (b1D .abs) (fun xs H Q => ∃ i, xs = [.int i] ∧ Q (.int (if i < 0 then -i else i)) H) := by
  intro H S2 ρ2 H2 x p w Q g nb hx e k
  simp only [b1D] at e
  split at e
  · cases e
    cases hx with
    | val hx =>
      cases hx
      exact ⟨_, rfl, k _ _ Nx.refl g _ (.val (.int _))⟩
  · cases e
theorem ok_int_ : B1OK M (b1D .int_) (fun xs H Q => (∃ i, xs = [.int i] ∧ Q (.int i) H) ∨ ∃ k, xs = [.bl k] ∧ Q (.int (if k then 1 else 0)) H) := by
  intro H S2 ρ2 H2 x p w Q g nb hx e k
  simp only [b1D] at e
  split at e
  · cases e
    cases hx with
    | val hx =>
      cases hx
      exact .inl ⟨_, rfl, k _ _ Nx.refl g _ (.val (.int _))⟩
  · cases e
    cases hx with
    | val hx =>
      cases hx
      exact .inr ⟨_, rfl, k _ _ Nx.refl g _ (.val (.int _))⟩
  · cases e
theorem ok_str_ : B1OK M (b1D .str_) (fun xs H Q => ∃ i, xs = [.int i] ∧ i.natAbs.log2 < 1920 ∧ Q (.str (toString i)) H) := by
  intro H S2 ρ2 H2 x p w Q g nb hx e k
  simp only [b1D] at e
  split at e
  · split at e
    · rename_i hz
      cases e
      cases hx with
      | val hx =>
        cases hx
        exact ⟨_, rfl, hz, k _ _ Nx.refl g _ (.val (.str _))⟩
    · cases e
  · cases e
theorem ok_len : B1OK M (b1D .len) (fun xs H Q => ∃ x n, xs = [x] ∧ LenV K x H n ∧ Q (.int n) H) := by
  intro H S2 ρ2 H2 x p w Q g nb hx e k
  simp only [b1D] at e
  split at e
  · split at e
    · rename_i hz
      cases e
      cases hx with
      | val hx =>
        cases hx
        exact ⟨_, _, rfl, ⟨hz, rfl⟩, k _ _ Nx.refl g _ (.val (.int _))⟩
    · cases e
  · obtain ⟨xs, e1, rfl⟩ := Option.map_eq_some_iff.mp e
    obtain ⟨a, vs, rfl, hq, z, r⟩ := seq_rep (K := K) g hx e1
    refine ⟨_, vs.length, rfl, ?_, by rw [r.length]; exact k _ _ Nx.refl g _ (.val (.int _))⟩
    rcases hq with hq | ⟨hq, _⟩
    · exact .inl ⟨_, hq, rfl⟩
    · exact .inr ⟨_, hq, rfl⟩
theorem seqI_rep {H0 : Hp} {S : Store} {ρ : List Addr} {H : Hp} {x : V} {p : Sq} {ns : List Int} (g : Good M S ρ H) (r : SqR M H0 S ρ H x p) (h : (seqOf S p).bind intsOf = some ns) :
    ∃ a, x = .ref a ∧ (SqL K H a (ns.map V.int) ∨ SqT K H a (ns.map V.int)) := by
  obtain ⟨xs, e1, e2⟩ := Option.bind_eq_some_iff.mp h
  obtain ⟨a, vs, rfl, hq, z, r⟩ := seq_rep (K := K) g r e1
  have e := ints_rep r e2
  subst e
  refine ⟨a, rfl, ?_⟩
  rcases hq with hq | ⟨hq, _⟩
  · exact .inl hq
  · exact .inr hq
theorem ok_sum : B1OK M (b1D .sum) (rSumA K) := by
  intro H S2 ρ2 H2 x p w Q g nb hx e k
  simp only [b1D] at e
  obtain ⟨ns, e1, rfl⟩ := Option.map_eq_some_iff.mp e
  obtain ⟨a, rfl, hq⟩ := seqI_rep (K := K) g hx e1
  exact ⟨a, ns, rfl, hq, k _ _ Nx.refl g _ (.val (.int _))⟩
theorem foldMax : ∀ (xs : List Int) (x : Int), (xs.foldl (fun m y => if y > m then y else m) x) ∈ x :: xs ∧ ∀ y ∈ x :: xs, y ≤ xs.foldl (fun m y => if y > m then y else m) x
  | [], x => ⟨by simp, fun y hy => by rw [show y = x by simpa using hy]; exact Int.le_refl _⟩
  | z :: xs, x => by
    obtain ⟨h1, h2⟩ := foldMax xs (if z > x then z else x)
    rw [List.foldl_cons]
    refine ⟨?_, fun y hy => ?_⟩
    · rcases List.mem_cons.mp h1 with e | e
      · rw [e]
        by_cases hz : z > x
        · rw [if_pos hz]; simp
        · rw [if_neg hz]; simp
      · exact List.mem_cons_of_mem _ (List.mem_cons_of_mem _ e)
    · have h0 := h2 _ List.mem_cons_self
      rcases List.mem_cons.mp hy with e | hy
      · subst e
        by_cases hz : z > y
        · rw [if_pos hz] at h0 ⊢; omega
        · rw [if_neg hz] at h0 ⊢; exact h0
      · rcases List.mem_cons.mp hy with e | hy
        · subst e
          by_cases hz : y > x
          · rw [if_pos hz] at h0 ⊢; exact h0
          · rw [if_neg hz] at h0 ⊢; omega
        · exact h2 y (List.mem_cons_of_mem _ hy)
theorem foldMin : ∀ (xs : List Int) (x : Int), (xs.foldl (fun m y => if y < m then y else m) x) ∈ x :: xs ∧ ∀ y ∈ x :: xs, xs.foldl (fun m y => if y < m then y else m) x ≤ y
  | [], x => ⟨by simp, fun y hy => by rw [show y = x by simpa using hy]; exact Int.le_refl _⟩
  | z :: xs, x => by
    obtain ⟨h1, h2⟩ := foldMin xs (if z < x then z else x)
    rw [List.foldl_cons]
    refine ⟨?_, fun y hy => ?_⟩
    · rcases List.mem_cons.mp h1 with e | e
      · rw [e]
        by_cases hz : z < x
        · rw [if_pos hz]; simp
        · rw [if_neg hz]; simp
      · exact List.mem_cons_of_mem _ (List.mem_cons_of_mem _ e)
    · have h0 := h2 _ List.mem_cons_self
      rcases List.mem_cons.mp hy with e | hy
      · subst e
        by_cases hz : z < y
        · rw [if_pos hz] at h0 ⊢; omega
        · rw [if_neg hz] at h0 ⊢; exact h0
      · rcases List.mem_cons.mp hy with e | hy
        · subst e
          by_cases hz : y < x
          · rw [if_pos hz] at h0 ⊢; exact h0
          · rw [if_neg hz] at h0 ⊢; omega
        · exact h2 y (List.mem_cons_of_mem _ hy)
theorem maxL_spec {ns : List Int} {m : Int} (h : maxL ns = some m) : m ∈ ns ∧ ∀ y ∈ ns, y ≤ m := by
  cases ns with
  | nil => cases h
  | cons x xs => cases h; exact foldMax xs x
theorem minL_spec {ns : List Int} {m : Int} (h : minL ns = some m) : m ∈ ns ∧ ∀ y ∈ ns, m ≤ y := by
  cases ns with
  | nil => cases h
  | cons x xs => cases h; exact foldMin xs x
theorem mxI_rep {H0 : Hp} {S : Store} {ρ : List Addr} {H : Hp} {x : V} {p : Sq} {ns : List Int} (g : Good M S ρ H) (r : SqR M H0 S ρ H x p) (h : (mxOf S p).bind intsOf = some ns) :
    ∃ a, x = .ref a ∧ (SqL K H a (ns.map V.int) ∨ SqT K H a (ns.map V.int)) := by
  by_cases c : ∃ xs, p = .val (.tupI xs)
  · obtain ⟨xs, rfl⟩ := c
    have e2 : intsOf xs = some ns := h
    cases r with
    | val r =>
      cases r with
      | tupI h1 hc hz r =>
        have e := ints_rep r e2
        subst e
        exact ⟨_, rfl, .inr (.inl (.inr ⟨_, h1⟩))⟩
  · have e : mxOf S p = seqOf S p := by
      unfold mxOf
      split
      · exact absurd ⟨_, rfl⟩ c
      · rfl
    rw [e] at h
    exact seqI_rep g r h
theorem ok_max : B1OK M (b1D .max) (rMaxA K) := by
  intro H S2 ρ2 H2 x p w Q g nb hx e k
  simp only [b1D] at e
  obtain ⟨m, e0, rfl⟩ := Option.map_eq_some_iff.mp e
  obtain ⟨ns, e1, e2⟩ := Option.bind_eq_some_iff.mp e0
  obtain ⟨a, rfl, hq⟩ := mxI_rep (K := K) g hx e1
  obtain ⟨h1, h2⟩ := maxL_spec e2
  refine ⟨a, ns, rfl, hq, List.length_pos_of_mem h1, fun m' a1 a2 => ?_⟩
  have : m' = m := Int.le_antisymm (h2 _ a1) (a2 _ h1)
  subst this
  exact k _ _ Nx.refl g _ (.val (.int _))
theorem ok_min : B1OK M (b1D .min) (rMinA K) := by
  intro H S2 ρ2 H2 x p w Q g nb hx e k
  simp only [b1D] at e
  obtain ⟨m, e0, rfl⟩ := Option.map_eq_some_iff.mp e
  obtain ⟨ns, e1, e2⟩ := Option.bind_eq_some_iff.mp e0
  obtain ⟨a, rfl, hq⟩ := seqI_rep (K := K) g hx e1
  obtain ⟨h1, h2⟩ := minL_spec e2
  refine ⟨a, ns, rfl, hq, List.length_pos_of_mem h1, fun m' a1 a2 => ?_⟩
  have : m' = m := Int.le_antisymm (a2 _ h1) (h2 _ a1)
  subst this
  exact k _ _ Nx.refl g _ (.val (.int _))
theorem ok_all : B1OK M (b1D .all_) (rAll K) := by
  intro H S2 ρ2 H2 x p w Q g nb hx e k
  simp only [b1D] at e
  obtain ⟨bs, e0, rfl⟩ := Option.map_eq_some_iff.mp e
  obtain ⟨xs, e1, e2⟩ := Option.bind_eq_some_iff.mp e0
  obtain ⟨a, vs, rfl, hq, z, r⟩ := lst_rep (K := K) g hx e1
  have e3 := bls_rep r e2
  subst e3
  exact ⟨a, bs, rfl, hq, k _ _ Nx.refl g _ (.val (.bl _))⟩
theorem ok_any : B1OK M (b1D .any_) (rAny K) := by
  intro H S2 ρ2 H2 x p w Q g nb hx e k
  simp only [b1D] at e
  obtain ⟨bs, e0, rfl⟩ := Option.map_eq_some_iff.mp e
  obtain ⟨xs, e1, e2⟩ := Option.bind_eq_some_iff.mp e0
  obtain ⟨a, vs, rfl, hq, z, r⟩ := lst_rep (K := K) g hx e1
  have e3 := bls_rep r e2
  subst e3
  exact ⟨a, bs, rfl, hq, k _ _ Nx.refl g _ (.val (.bl _))⟩
theorem cr_tupleA : CallR X (.type "tuple") (fun xs H Q => ∃ x, xs = [x] ∧ kTup X.K x H Q) := by
  intro pins s σ H xs us Q I r h
  obtain ⟨x, rfl, q⟩ := h
  obtain ⟨u, rfl, rx⟩ := vals1 r
  exact rl_tuple pins s σ H x u Q I rx q
theorem ok_tuple : B1OK M (b1D .tuple_) (fun xs H Q => ∃ x, xs = [x] ∧ kTup K x H Q) := by
  intro H S2 ρ2 H2 x p w Q g nb hx e k
  simp only [b1D] at e
  obtain ⟨xs, e1, rfl⟩ := Option.map_eq_some_iff.mp e
  obtain ⟨a, vs, rfl, hq, z, r⟩ := seq_rep (K := K) g hx e1
  refine ⟨_, rfl, ?_⟩
  rcases hq with hq | ⟨hq, ht⟩
  · exact .inl ⟨_, _, rfl, hq, fun q hq' => k _ _ (Nx.alloc g hq') (g.alloc hq') _ (.val (VR.newTup g hq' z r))⟩
  · exact .inr ⟨_, _, rfl, hq, k _ _ Nx.refl g _ (.val (.tup ht z r))⟩
theorem ok_list : B1OK M (b1D .list_) (fun xs H Q => ∃ p ys, xs = [.ref p] ∧ (SqL K H p ys ∨ SqT K H p ys) ∧ ∀ l, H l = none → Q (.ref l) (upd H l (.lst ys))) := by
  intro H S2 ρ2 H2 x p w Q g nb hx e k
  simp only [b1D] at e
  obtain ⟨xs, e1, rfl⟩ := Option.map_eq_some_iff.mp e
  obtain ⟨a, vs, rfl, hq, z, r⟩ := seq_rep (K := K) g hx e1
  refine ⟨_, _, rfl, ?_, fun q hq' => k _ _ (Nx.alloc g hq') (g.alloc hq') _ (SqR.newLst g hq' (nb q hq') z r)⟩
  rcases hq with hq | ⟨hq, _⟩
  · exact .inl hq
  · exact .inr hq

theorem vrs_ints {S : Store} {ρ : List Addr} {H : Hp} : ∀ ns : List Int, VRs M S ρ H (ns.map V.int) (ns.map D.int)
  | [] => .nil
  | n :: ns => .cons (.int n) (vrs_ints ns)
theorem tups_rep {S : Store} {ρ : List Addr} {H : Hp} : ∀ {vs : List V} {ds : List D} {ts : List (List Int)}, VRs M S ρ H vs ds → ds.mapM tupInts = some ts →
    (∀ x ∈ vs, ∃ (t : Addr) (ns : List Int), x = V.ref t ∧ H t = some (.tup (ns.map V.int))) ∧ vs.map (readI H) = ts ∧ ∀ x ∈ vs, VR M S ρ H x (.tup ((readI H x).map D.int))
  | _, _, ts, .nil, e => by
    cases e
    exact ⟨fun _ h => (List.not_mem_nil h).elim, rfl, fun _ h => (List.not_mem_nil h).elim⟩
  | v :: vs, d :: ds, ts, .cons h r, e => by
    simp only [List.mapM_cons, Option.bind_eq_bind, Option.pure_def] at e
    obtain ⟨t0, e1, e⟩ := Option.bind_eq_some_iff.mp e
    obtain ⟨tr, e2, e3⟩ := Option.bind_eq_some_iff.mp e
    cases e3
    obtain ⟨i1, i2, i3⟩ := tups_rep r e2
    cases h with
    | @tup a ws es h hz q =>
      have e4 : intsOf es = some t0 := e1
      have e5 := ints_rep q e4
      subst e5
      have e6 : readI H (V.ref a) = t0 := readI_at h
      refine ⟨fun x hx => ?_, ?_, fun x hx => ?_⟩
      · rcases List.mem_cons.mp hx with rfl | hx
        · exact ⟨a, t0, rfl, h⟩
        · exact i1 x hx
      · rw [List.map_cons, e6, i2]
      · rcases List.mem_cons.mp hx with rfl | hx
        · rw [e6]
          exact .tup h hz (vrs_ints t0)
        · exact i3 x hx
    | _ => cases e1
theorem vrs_read {S : Store} {ρ : List Addr} {H : Hp} : ∀ {vs : List V}, (∀ x ∈ vs, VR M S ρ H x (.tup ((readI H x).map D.int))) → VRs M S ρ H vs (vs.map fun x => .tup ((readI H x).map D.int))
  | [], _ => .nil
  | v :: vs, h => .cons (h v List.mem_cons_self) (vrs_read fun x hx => h x (List.mem_cons_of_mem _ hx))
theorem ok_sorted : B1OK M (b1D .sorted_) (rSort K false) := by
  intro H S2 ρ2 H2 x p w Q g nb hx e k
  simp only [b1D] at e
  obtain ⟨ys, e0, rfl⟩ := Option.map_eq_some_iff.mp e
  obtain ⟨xs, e1, e2⟩ := Option.bind_eq_some_iff.mp e0
  obtain ⟨a, vs, rfl, hq, z, r⟩ := seq_rep (K := K) g hx e1
  have hq' : SqL K H2 a vs ∨ SqT K H2 a vs := by
    rcases hq with hq | ⟨hq, _⟩
    · exact .inl hq
    · exact .inr hq
  refine ⟨a, vs, rfl, hq', ?_⟩
  unfold sortD at e2
  split at e2
  · rename_i ns en
    cases e2
    have e3 := ints_rep r en
    subst e3
    refine .inl ⟨ns, rfl, fun ns' p hp ho hn => ?_⟩
    have e4 := ord_uniq ho hp
    have hl : ns'.length = ns.length := hp.length_eq
    subst e4
    exact k _ _ (Nx.alloc g hn) (g.alloc hn) _ (SqR.newLst g hn (nb p hn) (by rw [List.length_map, hl]; rw [List.length_map] at z; exact z) (vrs_ints _))
  · obtain ⟨ts, et, e3⟩ := Option.bind_eq_some_iff.mp e2
    split at e3
    · rename_i hne
      cases e3
      obtain ⟨i1, i2, i3⟩ := tups_rep r et
      refine .inr ⟨rfl, i1, fun h2 x hx => ?_, fun ys p hp ho hn => ?_⟩
      · rcases Bool.or_eq_true_iff.mp hne with h | h
        · have := of_decide_eq_true h
          rw [← i2, List.length_map] at this
          omega
        · have hm : readI H2 x ∈ ts := by rw [← i2]; exact List.mem_map.mpr ⟨x, hx, rfl⟩
          have := List.all_eq_true.mp h _ hm
          intro e
          rw [e] at this
          cases this
      · have e4 := lex_uniq ho (hp.map (readI H2))
        rw [i2] at e4
        have i4 : ∀ x ∈ ys, VR M S2 ρ2 H2 x (.tup ((readI H2 x).map D.int)) := fun x hx => i3 x (hp.mem_iff.mp hx)
        have e5 : (ts.mergeSort lexLe).map (fun t => D.tup (t.map D.int)) = ys.map fun x => .tup ((readI H2 x).map D.int) := by
          rw [← e4, List.map_map] <;> rfl
        rw [e5] at k
        exact k _ _ (Nx.alloc g hn) (g.alloc hn) _ (SqR.newLst g hn (nb p hn) (by rw [hp.length_eq]; exact z) (vrs_read i4))
    · cases e3
theorem ok_sortedR : B1OK M (b1D .sortedRev) (rSort K true) := by
  intro H S2 ρ2 H2 x p w Q g nb hx e k
  simp only [b1D] at e
  obtain ⟨ns, e0, rfl⟩ := Option.map_eq_some_iff.mp e
  obtain ⟨xs, e1, en⟩ := Option.bind_eq_some_iff.mp e0
  obtain ⟨a, vs, rfl, hq, z, r⟩ := seq_rep (K := K) g hx e1
  have hq' : SqL K H2 a vs ∨ SqT K H2 a vs := by
    rcases hq with hq | ⟨hq, _⟩
    · exact .inl hq
    · exact .inr hq
  refine ⟨a, vs, rfl, hq', ?_⟩
  have e3 := ints_rep r en
  subst e3
  refine .inl ⟨ns, rfl, fun ns' p hp ho hn => ?_⟩
  have e4 := ord_uniqR ho hp
  have hl : ns'.length = ns.length := hp.length_eq
  subst e4
  exact k _ _ (Nx.alloc g hn) (g.alloc hn) _ (SqR.newLst g hn (nb p hn) (by rw [List.length_map, hl]; rw [List.length_map] at z; exact z) (vrs_ints _))

/-- a tuple of a list, with what is known of the object -/
def kTupI (K : PySem.W.Frag) (x : V) (H : Hp) (Q : VK) : Prop := ∃ p xs, x = .ref p ∧ SqL K H p xs ∧ ∀ (q : Addr) (o : Obj), H q = none → (o.cls = .type "tuple" ∧ o.dict = none) → Q (.ref q) (upd H q (.frz o (.tup xs)))
theorem cr_tupleI : CallR X (.type "tuple") (fun xs H Q => ∃ x, xs = [x] ∧ kTupI X.K x H Q) := by
  intro pins s σ H xs us Q I r h
  obtain ⟨x, rfl, p, ys, rfl, hs, q⟩ := h
  obtain ⟨u, rfl, rx⟩ := vals1 r
  obtain rfl : u = .ref p := rx
  obtain ⟨its, rv, pl, hz⟩ := I.list hs
  refine call_tuple_list pl.isList (fun h' hk => ?_) (by rw [List.size_toArray, ← rv.length]; exact hz)
  have I1 : Inv X pins σ H { s with heap := h' } := I.kept (t' := s.toks) hk
  have I2 : Inv X pins σ (upd H h'.objs.size (.frz { cls := .type "tuple", data := .seq its.toArray } (.tup ys))) { s with heap := h'.push { cls := .type "tuple", data := .seq its.toArray } } :=
    I1.laid (t' := s.toks) (fun b o e => Heap.get?_push_of_some _ e) (Nat.le_refl _) (show ObjOk X.prog X.w _ _ _ (.frz _ (.tup ys)) from ⟨Heap.get?_push_size _ rfl, hz, its, rv, IsTup.new _ _⟩)
  exact ⟨.ref h'.objs.size, _, I2, rfl, q _ _ (I1.hok.fresh (Nat.le_refl _)) ⟨rfl, rfl⟩⟩
theorem ok_tupleI : B1OK M (b1D .tupleI) (fun xs H Q => ∃ x, xs = [x] ∧ kTupI K x H Q) := by
  intro H S2 ρ2 H2 x p w Q g nb hx e k
  simp only [b1D] at e
  obtain ⟨xs, e1, rfl⟩ := Option.map_eq_some_iff.mp e
  obtain ⟨a, vs, rfl, hq, z, r⟩ := lst_rep (K := K) g hx e1
  exact ⟨_, rfl, _, _, rfl, hq, fun q o hq' ho => k _ _ (Nx.alloc g hq') (g.alloc hq') _ (.val (.tupI upd_same ho z (r.alloc g hq')))⟩
def b1Name : B1 → Str
  | .abs => "abs" | .int_ => "int" | .str_ => "str" | .len => "len" | .sum => "sum" | .max => "max" | .min => "min" | .all_ => "all" | .any_ => "any" | .tuple_ => "tuple" | .tupleI => "tuple" | .list_ => "list" | .sorted_ => "sorted" | .sortedRev => "sorted"
def b1Val : B1 → Value
  | .abs => .builtin "abs" | .int_ => .type "int" | .str_ => .type "str" | .len => .builtin "len" | .sum => .builtin "sum" | .max => .builtin "max" | .min => .builtin "min" | .all_ => .builtin "all" | .any_ => .builtin "any" | .tuple_ => .type "tuple" | .tupleI => .type "tuple" | .list_ => .type "list" | .sorted_ => .builtin "sorted" | .sortedRev => .builtin "sorted"
def b1Plain : B1 → Bool
  | .sortedRev => false | _ => true
def isRev : B1 → Bool
  | .sortedRev => true | _ => false
theorem b1_rule (hc : X.calm = true) (b : B1) (h : b1Plain b = true) : ∃ r, CallR X (b1Val b) r ∧ B1OK M (b1D b) r := by
  cases b with
  | abs => exact ⟨_, call_abs, ok_abs⟩
  | int_ => exact ⟨_, call_int1, ok_int_⟩
  | str_ => exact ⟨_, call_str_int, ok_str_⟩
  | len => exact ⟨_, call_len, ok_len⟩
  | sum => exact ⟨_, cr_sumA hc, ok_sum⟩
  | max => exact ⟨_, cr_maxA hc, ok_max⟩
  | min => exact ⟨_, cr_minA hc, ok_min⟩
  | all_ => exact ⟨_, cr_all hc, ok_all⟩
  | any_ => exact ⟨_, cr_any hc, ok_any⟩
  | tuple_ => exact ⟨_, cr_tupleA, ok_tuple⟩
  | tupleI => exact ⟨_, cr_tupleI, ok_tupleI⟩
  | list_ => exact ⟨_, call_list_of, ok_list⟩
  | sorted_ => exact ⟨_, cr_sort, ok_sorted⟩
  | sortedRev => cases h
theorem b1_boot (b : B1) : bootBuiltins (b1Name b) = some (b1Val b) := by
  cases b <;> decide +kernel
end
section
variable {X : Cx} {M : Nm} {G : Gx} {a b : Expr} {pos p : Pos} {ma mb : Env → Store → Res Sq}
theorem se_b1 {b : B1} (hc : X.calm = true) (h : b1Plain b = true) (hg : Gl X (b1Name b)) (hm : X.mg (b1Name b) = none) (hs : starB a = false) (ha : SE X M G a ma) :
    SE X M G (.Call (.Name (b1Name b) p) [a] [] pos) (fun σ S => (ma σ S).bind fun q S1 => lift (b1D b S1 q) S1) := by
  obtain ⟨r, h1, h2⟩ := b1_rule (X := X) (M := M) hc b h
  have key : ∀ σ H Q, (∃ E S ρ σd, XT X E ∧ Good M S ρ H ∧ ER M S ρ H σ σd ∧ PostG M G E S ρ H ((ma σd S).bind fun q S1 => lift (b1D b S1 q) S1) (KE M H Q)) → tCB r (tCons (tEv X M G ma) tNil) σ H Q := by
    rintro σ H Q ⟨E, S, ρ, σd, xt, gd, er, h⟩
    refine one xt gd er h fun p x S2 ρ2 H2 n2 g2 hx h2' => ?_
    obtain ⟨w, e, h3⟩ := h2'.lift_
    exact h2 H S2 ρ2 H2 x p w Q g2 (fun a z => n2.none_back gd g2 z) hx e h3
  have hn : b1Name b ≠ "__name__" := by cases b <;> decide
  have hd : (b1Name b == ("__debug__" : Str)) = false := by cases b <;> decide
  have hv := b1_boot b
  have hpa : PA X [a] (tCons (tEv X M G ma) tNil) := pa_cons ha pa_nil (star_no hs)
  refine ⟨fun pins s σ H Q I h => ?_⟩
  cases b with
  | abs => exact (pe_callB (p := p) (pos := pos) h1 hg hm hv hpa hn hd (star_no hs)).run pins s σ H Q I (key σ H Q h)
  | int_ => exact (pe_callTy (p := p) (pos := pos) h1 hg hm hv hpa hn hd (star_no hs)).run pins s σ H Q I (key σ H Q h)
  | str_ => exact (pe_callTy (p := p) (pos := pos) h1 hg hm hv hpa hn hd (star_no hs)).run pins s σ H Q I (key σ H Q h)
  | len => exact (pe_callB (p := p) (pos := pos) h1 hg hm hv hpa hn hd (star_no hs)).run pins s σ H Q I (key σ H Q h)
  | sum => exact (pe_callB (p := p) (pos := pos) h1 hg hm hv hpa hn hd (star_no hs)).run pins s σ H Q I (key σ H Q h)
  | max => exact (pe_callB (p := p) (pos := pos) h1 hg hm hv hpa hn hd (star_no hs)).run pins s σ H Q I (key σ H Q h)
  | min => exact (pe_callB (p := p) (pos := pos) h1 hg hm hv hpa hn hd (star_no hs)).run pins s σ H Q I (key σ H Q h)
  | all_ => exact (pe_callB (p := p) (pos := pos) h1 hg hm hv hpa hn hd (star_no hs)).run pins s σ H Q I (key σ H Q h)
  | any_ => exact (pe_callB (p := p) (pos := pos) h1 hg hm hv hpa hn hd (star_no hs)).run pins s σ H Q I (key σ H Q h)
  | tuple_ => exact (pe_callTy (p := p) (pos := pos) h1 hg hm hv hpa hn hd (star_no hs)).run pins s σ H Q I (key σ H Q h)
  | tupleI => exact (pe_callTy (p := p) (pos := pos) h1 hg hm hv hpa hn hd (star_no hs)).run pins s σ H Q I (key σ H Q h)
  | list_ => exact (pe_callTy (p := p) (pos := pos) h1 hg hm hv hpa hn hd (star_no hs)).run pins s σ H Q I (key σ H Q h)
  | sorted_ => exact (pe_callB (p := p) (pos := pos) h1 hg hm hv hpa hn hd (star_no hs)).run pins s σ H Q I (key σ H Q h)
  | sortedRev => cases ‹b1Plain B1.sortedRev = true›
/-- sorted(.., reverse=True) -/
theorem se_sortRev {j : Nat} {kpos tpos : Pos} (hg : Gl X "sorted") (hm : X.mg "sorted" = none) (hs : starB a = false) (ha : SE X M G a ma) :
    SE X M G (.Call (.Name "sorted" p) [a] [⟨some (Str.ofString "reverse"), .Constant (.bool true) j tpos, kpos⟩] pos) (fun σ S => (ma σ S).bind fun q S1 => lift (b1D .sortedRev S1 q) S1) := by
  have hpa : PA X [a] (tCons (tEv X M G ma) tNil) := pa_cons ha pa_nil (star_no hs)
  have hpk : PK X [⟨some (Str.ofString "reverse"), .Constant (.bool true) j tpos, kpos⟩] (tCons (tC (.bl true)) tNil) := pk_cons pe_bl pk_nil
  refine ⟨fun pins s σ H Q I h => (pe_callBK (p := p) (pos := pos) cr_sortR hg hm (by decide +kernel) hpa hpk (by decide) (by decide) (by rw [star_no hs] <;> rfl) (by rw [star_no hs] <;> rfl) rfl rfl rfl).run pins s σ H Q I ?_⟩
  obtain ⟨E, S, ρ, σd, xt, gd, er, h⟩ := h
  refine one xt gd er h fun p x S2 ρ2 H2 n2 g2 hx h2' => ?_
  obtain ⟨w, e, h3⟩ := h2'.lift_
  exact ⟨rfl, ok_sortedR H S2 ρ2 H2 x p w Q g2 (fun a z => n2.none_back gd g2 z) hx e h3⟩
end
end DI
end

section
set_option Elab.async false
set_option linter.all false
set_option maxRecDepth 100000
/-! DIRev: slices, also from the back. -/
namespace DI
open PySem PySem.Spec L2
open PyProof.Rows hiding St
section
variable {prog : Program} {w : World} {A : Around} {E : Value → Shared → Prop} {s : Shared}
theorem places_back (n : Nat) : Builtin.Slice.slicePlaces ((n : Int) - 1) (-1) (-1) = n := by
  unfold Builtin.Slice.slicePlaces
  have h1 : ¬ ((-1 : Int) > 0) := by decide
  have h2 : (- (-1) : Int) = 1 := by decide
  simp only [h1, if_false, h2, Int.ediv_one]
  split <;> omega
theorem fm_congr {α β : Type} {f g : α → Option β} : ∀ {l : List α}, (∀ x ∈ l, f x = g x) → l.filterMap f = l.filterMap g
  | [], _ => rfl
  | x :: l, h => by
    rw [List.filterMap_cons, List.filterMap_cons, h x List.mem_cons_self, fm_congr fun y hy => h y (List.mem_cons_of_mem _ hy)]
theorem pick_back (xs : Array Value) : ((List.range xs.size).filterMap fun (m : Nat) => xs[(((xs.size : Int) - 1) + (m : Int) * (-1)).toNat]?).toArray = xs.toList.reverse.toArray := by
  rw [← PySem.W.krv_pick]
  unfold slicePick
  rw [PySem.W.krv_bounds]
  show _ = ((sliceRange ((xs.size : Int) - 1) (-1) (-1)).filterMap (xs[·]?)).toArray
  rw [PySem.W.krv_sliceRange, List.filterMap_map]
  congr 1
  refine fm_congr fun m hm => ?_
  have hm := List.mem_range.mp hm
  have : (((xs.size : Int) - 1) + (m : Int) * (-1)).toNat = xs.size - 1 - m := by omega
  rw [this]; rfl
theorem sliceApplied_back {sl : Addr} {vl vu vk : Value} {n : Nat} {Q : Int × Int × Nat → Shared → Prop} (hs : s.heap.IsSliceOf sl vl vu vk) (pl : IsPart vl none) (pu : IsPart vu none) (pk : IsPart vk (some (-1)))
    (h : Q ((n : Int) - 1, -1, n) s) : wpAny (model prog w) A (Builtin.Slice.sliceApplied (.ref sl) (pure (n : Int))) Q E s := by
  obtain ⟨os, hos, hcs, hds⟩ := id hs
  unfold Builtin.Slice.sliceApplied Builtin.Slice.sliceFields
  refine wpAny_bind (wpAny_bind (wpAny_field hos hds (x := vl) rfl (wpAny_bind (wpAny_field hos hds (x := vu) rfl (wpAny_bind (wpAny_field hos hds (x := vk) rfl (wpAny_pure ?_)))))))
  refine wpAny_bind (HT.slicePart_ pk ?_)
  show wpAny _ _ (if ((-1 : Int) == 0) = true then _ else _) _ _ s
  rw [if_neg (by decide)]
  refine wpAny_bind (HT.slicePart_ pl (wpAny_bind (HT.slicePart_ pu (wpAny_bind (wpAny_pure ?_)))))
  show wpAny _ _ (pure ((n : Int) - 1, (-1 : Int), Builtin.Slice.slicePlaces ((n : Int) - 1) (-1) (-1))) _ _ s
  rw [places_back]
  exact wpAny_pure h
theorem getItem_tup_back {t sl : Addr} {items : Array Value} {vl vu vk : Value} {Q : Value → Shared → Prop} (ht : IsTup s.heap t items) (hs : s.heap.IsSliceOf sl vl vu vk) (pl : IsPart vl none) (pu : IsPart vu none) (pk : IsPart vk (some (-1)))
    (h : Q (.ref s.heap.objs.size) { s with heap := s.heap.push { cls := .type "tuple", data := .seq items.toList.reverse.toArray } }) (hsz : items.size ≤ sizeLine) : wpAny (model prog w) A (getItem (.ref t) (.ref sl)) Q E s := by
  have htake : sizeOk (.seq items.toList.reverse.toArray) := by
    show items.toList.reverse.toArray.size ≤ sizeLine
    rw [List.size_toArray, List.length_reverse, Array.length_toList]
    exact hsz
  obtain ⟨os, hos, hcs, hds⟩ := id hs
  have hTs : s.TypeIs (.ref sl) "slice" := ⟨os, hos, hcs⟩
  unfold getItem
  try with_reducible refine wpAny_holding ?_
  first | refine wpAny_bind (wpAny_pure ?_) | skip
  refine wpAny_bind (wpAny_sequenceKey ht.typeIs (by decide) ?_)
  refine wpAny_bind (wpAny_callSpecial?_slot (name := Str.ofString "__getitem__") ht.typeIs PyProof.Rows.slot_tuple_getitem
    (wpAny_call_entry PyProof.Rows.slot_tuple_getitem ht.typeIs entry_tuple_getitem ?_ (args_tuple_getitem _ _)))
  show wpAny _ _ (Builtin.Tuple.tupleItemsOf (.ref t) >>= _) _ _ s
  refine wpAny_bind (tupleItemsOf_ ht ?_)
  refine wpAny_bind (wpAny_typeOf hTs ?_)
  rw [if_pos (by decide)]
  refine wpAny_bind (sliceApplied_back hs pl pu pk ?_)
  have hno : ¬ ((((items.size : Int) - 1) == 0 && (-1 : Int) == 1 && items.size == items.size) = true) := by
    intro q
    rw [Bool.and_eq_true, Bool.and_eq_true] at q
    exact absurd q.1.2 (by decide)
  show wpAny _ _ (if (((items.size : Int) - 1) == 0 && (-1 : Int) == 1 && items.size == items.size) = true then _ else _) _ _ s
  rw [if_neg hno, pick_back]
  first
    | exact wpAny_bind (m := Builtin.Tuple.tupleExact _) (wpAny_newObj_type (wpAny_pure ⟨_, rfl, wpAny_pure h⟩) htake)
    | exact wpAny_bind (m := Builtin.Tuple.tupleExact _) (wpAny_newObj_type (wpAny_bind (wpAny_pure (wpAny_pure ⟨_, rfl, wpAny_pure h⟩))) htake)
    | exact wpAny_bind (wpAny_bind (m := Builtin.Tuple.tupleExact _) (wpAny_newObj_type (wpAny_pure (wpAny_pure ⟨_, rfl, wpAny_pure h⟩)) htake))
    | exact wpAny_bind (wpAny_bind (m := Builtin.Tuple.tupleExact _) (wpAny_newObj_type (wpAny_pure ⟨_, rfl, wpAny_pure h⟩) htake))
end
section
variable {X : Cx} {M : Nm} {G : Gx} {a : Expr} {pos p2 p3 p4 : Pos} {ma mb mc : Env → Store → Res Sq} {l h : Expr}
/-- a[::-1], by values -/
def tRevQ (K : PySem.W.Frag) (te : TE) : TE := fun σ H Q => te σ H fun x H1 => ∃ a xs, x = .ref a ∧ ((SqL K H1 a xs ∧ ∀ p, H1 p = none → Q (.ref p) (upd H1 p (.lst xs.reverse))) ∨ (SqT K H1 a xs ∧ ∀ p, H1 p = none → Q (.ref p) (upd H1 p (.tup xs.reverse))))
theorem Vals.rev : ∀ {xs : List V} {us : List Value}, Vals xs us → Vals xs.reverse us.reverse
  | _, _, .nil => .nil
  | _, _, .cons r t => by
    rw [List.reverse_cons, List.reverse_cons]
    exact (Vals.rev t).append (.cons r .nil)
theorem pe_revQ {j : Nat} {te : TE} (he : PE X a te) : PE X (.Subscript a (.Slice none none (some (.UnaryOp .USub (.Constant (.int 1) j p3) p4)) p2) pos) (tRevQ X.K te) := by
  refine ⟨fun pins s σ H Q I h => ?_⟩
  refine Subscript_ (thn (he.run pins s σ H _ I h) fun v s1 ⟨x, H1, I1, r1, q1⟩ => ?_)
  refine wpAny_Slice ?_
  rw [evalPart_none]
  refine wpAny_pure (wpAny_pure ?_)
  rw [evalPart_some]
  have hneg : PE X (.UnaryOp .USub (.Constant (.int 1) j p3) p4) (tUn (rU fun i => .int (-i)) (tC (.int 1))) := pe_un un_neg pe_int
  refine thn (hneg.run pins s1 σ H1 (fun v H2 => v = .int (-1) ∧ H2 = H1) I1 ⟨1, rfl, rfl, rfl⟩) fun vk s2 ⟨k, H2, I2, rk, ek, eH⟩ => ?_
  subst ek eH
  obtain ⟨tk, rfl⟩ := rk
  have I4 : Inv X pins σ H2 { s2 with heap := s2.heap.push { cls := .type "slice", data := .fields #[.none, .none, .int (-1) tk] } } := I2.kept (t' := s2.toks) fun b ob q => Heap.get?_push_of_some _ q
  obtain ⟨b, xs, rfl, q⟩ := q1
  cases r1
  rcases q with ⟨hx, q⟩ | ⟨hx, q⟩
  · obtain ⟨its, r, ht, hz⟩ := I4.list hx
    have hlen := r.length
    have g : wpAny (model X.prog X.w) X.A (getItem (.ref b) (.ref s2.heap.objs.size)) (EP X pins σ Q) X.xe { s2 with heap := s2.heap.push { cls := .type "slice", data := .fields #[.none, .none, .int (-1) tk] } } := by
      refine wpAny_getItem_list_slice ht.isList (Heap.IsSliceOf.new ..) .none .none (.int (-1) tk) (by decide) ?_ (by rw [List.size_toArray]; omega)
      rw [PySem.W.krv_pick]
      refine ⟨.ref _, _, I4.laid (t' := s2.toks) (o := .lst xs.reverse) (fun b ob q => Heap.get?_push_of_some _ q) (Nat.le_refl _) ?_, rfl, q _ (I4.hok.fresh (Nat.le_refl _))⟩
      exact ⟨by rw [List.length_reverse]; exact hz, its.reverse, 0, Vals.rev r, Heap.get?_push_size _ rfl⟩
    exact tail_any ht.isList.typeIs slot_list_getitem.lookup g (by with_unfolding_all rfl)
  · obtain ⟨its, r, ht, hz⟩ := I4.tuple hx
    have hlen := r.length
    have g : wpAny (model X.prog X.w) X.A (getItem (.ref b) (.ref s2.heap.objs.size)) (EP X pins σ Q) X.xe { s2 with heap := s2.heap.push { cls := .type "slice", data := .fields #[.none, .none, .int (-1) tk] } } := by
      refine getItem_tup_back ht (Heap.IsSliceOf.new ..) .none .none (.int (-1) tk) ?_ (by rw [List.size_toArray]; omega)
      refine ⟨.ref _, _, I4.laid (t' := s2.toks) (o := .tup xs.reverse) (fun b ob q => Heap.get?_push_of_some _ q) (Nat.le_refl _) ?_, rfl, q _ (I4.hok.fresh (Nat.le_refl _))⟩
      exact ⟨by rw [List.length_reverse]; exact hz, its.reverse, Vals.rev r, ⟨_, Heap.get?_push_size _ rfl, rfl, 0, rfl⟩⟩
    exact tail_any ht.typeIs slot_tuple_getitem.lookup g (by with_unfolding_all rfl)
theorem se_rev {j : Nat} (ha : SE X M G a ma) : SE X M G (.Subscript a (.Slice none none (some (.UnaryOp .USub (.Constant (.int 1) j p3) p4)) p2) pos) (fun σ S => (ma σ S).bind fun p S1 => lift (revD S1 p) S1) := by
  refine ⟨fun pins s σ H Q I h => (pe_revQ (pos := pos) ha).run pins s σ H Q I ?_⟩
  obtain ⟨E, S, ρ, σd, xt, gd, er, h⟩ := h
  refine one xt gd er h fun p x S2 ρ2 H2 n2 g2 hx h2 => ?_
  obtain ⟨w, e, h3⟩ := h2.lift_
  unfold revD at e
  split at e
  · cases e
    cases hx with
    | val hx => cases hx with
      | tup e1 z r =>
        refine ⟨_, _, rfl, .inr ⟨SqT.of e1, fun p hp => ?_⟩⟩
        exact h3 _ _ (Nx.alloc g2 hp) (g2.alloc hp) _ (.val (VR.newTup g2 hp (by rw [List.length_reverse]; exact z) r.reverse))
  · obtain ⟨xs, e1, rfl⟩ := Option.map_eq_some_iff.mp e
    obtain ⟨a, vs, rfl, hq, z, r⟩ := lst_rep (K := X.K) g2 hx e1
    refine ⟨_, _, rfl, .inl ⟨hq, fun p hp => ?_⟩⟩
    exact h3 _ _ (Nx.alloc g2 hp) (g2.alloc hp) _ (SqR.newLst g2 hp (n2.none_back gd g2 hp) (by rw [List.length_reverse]; exact z) r.reverse)
/-! ### plain slices -/
abbrev rSl3 (K : PySem.W.Frag) : V → Option Int → Option Int → Hp → VK → Prop := fun x lo hi H Q => (rSlA K x lo hi H Q ∨ rSlL K x lo hi H Q) ∨ rSlS x lo hi H Q
theorem sl3 : SlR X (rSl3 X.K) := (sl_tupA.or sl_list).or sl_str
theorem cut_rep {S : Store} {ρ : List Addr} {H : Hp} {vs : List V} {ds : List D} (r : VRs M S ρ H vs ds) (lo hi : Option Int) : VRs M S ρ H (cutV vs lo hi) (cut ds lo hi) := by
  unfold cutV cut
  rw [r.length]
  exact (r.drop _).take _
theorem cut_all {vs : List V} {ds : List D} {lo hi : Option Int} (h : HT.sIx ds.length 0 lo = 0 ∧ HT.sIx ds.length ds.length hi = ds.length) : cut ds lo hi = ds := by
  unfold cut
  dsimp only
  rw [h.1, h.2]
  simp
theorem sl_core {H : Hp} {S2 : Store} {ρ2 : List Addr} {H2 : Hp} {E : XK} {x : V} {p w : Sq} {Q : VK} {lo hi : Option Int} (g2 : Good M S2 ρ2 H2) (nb : ∀ a, H2 a = none → H a = none) (hx : SqR M H S2 ρ2 H2 x p) (e : cutD S2 p lo hi = some w)
    (k : PostG M G E S2 ρ2 H2 (.ok w S2) (KE M H Q)) : rSl3 X.K x lo hi H2 Q := by
  unfold cutD at e
  split at e
  · split at e
    · rename_i hz
      cases e
      cases hx with
      | val hx =>
        cases hx
        refine .inr ⟨_, rfl, hz, ?_⟩
        exact k _ _ Nx.refl g2 _ (.val (.str _))
    · cases e
  · cases e
    cases hx with
    | val hx => cases hx with
      | tup e1 z r =>
        refine .inl (.inl ⟨_, _, rfl, SqT.of e1, fun hw => ?_, fun _ p hp => ?_⟩)
        · rw [r.length] at hw
          rw [cut_all (vs := []) hw] at k
          exact k _ _ Nx.refl g2 _ (.val (.tup e1 z r))
        · exact k _ _ (Nx.alloc g2 hp) (g2.alloc hp) _ (.val (VR.newTup g2 hp (Nat.le_trans (cutV_length _ lo hi) z) (cut_rep r lo hi)))
  · obtain ⟨xs, e1, rfl⟩ := Option.map_eq_some_iff.mp e
    obtain ⟨a, vs, rfl, hq, z, r⟩ := lst_rep (K := X.K) g2 hx e1
    refine .inl (.inr ⟨_, _, rfl, hq, fun p hp => ?_⟩)
    exact k _ _ (Nx.alloc g2 hp) (g2.alloc hp) _ (SqR.newLst g2 hp (nb p hp) (Nat.le_trans (cutV_length _ lo hi) z) (cut_rep r lo hi))
theorem se_slc0 (ha : SE X M G a ma) : SE X M G (.Subscript a (.Slice none none none p2) pos) (fun σ S => (ma σ S).bind fun p S1 => lift (cutD S1 p none none) S1) := by
  refine ⟨fun pins s σ H Q I h => (pe_slice (pos := pos) sl3 ha po_none po_none).run pins s σ H Q I ?_⟩
  obtain ⟨E, S, ρ, σd, xt, gd, er, h⟩ := h
  refine one xt gd er h fun p x S2 ρ2 H2 n2 g2 hx h2 => ?_
  obtain ⟨w, e, h3⟩ := h2.lift_
  exact sl_core g2 (fun a z => n2.none_back gd g2 z) hx e h3
theorem se_slcH (ha : SE X M G a ma) (hb : SE X M G h mb) : SE X M G (.Subscript a (.Slice none (some h) none p2) pos) (fun σ S => (ma σ S).bind fun p S1 => (mb σ S1).bind fun q S2 => match q with
    | .val (.int k) => lift (cutD S2 p none (some k)) S2
    | _ => .bad) := by
  refine ⟨fun pins s σ H Q I h => (pe_slice (pos := pos) sl3 ha po_none (po_some hb)).run pins s σ H Q I ?_⟩
  obtain ⟨E, S, ρ, σd, xt, gd, er, h⟩ := h
  refine two xt gd er h fun p q x y S2 ρ2 H2 n2 g2 hx hy h2 => ?_
  split at h2
  · cases hy with
    | val hy =>
      cases hy
      obtain ⟨w, e, h3⟩ := h2.lift_
      exact ⟨_, rfl, sl_core g2 (fun a z => n2.none_back gd g2 z) hx e h3⟩
  · exact h2.elim
theorem se_slcL (ha : SE X M G a ma) (hb : SE X M G l mb) : SE X M G (.Subscript a (.Slice (some l) none none p2) pos) (fun σ S => (ma σ S).bind fun p S1 => (mb σ S1).bind fun q S2 => match q with
    | .val (.int k) => lift (cutD S2 p (some k) none) S2
    | _ => .bad) := by
  refine ⟨fun pins s σ H Q I h => (pe_slice (pos := pos) sl3 ha (po_some hb) po_none).run pins s σ H Q I ?_⟩
  obtain ⟨E, S, ρ, σd, xt, gd, er, h⟩ := h
  refine two xt gd er h fun p q x y S2 ρ2 H2 n2 g2 hx hy h2 => ?_
  split at h2
  · cases hy with
    | val hy =>
      cases hy
      obtain ⟨w, e, h3⟩ := h2.lift_
      exact ⟨_, rfl, sl_core g2 (fun a z => n2.none_back gd g2 z) hx e h3⟩
  · exact h2.elim
theorem se_slcB (ha : SE X M G a ma) (hb : SE X M G l mb) (hc : SE X M G h mc) : SE X M G (.Subscript a (.Slice (some l) (some h) none p2) pos) (fun σ S => (ma σ S).bind fun p S1 => (mb σ S1).bind fun q S2 => match q with
    | .val (.int k) => (mc σ S2).bind fun r S3 => match r with
      | .val (.int m) => lift (cutD S3 p (some k) (some m)) S3
      | _ => .bad
    | _ => .bad) := by
  refine ⟨fun pins s σ H Q I h => (pe_slice (pos := pos) sl3 ha (po_some hb) (po_some hc)).run pins s σ H Q I ?_⟩
  obtain ⟨E, S, ρ, σd, xt, gd, er, h⟩ := h
  refine ⟨E, S, ρ, σd, xt, gd, er, (PostG.bind gd h).imp fun p S1 ρ1 H1 e1 n1 g1 h1 x hx => ?_⟩
  refine ⟨E, S1, ρ1, σd, xt, g1, er.nx n1 gd, (PostG.bind g1 h1).imp fun q S2 ρ2 H2 e2 n2 g2 h2 y hy => ?_⟩
  have n12 := n1.trans gd g1 n2
  split at h2
  · rename_i k
    cases hy with
    | val hy =>
      cases hy
      refine ⟨_, rfl, E, S2, ρ2, σd, xt, g2, (er.nx n1 gd).nx n2 g1, (PostG.bind g2 h2).imp fun r S3 ρ3 H3 e3 n3 g3 h4 z hz => ?_⟩
      split at h4
      · cases hz with
        | val hz =>
          cases hz
          obtain ⟨w, e, h5⟩ := h4.lift_
          exact ⟨_, rfl, sl_core g3 (fun a z => (n12.trans gd g2 n3).none_back gd g3 z) ((hx.nx n2 g1).nx n3 g2) e h5⟩
      · exact h4.elim
  · exact h2.elim
end
end DI
end

section
set_option Elab.async false
set_option linter.all false
set_option maxRecDepth 100000
/-! DICall: attributes, calls, methods, making of instances. -/
namespace DI
open PySem PySem.Spec L2
open PyProof.Rows hiding St

/-- where a program runs -/
structure Uv where
  P : Program
  w : World
  K : PySem.W.Frag
  mg : Str → Option Value
  base : Heap
structure Inn (U : Uv) (X : Cx) : Prop where
  prog : X.prog = U.P
  w : X.w = U.w
  K : X.K = U.K
  mg : X.mg = U.mg
  base : X.base = U.base

/-- what is asked of the classes and their attributes -/
structure ClsF (U : Uv) (M : Nm) (G : Gx) : Prop where
  fld : ∀ c f, (G.flds c).contains f = true → f < M.n ∧ Cls U.K (M.ca c) ∧ NoAttr U.K (M.ca c) (M.an f)
  inj : ∀ i j, i < M.n → j < M.n → M.an i = M.an j → i = j

section
variable {M : Nm} {G : Gx} {S : Store} {ρ : List Addr} {H : Hp}
theorem fs_rep {v : V} {d : D} {c : Nat} {ds : List (Nat × D)} (g : Good M S ρ H) (r : VR M S ρ H v d) (e : fsD S d = some (c, ds)) :
    ∃ a dx fs, v = .ref a ∧ H a = some (.ins (M.ca c) dx fs) ∧ FRs M S ρ H fs ds := by
  cases r with
  | loc h =>
    rename_i a n
    simp only [fsD] at e
    split at e
    · rename_i c' fs' hc
      cases e
      have hr := g.cells n _ a hc h
      cases hr with
      | ins h1 r1 => exact ⟨_, _, _, rfl, h1, r1⟩
    · cases e
  | obj h hl r =>
    simp only [fsD] at e
    cases e
    exact ⟨_, _, _, rfl, h, r⟩
  | _ => simp [fsD] at e
theorem cls_fs {c : Nat} {d : D} (h : clsD S d = some c) : ∃ ds, fsD S d = some (c, ds) := by
  cases d with
  | obj c' fs => simp only [clsD] at h; cases h; exact ⟨_, rfl⟩
  | loc n =>
    simp only [clsD] at h
    split at h
    · rename_i c' fs hq
      cases h
      exact ⟨fs, by simp only [fsD]; rw [hq]⟩
    · cases h
  | _ => cases h
theorem frs_lookup (inj : ∀ i j, i < M.n → j < M.n → M.an i = M.an j → i = j) {f : Nat} {d : D} (hf : f < M.n) : ∀ {fs : List (Str × V)} {ds : List (Nat × D)}, FRs M S ρ H fs ds → ds.lookup f = some d → ∃ v, fs.lookup (M.an f) = some v ∧ VR M S ρ H v d
  | _, _, .nil, e => by simp at e
  | _, _, .cons (k := k) hk h r, e => by
    by_cases q : f = k
    · subst q
      simp at e
      subst e
      exact ⟨_, by simp, h⟩
    · have hne : M.an f ≠ M.an k := fun z => q (inj f k hf hk z)
      have b1 : (f == k) = false := by simpa using q
      have b2 : (M.an f == M.an k) = false := by simpa using hne
      rw [List.lookup_cons, b1] at e
      obtain ⟨v, e1, e2⟩ := frs_lookup inj hf r e
      exact ⟨v, by rw [List.lookup_cons, b2]; exact e1, e2⟩
/-- a name that is no attribute's -/
theorem frs_none {m : Str} (hm : ∀ i, i < M.n → M.an i ≠ m) : ∀ {fs : List (Str × V)} {ds : List (Nat × D)}, FRs M S ρ H fs ds → fs.lookup m = none
  | _, _, .nil => rfl
  | _, _, .cons (k := k) hk h r => by
    have b2 : (m == M.an k) = false := by simpa using fun z => hm k hk z.symm
    rw [List.lookup_cons, b2]
    exact frs_none hm r
theorem frs_length : ∀ {fs : List (Str × V)} {ds : List (Nat × D)}, FRs M S ρ H fs ds → fs.length = ds.length
  | _, _, .nil => rfl
  | _, _, .cons _ _ r => by simp [frs_length r]
theorem frs_put (inj : ∀ i j, i < M.n → j < M.n → M.an i = M.an j → i = j) {f : Nat} {d : D} {v : V} (hf : f < M.n) (hv : VR M S ρ H v d) : ∀ {fs : List (Str × V)} {ds : List (Nat × D)}, FRs M S ρ H fs ds → FRs M S ρ H (putF (M.an f) v fs) (putA f d ds)
  | _, _, .nil => .cons hf hv .nil
  | _, _, .cons (k := k) hk h r => by
    by_cases q : k = f
    · subst q
      simp only [putF, putA, if_true]
      exact .cons hk hv r
    · have hne : ¬ M.an k = M.an f := fun z => q (inj k f hk hf z)
      simp only [putF, putA, if_neg q, if_neg hne]
      exact .cons hk h (frs_put inj hf hv r)
end
section
variable {U : Uv} {X : Cx} {M : Nm} {G : Gx} {e : Expr} {pos : Pos} {cal : Nat → List D → Store → Res D}
theorem se_attr {a : CE} {f : Nat} {x : Str} (iu : Inn U X) (cf : ClsF U M G) (he : SE X M G e (ev G cal a)) (hx : M.an f = x) (hb : attributeBase e x X.env (eval e X.env) = eval e X.env) : SE X M G (.Attribute e x pos) (ev G cal (.attr a f)) := by
  subst hx
  refine ⟨fun pins s σ H Q I h => (pe_fld he hb).run pins s σ H Q I ?_⟩
  obtain ⟨E, S, ρ, σd, xt, gd, er, h⟩ := h
  unfold ev at h
  refine one xt gd er h fun p x S2 ρ2 H2 n2 g2 hx h2 => ?_
  cases hx with
  | fresh _ _ _ _ _ => exact h2.elim
  | val hx =>
    rename_i d
    obtain ⟨w, e1, h3⟩ := h2.bind g2 |>.lift_
    simp only [attrD] at e1
    obtain ⟨⟨c, ds⟩, e2, e3⟩ := Option.bind_eq_some_iff.mp e1
    split at e3
    · rename_i hc
      obtain ⟨h4, h5, h6⟩ := cf.fld c f hc
      obtain ⟨b, dx, fs, rfl, hb2, fr⟩ := fs_rep g2 hx e2
      obtain ⟨v, l, rv⟩ := frs_lookup cf.inj h4 fr e3
      rw [← iu.K] at h5 h6
      exact ⟨b, _, dx, fs, v, rfl, hb2, h5, h6, l, (h3.here g2).here g2 v (.val rv)⟩
    · cases e3
/-! ### calls -/
def spF (M : Nm) (G : Gx) (np : Nat) (m : List D → Store → Res D) : Sp := fun vs H Q E => ∃ S ρ ds, Good M S ρ H ∧ VRs M S ρ H vs ds ∧ ds.length = np ∧ PostG M G E S ρ H (m ds S) fun d S' ρ' H' => ∀ v, VR M S' ρ' H' v d → Q v H'
/-- all calls so deep are held -/
structure CallsOk (U : Uv) (M : Nm) (G : Gx) (P : Nat → Option CDef) (fa : Nat → Addr) (cal : Nat → List D → Store → Res D) (k : Nat) : Prop where
  ok : ∀ f cd, P f = some cd → ∃ fd ps, FnOk U.P U.w U.K U.mg U.base (CX U.P U.w) k (fa f) fd ps (spF M G cd.np (cal f)) ∧ Binds U.K fd ps []
  np : ∀ f ds S, cal f ds S ≠ .bad → ∃ cd, P f = some cd ∧ ds.length = cd.np
  pos : 1 ≤ k
variable {P : Nat → Option CDef} {fa : Nat → Addr} {k : Nat} {es : List Expr} {p : Pos}
theorem Inn.fn (iu : Inn U X) {CX : CXT} {f : Addr} {fd : FuncData} {ps : List Str} {sp : Sp} (F : FnOk U.P U.w U.K U.mg U.base CX k f fd ps sp) : FnOk X.prog X.w X.K X.mg X.base CX k f fd ps sp := by
  rw [iu.prog, iu.w, iu.K, iu.mg, iu.base]; exact F
theorem Inn.bi (iu : Inn U X) {fd : FuncData} {ps : List Str} {ds : List Value} (h : Binds U.K fd ps ds) : Binds X.K fd ps ds := by
  rw [iu.K]; exact h
theorem passes_e (iu : Inn U X) {E : XK} (xt : XT X E) : Passes (CX U.P U.w) X E := by
  rw [← iu.prog, ← iu.w]
  exact passes_call xt fun _ _ _ _ h => h
theorem PostG.ne_bad {α : Type} {E : XK} {S : Store} {ρ : List Addr} {H : Hp} {r : Res α} {K : α → Store → List Addr → Hp → Prop} (h : PostG M G E S ρ H r K) : r ≠ .bad := by
  rintro rfl; exact h
def isStar : Expr → Bool
  | .Starred _ _ => true
  | _ => false
theorem no_star {e : Expr} {es : List Expr} {env : PySem.Env} (h : isStar e = false) : starEach (e :: es) env = (false, eval e env) :: starEach es env := by
  cases e <;> first | rfl | cases h
def plainEs (es : List Expr) : Bool := es.all fun e => !isStar e
theorem plainEs_cons {e : Expr} {es : List Expr} (h : plainEs (e :: es) = true) : isStar e = false ∧ plainEs es = true := by
  simpa [plainEs] using h
theorem plainEs_any {env : PySem.Env} : ∀ {es : List Expr}, plainEs es = true → (backTo p (starEach es env)).any (·.1) = false
  | [], _ => rfl
  | e :: es, h => by
    obtain ⟨h1, h2⟩ := plainEs_cons h
    rw [no_star h1]
    show (false || (backTo p (starEach es env)).any (·.1)) = false
    rw [plainEs_any h2]; rfl
theorem plainEs_all {env : PySem.Env} : ∀ {es : List Expr}, plainEs es = true → (backTo p (starEach es env)).all (!·.1) = true
  | [], _ => rfl
  | e :: es, h => by
    obtain ⟨h1, h2⟩ := plainEs_cons h
    rw [no_star h1]
    show (!false && (backTo p (starEach es env)).all (!·.1)) = true
    rw [plainEs_all h2]; rfl
/-- the arguments, then something -/
theorem args {ma : Env → Store → Res (List D)} {g : List D → Store → Res Sq} {E : XK} {S : Store} {ρ : List Addr} {H : Hp} {σ : St} {σd : Env} {Q : VK} {R : List V → Hp → Prop}
    (xt : XT X E) (gd : Good M S ρ H) (er : ER M S ρ H σ σd) (h : PostG M G E S ρ H ((ma σd S).bind fun ds S1 => g ds S1) (KE M H Q))
    (k : ∀ ds vs S2 ρ2 H2, Nx S ρ H S2 ρ2 H2 → Good M S2 ρ2 H2 → VRs M S2 ρ2 H2 vs ds → PostG M G E S2 ρ2 H2 (g ds S2) (KE M H Q) → R vs H2) :
    tAv X M G ma σ H R :=
  ⟨E, S, ρ, σd, xt, gd, er, (PostG.bind gd h).imp fun ds S1 ρ1 H1 e1 n1 g1 h1 vs hv => k ds vs S1 ρ1 H1 n1 g1 hv h1⟩
/-- .. and a call -/
theorem call_post {m : List D → Store → Res D} {np : Nat} {E : XK} {S2 : Store} {ρ2 : List Addr} {H H2 : Hp} {Q : VK} {ds : List D} {vs : List V} (g2 : Good M S2 ρ2 H2) (hv : VRs M S2 ρ2 H2 vs ds) (hl : ds.length = np)
    (h : PostG M G E S2 ρ2 H2 ((m ds S2).bind fun r S3 => .ok (.val r) S3) (KE M H Q)) : spF M G np m vs H2 Q E :=
  ⟨S2, ρ2, ds, g2, hv, hl, (PostG.bind g2 h).imp fun d S3 ρ3 H3 e3 n3 g3 h3 v rv => h3.here g3 v (.val rv)⟩
theorem se_call {e : Expr} {cs : CEs} {f : Nat} {x : Str} {cd : CDef} (iu : Inn U X) (co : CallsOk U M G P fa cal k) (hf : P f = some cd) (hr : Room k X.A) (ha : SA X M G (e :: es) (evs G cal cs)) (hg : Gl X x) (hm : U.mg x = some (.ref (fa f)))
    (hk : PySem.W.keepIn U.K (.ref (fa f)) = true) (hp : plainEs (e :: es) = true) (hdb : (x == ("__debug__" : Str)) = false) : SE X M G (.Call (.Name x p) (e :: es) [] pos) (ev G cal (.call f cs)) := by
  rw [← iu.mg] at hm
  rw [← iu.K] at hk
  refine ⟨fun pins s σ H Q I h => ?_⟩
  obtain ⟨E, S, ρ, σd, xt, gd, er, h⟩ := h
  unfold ev at h
  obtain ⟨fd, ps, F, B⟩ := co.ok f cd hf
  obtain ⟨h1, h2⟩ := plainEs_cons hp
  refine (pe_call (iu.fn F) hr hg hm hk (iu.bi B) .nil (passes_e iu xt) ha hdb (no_star h1) (plainEs_any h2)).run pins s σ H Q I ?_
  refine args xt gd er h fun ds vs S2 ρ2 H2 n2 g2 hv h2 => ?_
  rw [List.append_nil]
  obtain ⟨cd', e1, e2⟩ := co.np f ds S2 (PostG.bind g2 h2).ne_bad
  rw [hf] at e1
  cases e1
  exact call_post g2 hv e2 h2
theorem se_call0 {f : Nat} {x : Str} {cd : CDef} (iu : Inn U X) (co : CallsOk U M G P fa cal k) (hf : P f = some cd) (hr : Room k X.A) (hg : Gl X x) (hm : U.mg x = some (.ref (fa f)))
    (hk : PySem.W.keepIn U.K (.ref (fa f)) = true) (hdb : (x == ("__debug__" : Str)) = false) : SE X M G (.Call (.Name x p) [] [] pos) (ev G cal (.call f .nil)) := by
  rw [← iu.mg] at hm
  rw [← iu.K] at hk
  refine ⟨fun pins s σ H Q I h => ?_⟩
  obtain ⟨E, S, ρ, σd, xt, gd, er, h⟩ := h
  unfold ev at h
  obtain ⟨fd, ps, F, B⟩ := co.ok f cd hf
  refine (pe_call0 (iu.fn F) hr hg hm hk (iu.bi B) .nil (passes_e iu xt) hdb).run pins s σ H Q I ?_
  unfold evs at h
  have h2 : PostG M G E S ρ H ((cal f [] S).bind fun r S2 => .ok (.val r) S2) (KE M H Q) := h
  obtain ⟨cd', e1, e2⟩ := co.np f [] S (PostG.bind gd h2).ne_bad
  rw [hf] at e1
  cases e1
  exact call_post gd .nil e2 h2
/-! ### instances made -/
theorem mk_post {c f : Nat} {imm : Bool} {np : Nat} {E : XK} {S : Store} {ρ : List Addr} {H H0 : Hp} {Q : VK} {ds : List D} {vs : List V} {x dx : Addr} (gd : Good M S ρ H) (hv : VRs M S ρ H vs ds) (hl : (D.loc S.length :: ds).length = np) (hx : H x = none) (hd : H dx = none) (hne : dx ≠ x)
    (h : PostG M G E S ρ H ((cal f (.loc S.length :: ds) (S ++ [.ins c []])).bind fun r S2 => match r, S2[S.length]? with
      | .non, some (.ins k fs) => if imm = true then .ok (.val (.obj k fs)) (S2.set S.length .dead) else .ok (.val (.loc S.length)) S2
      | _, _ => .bad) (KE M H0 Q)) :
    spF M G np (cal f) (.ref x :: vs) (upd (upd H dx (.own x)) x (.ins (M.ca c) dx [])) (fun v H2 => v = .non ∧ Q (.ref x) H2) E := by
  have g1 : Good M S ρ (upd H dx (.own x)) := gd.alloc hd
  have hx1 : upd H dx (.own x) x = none := by rw [upd_ne fun z => hne z.symm]; exact hx
  have g2 : Good M (S ++ [.ins c []]) (ρ ++ [x]) (upd (upd H dx (.own x)) x (.ins (M.ca c) dx [])) := g1.new hx1 (.ins upd_same .nil)
  have n1 : Nx S ρ H S ρ (upd H dx (.own x)) := Nx.alloc gd hd
  have n2 : Nx S ρ H (S ++ [.ins c []]) (ρ ++ [x]) (upd (upd H dx (.own x)) x (.ins (M.ca c) dx [])) := n1.trans gd g1 (Nx.new hx1 g1)
  have hat : (ρ ++ [x])[S.length]? = some x := by rw [List.getElem?_append_right (by rw [gd.len]; exact Nat.le_refl _), gd.len]; simp
  refine ⟨_, _, _, g2, .cons (.loc hat) ((hv.alloc gd hd).new hx1 g1), hl, (PostG.bind g2 (PostG.later gd g2 n2 h)).imp fun d S3 ρ3 H3 e3 n3 g3 h3 v rv => ?_⟩
  split at h3
  · rename_i k fs hc
    cases rv
    refine ⟨rfl, ?_⟩
    have hr := n3.at hat
    have hcell := g3.cells _ _ _ hc hr
    cases hcell with
    | ins h4 r4 =>
      split at h3
      · exact h3 _ _ Nx.fin (g3.fin hr h4) _ (.val (.obj h4 (g3.gone hr) r4.fin))
      · exact h3.here g3 _ (.val (.loc hr))
  · exact h3.elim
theorem se_mk {e : Expr} {cs : CEs} {c f : Nat} {imm : Bool} {x : Str} {cd : CDef} (iu : Inn U X) (co : CallsOk U M G P fa cal k) (hf : P f = some cd) (hr : Room (k + 1) X.A) (ha : SA X M G (e :: es) (evs G cal cs)) (hg : Gl X x) (hm : U.mg x = some (.ref (M.ca c)))
    (hk : Mk U.K (M.ca c) (fa f)) (hp : plainEs (e :: es) = true) (hdb : (x == ("__debug__" : Str)) = false) : SE X M G (.Call (.Name x p) (e :: es) [] pos) (ev G cal (.mk c f imm cs)) := by
  rw [← iu.mg] at hm
  rw [← iu.K] at hk
  refine ⟨fun pins s σ H Q I h => ?_⟩
  obtain ⟨E, S, ρ, σd, xt, gd, er, h⟩ := h
  unfold ev at h
  obtain ⟨fd, ps, F, B⟩ := co.ok f cd hf
  obtain ⟨h1, h2⟩ := plainEs_cons hp
  refine (pe_make hk (iu.fn F) hr hg hm (iu.bi B) .nil (passes_e iu xt) ha hdb (no_star h1) (plainEs_any h2)).run pins s σ H Q I ?_
  refine args xt gd er h fun ds vs S2 ρ2 H2 n2 g2 hv h2 => ?_
  intro y dx hy hdx hne
  rw [List.append_nil]
  obtain ⟨cd', e1, e2⟩ := co.np f _ _ (PostG.bind g2 h2).ne_bad
  rw [hf] at e1
  cases e1
  exact mk_post g2 hv e2 hy hdx hne h2
theorem se_mk0 {c f : Nat} {imm : Bool} {x : Str} {cd : CDef} (iu : Inn U X) (co : CallsOk U M G P fa cal k) (hf : P f = some cd) (hr : Room (k + 1) X.A) (hg : Gl X x) (hm : U.mg x = some (.ref (M.ca c)))
    (hk : Mk U.K (M.ca c) (fa f)) (hdb : (x == ("__debug__" : Str)) = false) : SE X M G (.Call (.Name x p) [] [] pos) (ev G cal (.mk c f imm .nil)) := by
  rw [← iu.mg] at hm
  rw [← iu.K] at hk
  refine ⟨fun pins s σ H Q I h => ?_⟩
  obtain ⟨E, S, ρ, σd, xt, gd, er, h⟩ := h
  unfold ev at h
  obtain ⟨fd, ps, F, B⟩ := co.ok f cd hf
  refine (pe_make0 hk (iu.fn F) hr hg hm (iu.bi B) .nil (passes_e iu xt) hdb).run pins s σ H Q I ?_
  unfold evs at h
  intro y dx hy hdx hne
  obtain ⟨cd', e1, e2⟩ := co.np f _ _ (PostG.bind gd (f := fun ds S1 => (cal f (.loc S1.length :: ds) (S1 ++ [.ins c []])).bind _) h |>.here gd |> fun h => PostG.bind gd h).ne_bad
  rw [hf] at e1
  cases e1
  exact mk_post gd .nil e2 hy hdx hne h
/-! ### methods -/
def bareCall : Expr → Bool
  | .Call (.Name _ _) [] [] _ => true
  | _ => false
theorem base_of {o : Expr} {a : Str} {env : PySem.Env} {t : Sem Value} (h : bareCall o = false) : attributeBase o a env t = t := by
  unfold attributeBase
  split
  · cases h
  · rfl
theorem meth_tree {o : Expr} {m : Str} {apos : Pos} {env : PySem.Env} (h1 : bareCall o = false) (h2 : plainEs es = true) (h3 : es.length < 30) (h4 : (apos.endLine == pos.line) = true) :
    eval (.Call (.Attribute o m apos) es [] pos) env = (do
      let ov ← eval o env
      standAt apos.atName
      let (f, first) ← holding [ov] (getMethod ov m (do return (← importBound o env).getD true))
      callWith pos f first (backTo pos (starEach es env)) (backToKw pos (keywordEach [] env))) := by
  have few : methodCallForm (es.length + ([] : List Keyword).length) (backTo pos (starEach es env)) (backToKw pos (keywordEach [] env)) = true := by
    unfold methodCallForm
    rw [plainEs_all h2]
    have e : backToKw pos (keywordEach [] env) = [] := by simp [keywordEach, backToKw]
    rw [e]
    simp; omega
  show (do
    let ov ← attributeBase o m env (eval o env)
    standAt apos.atName
    methodCall o m apos pos env ov (es.length + ([] : List Keyword).length) (backTo pos (starEach es env)) (backToKw pos (keywordEach [] env))) = _
  rw [base_of h1]
  unfold methodCall
  rw [few]
  have hp : methodCallPos true o env apos pos = pure pos := by
    unfold methodCallPos
    rw [h4]; rfl
  rw [hp]
  unfold calleeOf
  simp
theorem se_meth {o e : Expr} {a : CE} {cs : CEs} {c f : Nat} {m : Str} {apos : Pos} {cd : CDef} (iu : Inn U X) (co : CallsOk U M G P fa cal k) (hf : P f = some cd) (hr : Room k X.A) (ho : SE X M G o (ev G cal a)) (ha : SA X M G (e :: es) (evs G cal cs)) (hc : Cls U.K (M.ca c)) (hm : Meth U.K (M.ca c) m (fa f))
    (hn : ∀ i, i < M.n → M.an i ≠ m) (hp : plainEs (e :: es) = true) (h1 : bareCall o = false) (h3 : (e :: es).length < 30) (h4 : (apos.endLine == pos.line) = true) : SE X M G (.Call (.Attribute o m apos) (e :: es) [] pos) (ev G cal (.meth a c f cs)) := by
  rw [← iu.K] at hc hm
  refine ⟨fun pins s σ H Q I h => ?_⟩
  obtain ⟨E, S, ρ, σd, xt, gd, er, h⟩ := h
  unfold ev at h
  obtain ⟨fd, ps, F, B⟩ := co.ok f cd hf
  obtain ⟨p1, p2⟩ := plainEs_cons hp
  refine (pe_meth ho hc hm (iu.fn F) hr (iu.bi B) .nil (passes_e iu xt) ha (no_star p1) (plainEs_any p2) (meth_tree h1 hp h3 h4)).run pins s σ H Q I ?_
  refine ⟨E, S, ρ, σd, xt, gd, er, (PostG.bind gd h).imp fun p S1 ρ1 H1 e1 n1 g1 h1 x hx => ?_⟩
  cases hx with
  | fresh _ _ _ _ _ => exact h1.elim
  | val hx =>
    rename_i d
    dsimp only at h1
    split at h1
    · rename_i hcl
      obtain ⟨fl, hfs⟩ := cls_fs hcl
      obtain ⟨b, dx, fs, rfl, hb, fr⟩ := fs_rep g1 hx hfs
      refine ⟨b, dx, fs, rfl, hb, frs_none hn fr, ?_⟩
      refine ⟨E, S1, ρ1, σd, xt, g1, er.nx n1 gd, (PostG.bind g1 h1).imp fun ds S2 ρ2 H2 e2 n2 g2 h2 vs hv => ?_⟩
      show spF M G cd.np (cal f) (V.ref b :: (vs ++ [])) H2 Q E
      rw [List.append_nil]
      obtain ⟨cd', e3, e4⟩ := co.np f _ S2 (PostG.bind g2 h2).ne_bad
      rw [hf] at e3
      cases e3
      exact call_post g2 (.cons (hx.nx n2 g1) hv) e4 h2
    · exact h1.elim
theorem se_meth0 {o : Expr} {a : CE} {c f : Nat} {m : Str} {apos : Pos} {cd : CDef} (iu : Inn U X) (co : CallsOk U M G P fa cal k) (hf : P f = some cd) (hr : Room k X.A) (ho : SE X M G o (ev G cal a)) (hc : Cls U.K (M.ca c)) (hm : Meth U.K (M.ca c) m (fa f))
    (hn : ∀ i, i < M.n → M.an i ≠ m) (h1 : bareCall o = false) (h4 : (apos.endLine == pos.line) = true) : SE X M G (.Call (.Attribute o m apos) [] [] pos) (ev G cal (.meth a c f .nil)) := by
  rw [← iu.K] at hc hm
  refine ⟨fun pins s σ H Q I h => ?_⟩
  obtain ⟨E, S, ρ, σd, xt, gd, er, h⟩ := h
  unfold ev at h
  obtain ⟨fd, ps, F, B⟩ := co.ok f cd hf
  refine (pe_meth0 ho hc hm (iu.fn F) hr (iu.bi B) .nil (passes_e iu xt) (meth_tree h1 rfl (by decide) h4)).run pins s σ H Q I ?_
  refine ⟨E, S, ρ, σd, xt, gd, er, (PostG.bind gd h).imp fun p S1 ρ1 H1 e1 n1 g1 h1 x hx => ?_⟩
  cases hx with
  | fresh _ _ _ _ _ => exact h1.elim
  | val hx =>
    rename_i d
    dsimp only at h1
    split at h1
    · rename_i hcl
      obtain ⟨fl, hfs⟩ := cls_fs hcl
      obtain ⟨b, dx, fs, rfl, hb, fr⟩ := fs_rep g1 hx hfs
      refine ⟨b, dx, fs, rfl, hb, frs_none hn fr, ?_⟩
      unfold evs at h1
      have h2 : PostG M G E S1 ρ1 H1 ((cal f (d :: []) S1).bind fun r S3 => .ok (.val r) S3) (KE M H Q) := h1
      show spF M G cd.np (cal f) [.ref b] H1 Q E
      obtain ⟨cd', e3, e4⟩ := co.np f _ S1 (PostG.bind g1 h2).ne_bad
      rw [hf] at e3
      cases e3
      exact call_post g1 (.cons hx .nil) e4 h2
    · exact h1.elim
end
end DI
end

section
set_option Elab.async false
set_option linter.all false
set_option maxRecDepth 100000
/-! DIBm: functions of two values, methods of lists. -/
namespace DI
open PySem PySem.Spec L2
open PyProof.Rows hiding St
section
variable {M : Nm} {S : Store} {ρ : List Addr} {H : Hp} {n : Nat} {a : Addr} {c c' : Cell} {o : HO}
/-! ### a cell's new content -/
theorem Nx.put (g : Good M S ρ H) (hn : S[n]? = some c) (hd : c ≠ .dead) (ha : ρ[n]? = some a) : Nx S ρ H (S.set n c') ρ (upd H a o) := by
  refine ⟨⟨[], by simp, fun _ h => by cases h⟩, fun m h => ?_, fun b u e l => ?_⟩
  · have : n ≠ m := fun z => by subst z; rw [hn] at h; cases h; exact hd rfl
    rw [List.getElem?_set_ne this]; exact h
  · have : b ≠ a := fun z => l ⟨n, c, hn, hd, by rw [z]; exact ha⟩
    rw [upd_ne this]; exact e
theorem Good.put (g : Good M S ρ H) (hn : S[n]? = some c) (hd : c ≠ .dead) (ha : ρ[n]? = some a) (hc : CellR M (S.set n c') ρ (upd H a o) a c') : Good M (S.set n c') ρ (upd H a o) := by
  refine ⟨by simpa using g.len, g.nd, fun m k b e1 e2 => ?_⟩
  by_cases h : n = m
  · subst h
    rw [ha] at e2; cases e2
    rw [List.getElem?_set_self (List.getElem?_eq_some_iff.mp hn).1] at e1
    cases e1; exact hc
  · rw [List.getElem?_set_ne h] at e1
    refine (g.cells m k b e1 e2).nx (Nx.put g hn hd ha) g (upd_ne fun z => h ?_)
    subst z
    obtain ⟨h1, h2⟩ := List.getElem?_eq_some_iff.mp ha
    obtain ⟨h3, h4⟩ := List.getElem?_eq_some_iff.mp e2
    exact (List.getElem_inj g.nd).mp (h2.trans h4.symm)
/-- a list of one's own, changed -/
theorem Good.lst {xs ds : List D} {vs : List V} (g : Good M S ρ H) (hn : S[n]? = some (.lst xs)) (ha : ρ[n]? = some a) (hz : vs.length ≤ sizeLine) (r : VRs M S ρ H vs ds) :
    Nx S ρ H (S.set n (.lst ds)) ρ (upd H a (.lst vs)) ∧ Good M (S.set n (.lst ds)) ρ (upd H a (.lst vs)) :=
  have x : Nx S ρ H (S.set n (.lst ds)) ρ (upd H a (.lst vs)) := Nx.put g hn (by simp) ha
  ⟨x, g.put hn (by simp) ha (.lst upd_same hz (r.nx x g))⟩
theorem lst_at {xs : List D} {v : V} (g : Good M S ρ H) (r : VR M S ρ H v (.loc n)) (hn : S[n]? = some (.lst xs)) : ∃ a vs, v = .ref a ∧ ρ[n]? = some a ∧ H a = some (.lst vs) ∧ vs.length ≤ sizeLine ∧ VRs M S ρ H vs xs := by
  cases r with
  | loc h =>
    cases g.cells n _ _ hn h with
    | lst h1 hz r1 => exact ⟨_, _, rfl, h, h1, hz, r1⟩
end
section
variable {U : Uv} {X : Cx} {M : Nm} {G : Gx} {e o : Expr} {es : List Expr} {pos p apos : Pos} {cal : Nat → List D → Store → Res D} {a b : CE}
/-! ### f(x, y) -/
def B2OK (M : Nm) (f : Sq → Sq → Option Sq) (r : List V → Hp → VK → Prop) : Prop :=
  ∀ (H : Hp) (S2 : Store) (ρ2 : List Addr) (H2 : Hp) (x y : V) (p q w : Sq) (Q : VK), Good M S2 ρ2 H2 → SqR M H S2 ρ2 H2 x p → SqR M H S2 ρ2 H2 y q → f p q = some w → KE M H Q w S2 ρ2 H2 → r [x, y] H2 Q
theorem ok_max2 : B2OK M (b2D .max) (fun xs H Q => ∃ i j, xs = [.int i, .int j] ∧ Q (.int (if j > i then j else i)) H) := by
  intro H S2 ρ2 H2 x y p q w Q g hx hy e k
  simp only [b2D] at e
  split at e <;> first | (cases e; cases hx with | val hx => cases hy with | val hy => cases hx; cases hy; exact ⟨_, _, rfl, k _ (.val (.int _))⟩) | contradiction | cases e
theorem ok_min2 : B2OK M (b2D .min) (fun xs H Q => ∃ i j, xs = [.int i, .int j] ∧ Q (.int (if j < i then j else i)) H) := by
  intro H S2 ρ2 H2 x y p q w Q g hx hy e k
  simp only [b2D] at e
  split at e <;> first | (cases e; cases hx with | val hx => cases hy with | val hy => cases hx; cases hy; exact ⟨_, _, rfl, k _ (.val (.int _))⟩) | contradiction | cases e
theorem ok_gcd : B2OK M (b2D .gcd) rGcd := by
  intro H S2 ρ2 H2 x y p q w Q g hx hy e k
  simp only [b2D] at e
  split at e <;> first | (cases e; cases hx with | val hx => cases hy with | val hy => cases hx; cases hy; exact ⟨_, _, rfl, k _ (.val (.int _))⟩) | contradiction | cases e
theorem se_two {f : Sq → Sq → Option Sq} {r : List V → Hp → VK → Prop} (ok : B2OK M f r) (ha : SE X M G e (ev G cal a)) (hb : SE X M G o (ev G cal b)) (s1 : starB e = false) (s2 : starB o = false) :
    PA X [e, o] (tCons (tEv X M G (ev G cal a)) (tCons (tEv X M G (ev G cal b)) tNil)) ∧ ∀ σ H Q, tEv X M G (fun σ S => (ev G cal a σ S).bind fun p S1 => (ev G cal b σ S1).bind fun q S2 => lift (f p q) S2) σ H Q →
      tCB r (tCons (tEv X M G (ev G cal a)) (tCons (tEv X M G (ev G cal b)) tNil)) σ H Q := by
  refine ⟨pa_cons ha (pa_cons hb pa_nil (star_no s2)) (star_no s1), fun σ H Q h => ?_⟩
  obtain ⟨E, S, ρ, σd, xt, gd, er, h⟩ := h
  refine two xt gd er h fun p q x y S2 ρ2 H2 n2 g2 hx hy h2 => ?_
  obtain ⟨w, e1, h3⟩ := h2.lift_
  exact ok H S2 ρ2 H2 x y p q w Q g2 hx hy e1 (h3.here g2)
def b2Name : B2 → Str
  | .max => "max"
  | .min => "min"
  | .gcd => "gcd"
theorem se_b2 (iu : Inn U X) {bb : B2} (hc : X.calm = true) (hg : Gl X (b2Name bb)) (hm : match bb with | .gcd => U.mg "gcd" = some (.builtin "math.gcd") | _ => U.mg (b2Name bb) = none) (s1 : starB e = false) (s2 : starB o = false) (ha : SE X M G e (ev G cal a)) (hb : SE X M G o (ev G cal b)) :
    SE X M G (.Call (.Name (b2Name bb) p) [e, o] [] pos) (ev G cal (.b2 bb a b)) := by
  refine ⟨fun pins s σ H Q I h => ?_⟩
  have pl : (backTo pos (starEach [o] X.env)).any (·.1) = false := by rw [star_no s2]; rfl
  unfold ev at h
  rw [← iu.mg] at hm
  cases bb with
  | max =>
    obtain ⟨h1, h2⟩ := se_two ok_max2 ha hb s1 s2
    exact (pe_callB (call_max2 hc) hg hm (by rfl) h1 (by decide) (by decide) (star_no s1) pl).run pins s σ H Q I (h2 σ H Q h)
  | min =>
    obtain ⟨h1, h2⟩ := se_two ok_min2 ha hb s1 s2
    exact (pe_callB (call_min2 hc) hg hm (by rfl) h1 (by decide) (by decide) (star_no s1) pl).run pins s σ H Q I (h2 σ H Q h)
  | gcd =>
    obtain ⟨h1, h2⟩ := se_two ok_gcd ha hb s1 s2
    exact (pe_callBfun cr_gcd hg hm h1 (by decide) (star_no s1) pl).run pins s σ H Q I (h2 σ H Q h)
/-! ### methods of lists -/
theorem few_of {env : PySem.Env} {e : Expr} {es : List Expr} (h : plainEs (e :: es) = true) (hl : (e :: es).length < 30) : ((backTo pos (starEach (e :: es) env)).all (fun x => !x.1) && (backToKw pos (keywordEach [] env)).all (fun x => x.1.isSome)
      && decide ((e :: es).length + ([] : List Keyword).length + (if ([] : List Keyword).isEmpty then 0 else 1) < 30)) = true := by
  rw [plainEs_all h]
  simp [keywordEach, backToKw] at hl ⊢
  omega
theorem isLst_at {S : Store} {n : Nat} (h : isLst S n = true) : ∃ xs, S[n]? = some (.lst xs) := by
  unfold isLst at h
  split at h
  · exact ⟨_, by assumption⟩
  · cases h
variable {cs : CEs}
theorem se_append (ho : SE X M G o (ev G cal a)) (ha : SA X M G (e :: es) (evs G cal cs)) (hp : plainEs (e :: es) = true) (h1 : bareCall o = false) (h3 : (e :: es).length < 30) (h4 : (apos.endLine == pos.line) = true) :
    SE X M G (.Call (.Attribute o "append" apos) (e :: es) [] pos) (ev G cal (.bm .append a cs)) := by
  obtain ⟨p1, p2⟩ := plainEs_cons hp
  refine ⟨fun pins s σ H Q I h => (pe_bm PySem.F.plainAttrs_list PySem.F.slot_list_append PySem.F.type_list_append mt_append ho ha (base_of h1) (few_of hp h3) h4 (no_star p1) (plainEs_any p2)).run pins s σ H Q I ?_⟩
  obtain ⟨E, S, ρ, σd, xt, gd, er, h⟩ := h
  unfold ev at h
  refine ⟨E, S, ρ, σd, xt, gd, er, (PostG.bind gd h).imp fun p S1 ρ1 H1 e1 n1 g1 h1 x hx => ?_⟩
  cases hx with
  | fresh _ _ _ _ _ => exact h1.elim
  | val hx =>
    cases hx with
    | loc hx =>
      rename_i l n
      dsimp only at h1
      split at h1
      · rename_i hl
        obtain ⟨xs, hn⟩ := isLst_at hl
        obtain ⟨l', vs, e2, hl', hH, hz, rv⟩ := lst_at g1 (.loc hx) hn
        cases e2
        refine ⟨.inl ⟨rfl, vs, .inl (.inl hH)⟩, E, S1, ρ1, σd, xt, g1, er.nx n1 gd, (PostG.bind g1 h1).imp fun ds S2 ρ2 H2 e2 n2 g2 h2 us hu => ?_⟩
        split at h2
        · rename_i ys hn2
          obtain ⟨l2, ws, e3, hl2, hH2, hz2, rw2⟩ := lst_at g2 (.loc (n2.at hx)) hn2
          cases e3
          unfold bmD at h2
          split at h2
          · split at h2
            · rename_i hsz
              cases hu with
              | cons hu r =>
                cases r
                have hl3 : ws.length < sizeLine := by rw [rw2.length]; exact hsz
                refine ⟨l, ws, _, rfl, rfl, hH2, hl3, ?_⟩
                obtain ⟨x3, g3⟩ := g2.lst hn2 hl2 (vs := ws ++ [_]) (by rw [List.length_append]; exact hl3) (rw2.append (.cons hu .nil))
                exact h2 _ _ x3 g3 _ (.val .non)
            · exact h2.elim
          all_goals first | exact h2.elim | contradiction
        · exact h2.elim
      · exact h1.elim
    | _ => exact h1.elim
theorem ins_rep {S : Store} {ρ : List Addr} {H : Hp} (k : Nat) {vs : List V} {ds : List D} {v : V} {d : D} (r : VRs M S ρ H vs ds) (h : VR M S ρ H v d) : VRs M S ρ H (vs.take k ++ [v] ++ vs.drop k) (ds.take k ++ d :: ds.drop k) := by
  have := VRs.append (VRs.append (r.take k) (.cons h .nil)) (r.drop k)
  rwa [List.append_assoc (List.take k ds)] at this
theorem se_insert (ho : SE X M G o (ev G cal a)) (ha : SA X M G (e :: es) (evs G cal cs)) (hp : plainEs (e :: es) = true) (h1 : bareCall o = false) (h3 : (e :: es).length < 30) (h4 : (apos.endLine == pos.line) = true) :
    SE X M G (.Call (.Attribute o "insert" apos) (e :: es) [] pos) (ev G cal (.bm .insert a cs)) := by
  obtain ⟨p1, p2⟩ := plainEs_cons hp
  refine ⟨fun pins s σ H Q I h => (pe_bm PySem.F.plainAttrs_list PySem.F.slot_list_insert PySem.F.type_list_insert mt_insert ho ha (base_of h1) (few_of hp h3) h4 (no_star p1) (plainEs_any p2)).run pins s σ H Q I ?_⟩
  obtain ⟨E, S, ρ, σd, xt, gd, er, h⟩ := h
  unfold ev at h
  refine ⟨E, S, ρ, σd, xt, gd, er, (PostG.bind gd h).imp fun p S1 ρ1 H1 e1 n1 g1 h1 x hx => ?_⟩
  cases hx with
  | fresh _ _ _ _ _ => exact h1.elim
  | val hx =>
    cases hx with
    | loc hx =>
      rename_i l n
      dsimp only at h1
      split at h1
      · rename_i hl
        obtain ⟨xs, hn⟩ := isLst_at hl
        obtain ⟨l', vs, e2, hl', hH, hz, rv⟩ := lst_at g1 (.loc hx) hn
        cases e2
        refine ⟨.inl ⟨rfl, vs, .inl (.inl hH)⟩, E, S1, ρ1, σd, xt, g1, er.nx n1 gd, (PostG.bind g1 h1).imp fun ds S2 ρ2 H2 e2 n2 g2 h2 us hu => ?_⟩
        split at h2
        · rename_i ys hn2
          obtain ⟨l2, ws, e3, hl2, hH2, hz2, rw2⟩ := lst_at g2 (.loc (n2.at hx)) hn2
          cases e3
          unfold bmD at h2
          split at h2
          all_goals first | contradiction | skip
          · split at h2
            · rename_i hsz
              cases hu with
              | cons hu r =>
                cases hu
                cases r with
                | cons hu r =>
                  cases r
                  have hl3 : ws.length < sizeLine := by rw [rw2.length]; exact hsz.1
                  refine ⟨l, ws, _, _, rfl, rfl, hH2, hl3, hsz.2.1, ?_, ?_⟩
                  · have := sizeLine_eq; omega
                  · have zz : ∀ (k : Nat) (v : V), (ws.take k ++ [v] ++ ws.drop k).length ≤ sizeLine := fun k v => by simp only [List.length_append, List.length_take, List.length_drop, List.length_cons, List.length_nil]; omega
                    exact h2 _ _ (g2.lst hn2 hl2 (zz _ _) (ins_rep _ rw2 hu)).1 (g2.lst hn2 hl2 (zz _ _) (ins_rep _ rw2 hu)).2 _ (.val .non)
            · exact h2.elim
          all_goals first | exact h2.elim | contradiction
        · exact h2.elim
      · exact h1.elim
    | _ => exact h1.elim
theorem se_pop (ho : SE X M G o (ev G cal a)) (h1 : bareCall o = false) (h4 : (apos.endLine == pos.line) = true) :
    SE X M G (.Call (.Attribute o "pop" apos) [] [] pos) (ev G cal (.bm .pop a .nil)) := by
  refine ⟨fun pins s σ H Q I h => (pe_bm0 PySem.F.plainAttrs_list PySem.F.slot_list_pop PySem.F.type_list_pop mt_pop ho (base_of h1) h4).run pins s σ H Q I ?_⟩
  obtain ⟨E, S, ρ, σd, xt, gd, er, h⟩ := h
  unfold ev at h
  refine ⟨E, S, ρ, σd, xt, gd, er, (PostG.bind gd h).imp fun p S1 ρ1 H1 e1 n1 g1 h1 x hx => ?_⟩
  cases hx with
  | fresh _ _ _ _ _ => exact h1.elim
  | val hx =>
    cases hx with
    | loc hx =>
      rename_i l n
      dsimp only at h1
      split at h1
      · rename_i hl
        obtain ⟨xs, hn⟩ := isLst_at hl
        obtain ⟨l', vs, e2, hl', hH, hz, rv⟩ := lst_at g1 (.loc hx) hn
        cases e2
        unfold evs at h1
        have h2 : PostG M G E S1 ρ1 H1 (match S1[n]? with
          | some (.lst xs) => bmD .pop S1 n xs []
          | _ => .bad) (KE M H Q) := h1
        rw [hn] at h2
        dsimp only [bmD] at h2
        refine ⟨.inl ⟨rfl, vs, .inl (.inl hH)⟩, ?_⟩
        split at h2
        · rename_i d hd
          have hd' : xs[xs.length - 1]? = some d := by rw [← List.getLast?_eq_getElem?]; exact hd
          obtain ⟨v, e3, rv3⟩ := rv.get hd'
          refine ⟨l, vs, v, rfl, rfl, hH, by rw [rv.length]; exact e3, ?_⟩
          have e4 : vs.dropLast = vs.take (vs.length - 1) := List.dropLast_eq_take
          have e5 : xs.dropLast = xs.take (vs.length - 1) := by rw [rv.length]; exact List.dropLast_eq_take
          rw [e4]
          rw [e5] at h2
          obtain ⟨x3, g3⟩ := g1.lst hn hl' (vs := vs.take (vs.length - 1)) (by rw [List.length_take]; omega) (rv.take (vs.length - 1))
          exact h2 _ _ x3 g3 _ (.val (rv3.nx x3 g1))
        · exact h2.elim
      · exact h1.elim
    | _ => exact h1.elim
end
end DI
end

section
set_option Elab.async false
set_option linter.all false
set_option maxRecDepth 100000
/-! DIIdx: index and extend. -/
namespace DI
open PySem PySem.Spec L2
open PyProof.Rows hiding St
section
variable {X : Cx} {M : Nm} {G : Gx} {e o : Expr} {es : List Expr} {pos p apos : Pos} {cal : Nat → List D → Store → Res D} {a b : CE} {cs : CEs}
def rIdxL (K : PySem.W.Frag) : V → List V → Hp → VK → Prop := fun x xs H Q => ∃ (l : Addr) (ns : List Int) (k : Int), x = V.ref l ∧ xs = [.int k] ∧ SqL K H l (ns.map V.int) ∧ ns.length ≤ sizeLine ∧ k ∈ ns ∧ Q (.int (ns.idxOf k : Nat)) H
theorem mt_idxL : MtR X "list.index" (rIdxL X.K) := by
  rintro pins s σ H x xs v us Q I rx rxs ⟨l, ns, k, rfl, rfl, hs, hz, hk, q⟩
  cases rx
  obtain ⟨u, rfl, ru⟩ := rxs.one
  obtain ⟨t, rfl⟩ := ru
  obtain ⟨its, rv, pl, _⟩ := I.list hs
  exact PySem.SeqAt.list_index_ints pl.isList rv.ints hz hk ⟨.int _, H, I.kept (h' := s.heap) (t' := s.toks + 1) fun _ _ e => e, ⟨_, rfl⟩, q⟩
theorem se_index (ho : SE X M G o (ev G cal a)) (ha : SA X M G (e :: es) (evs G cal cs)) (hp : plainEs (e :: es) = true) (h1 : bareCall o = false) (h3 : (e :: es).length < 30) (h4 : (apos.endLine == pos.line) = true) :
    SE X M G (.Call (.Attribute o "index" apos) (e :: es) [] pos) (ev G cal (.bm .index a cs)) := by
  obtain ⟨p1, p2⟩ := plainEs_cons hp
  refine ⟨fun pins s σ H Q I h => (pe_bm PySem.F.plainAttrs_list PySem.F.slot_list_index PySem.F.type_list_index mt_idxL ho ha (base_of h1) (few_of hp h3) h4 (no_star p1) (plainEs_any p2)).run pins s σ H Q I ?_⟩
  obtain ⟨E, S, ρ, σd, xt, gd, er, h⟩ := h
  unfold ev at h
  refine ⟨E, S, ρ, σd, xt, gd, er, (PostG.bind gd h).imp fun p S1 ρ1 H1 e1 n1 g1 h1 x hx => ?_⟩
  dsimp only at h1
  split at h1
  · exact h1.elim
  · rename_i xs hl
    obtain ⟨l, vs, rfl, hH, hz, rv⟩ := lst_rep (K := X.K) g1 hx hl
    refine ⟨.inl ⟨rfl, vs, hH⟩, E, S1, ρ1, σd, xt, g1, er.nx n1 gd, (PostG.bind g1 h1).imp fun ds S2 ρ2 H2 e2 n2 g2 h2 us hu => ?_⟩
    split at h2
    · rename_i ns k hn
      split at h2
      · rename_i hk
        obtain ⟨ys, e3, e4⟩ := Option.bind_eq_some_iff.mp hn
        obtain ⟨l2, ws, e5, hH2, hz2, rw2⟩ := lst_rep (K := X.K) g2 (hx.nx n2 g1) e3
        cases e5
        have e6 := ints_rep rw2 e4
        subst e6
        cases hu with
        | cons hu r =>
          cases r
          cases hu
          exact ⟨_, ns, k, rfl, rfl, hH2, by simpa using hz2, hk, h2.here g2 _ (.val (.int _))⟩
      · exact h2.elim
    · exact h2.elim
/-- a method of a tuple whose object is known -/
def tyI (x : V) (H : Hp) : Prop := ∃ (p : Addr) (o : Obj) (u : HO), x = .ref p ∧ H p = some (.frz o u) ∧ o.cls = .type "tuple" ∧ o.dict = none
def tBMI (r : V → List V → Hp → VK → Prop) (to : TE) (t : TA) : TE := fun σ H Q => to σ H fun x H1 => tyI x H1 ∧ t σ H1 fun xs H2 => r x xs H2 Q
theorem pe_bmI {to : TE} {t : TA} {name : Str} {id : String} {cpos : Pos} {r : V → List V → Hp → VK → Prop} (slot : Slot "tuple" name id) (hty : typeOf (.builtin id) = pure (.type "method_descriptor")) (hm : MtR X id r) (ho : PE X o to) (ha : PA X (e :: es) t)
    (hbase : attributeBase o name X.env (eval o X.env) = eval o X.env)
    (hfew : ((backTo cpos (starEach (e :: es) X.env)).all (fun x => !x.1) && (backToKw cpos (keywordEach [] X.env)).all (fun x => x.1.isSome)
      && decide ((e :: es).length + ([] : List Keyword).length + (if ([] : List Keyword).isEmpty then 0 else 1) < 30)) = true)
    (hline : (apos.endLine == cpos.line) = true) (hs : starEach (e :: es) X.env = (false, eval e X.env) :: starEach es X.env) (hplain : (backTo cpos (starEach es X.env)).any (·.1) = false) :
    PE X (.Call (.Attribute o name apos) (e :: es) [] cpos) (tBMI r to t) := by
  refine ⟨fun pins s σ H Q I h => ?_⟩
  refine wpAny_Call_method_late hbase hfew hline rfl (thn (ho.run pins s σ H _ I h) fun v s1 ⟨x, H1, I1, r1, ty, q1⟩ => ?_)
  obtain ⟨p, ob, u, rfl, hp, hc, hd⟩ := ty
  cases r1
  have hg : s1.heap.get? p = some ob := (show ObjOk X.prog X.w H1 s1.heap p (.frz ob u) from I1.hok p _ hp).1
  refine ⟨"tuple", id, PySem.F.plainAttrs_tuple, slot, hty, ⟨ob, hg, hc⟩, fun a e2 => ?_, ?_⟩
  · cases e2
    exact ⟨ob, hg, hd⟩
  have hA := ha.run cpos pins s1 σ H1 _ I1 q1
  rw [hs] at hA ⊢
  refine Calls.callWith_builtin (by show (false || (backTo cpos (starEach es X.env)).any (·.1)) = false; rw [hplain] <;> rfl) (Calls.evalArgs_plain ?_)
  exact thn hA fun us s2 ⟨vs, H2, I2, r2, q2⟩ => hm pins s2 σ H2 (.ref p) vs (.ref p) us Q I2 rfl r2 q2
def rIdxT (K : PySem.W.Frag) : V → List V → Hp → VK → Prop := fun x xs H Q => ∃ (l : Addr) (ns : List Int) (k : Int), x = V.ref l ∧ xs = [.int k] ∧ SqT K H l (ns.map V.int) ∧ k ∈ ns ∧ Q (.int (ns.idxOf k : Nat)) H
theorem mt_idxT : MtR X "tuple.index" (rIdxT X.K) := by
  rintro pins s σ H x xs v us Q I rx rxs ⟨l, ns, k, rfl, rfl, hs, hk, q⟩
  cases rx
  obtain ⟨u, rfl, ru⟩ := rxs.one
  obtain ⟨t, rfl⟩ := ru
  obtain ⟨its, rv, pl, _⟩ := I.tuple hs
  exact PySem.SeqAt.tuple_index_ints pl rv.ints hk ⟨.int _, H, I.kept (h' := s.heap) (t' := s.toks + 1) fun _ _ e => e, ⟨_, rfl⟩, q⟩
theorem se_tindex (ho : SE X M G o (ev G cal a)) (ha : SA X M G (e :: es) (evs G cal cs)) (hp : plainEs (e :: es) = true) (h1 : bareCall o = false) (h3 : (e :: es).length < 30) (h4 : (apos.endLine == pos.line) = true) :
    SE X M G (.Call (.Attribute o "index" apos) (e :: es) [] pos) (ev G cal (.bm .tindex a cs)) := by
  obtain ⟨p1, p2⟩ := plainEs_cons hp
  refine ⟨fun pins s σ H Q I h => (pe_bmI PySem.F.slot_tuple_index PySem.F.type_tuple_index mt_idxT ho ha (base_of h1) (few_of hp h3) h4 (no_star p1) (plainEs_any p2)).run pins s σ H Q I ?_⟩
  obtain ⟨E, S, ρ, σd, xt, gd, er, h⟩ := h
  unfold ev at h
  refine ⟨E, S, ρ, σd, xt, gd, er, (PostG.bind gd h).imp fun p S1 ρ1 H1 e1 n1 g1 h1 x hx => ?_⟩
  dsimp only at h1
  split at h1
  · rename_i xs
    cases hx with
    | val hx =>
      cases hx with
      | tupI hH hc hz rv =>
        refine ⟨⟨_, _, _, rfl, hH, hc.1, hc.2⟩, E, S1, ρ1, σd, xt, g1, er.nx n1 gd, (PostG.bind g1 h1).imp fun ds S2 ρ2 H2 e2 n2 g2 h2 us hu => ?_⟩
        split at h2
        · rename_i ns k hn
          split at h2
          · rename_i hk
            have e6 := ints_rep rv hn
            subst e6
            have hH2 := n2.kept _ _ hH fun l => g1.frz_free hH l.mem
            cases hu with
            | cons hu r =>
              cases r
              cases hu
              exact ⟨_, ns, k, rfl, rfl, .inl (.inr ⟨_, hH2⟩), hk, h2.here g2 _ (.val (.int _))⟩
          · exact h2.elim
        · exact h2.elim
  · exact h1.elim
theorem se_extend (ho : SE X M G o (ev G cal a)) (ha : SE X M G e (ev G cal b)) (hs : starB e = false) (hp : plainEs [e] = true) (h1 : bareCall o = false) (h4 : (apos.endLine == pos.line) = true) :
    SE X M G (.Call (.Attribute o "extend" apos) [e] [] pos) (ev G cal (.bm .extend a (.cons b .nil))) := by
  obtain ⟨p1, p2⟩ := plainEs_cons hp
  refine ⟨fun pins s σ H Q I h => (pe_bm PySem.F.plainAttrs_list PySem.F.slot_list_extend PySem.F.type_list_extend mt_extend ho (pa_cons ha pa_nil (star_no hs)) (base_of h1) (few_of hp (by simp)) h4 (no_star p1) (plainEs_any p2)).run pins s σ H Q I ?_⟩
  obtain ⟨E, S, ρ, σd, xt, gd, er, h⟩ := h
  unfold ev at h
  refine ⟨E, S, ρ, σd, xt, gd, er, (PostG.bind gd h).imp fun p S1 ρ1 H1 e1 n1 g1 h1 x hx => ?_⟩
  cases hx with
  | fresh _ _ _ _ _ => exact h1.elim
  | val hx =>
    cases hx with
    | loc hx =>
      rename_i l n
      dsimp only at h1
      split at h1
      · rename_i hl
        obtain ⟨xs, hn⟩ := isLst_at hl
        obtain ⟨l', vs, e2, hl', hH, hz, rv⟩ := lst_at g1 (.loc hx) hn
        cases e2
        simp only [evq] at h1
        refine ⟨.inl ⟨rfl, vs, .inl (.inl hH)⟩, E, S1, ρ1, σd, xt, g1, er.nx n1 gd, (PostG.bind g1 h1).imp fun q S2 ρ2 H2 e2 n2 g2 h2 y hy => ?_⟩
        split at h2
        · rename_i ys zs hn2 ho2
          split at h2
          · rename_i hsz
            obtain ⟨l2, ws, e3, hl2, hH2, hz2, rw2⟩ := lst_at g2 (.loc (n2.at hx)) hn2
            cases e3
            obtain ⟨l3, us, rfl, hH3, hz3, ru⟩ := own_rep g2 hy ho2
            have hlen : ws.length + us.length ≤ sizeLine := by rw [rw2.length, ru.length]; exact hsz
            refine ⟨l, l3, ws, us, rfl, rfl, hH2, hH3, hlen, ?_⟩
            obtain ⟨x3, g3⟩ := g2.lst hn2 hl2 (vs := ws ++ us) (by rw [List.length_append]; exact hlen) (rw2.append ru)
            exact h2 _ _ x3 g3 _ (.val .non)
          · exact h2.elim
        · exact h2.elim
      · exact h1.elim
    | _ => exact h1.elim
end
end DI
end

section
set_option Elab.async false
set_option linter.all false
set_option maxRecDepth 100000
/-! DIIsi: isinstance; a class's own ==; more methods of lists. -/
namespace DI
open PySem PySem.Spec L2
open PyProof.Rows hiding St
def tyT (M : Nm) : Ty → V
  | .int => .ty "int" | .bool => .ty "bool" | .str => .ty "str" | .tuple => .ty "tuple" | .list => .ty "list" | .own c => .ref (M.ca c)
def tyW (M : Nm) : Ty → Value
  | .int => .type "int" | .bool => .type "bool" | .str => .type "str" | .tuple => .type "tuple" | .list => .type "list" | .own c => .ref (M.ca c)
def kdW (M : Nm) : Kd → Value
  | .non => .type "NoneType" | .bl => .type "bool" | .int => .type "int" | .str => .type "str" | .tup => .type "tuple" | .lst => .type "list" | .own c => .ref (M.ca c)
theorem tyT_cls (M : Nm) (t : Ty) : ClsV (tyT M t) (tyW M t) := by cases t <;> constructor
theorem tyT_rel (M : Nm) (t : Ty) : RelV (tyT M t) (tyW M t) := by cases t <;> rfl
/-- what is asked of the classes that are looked for -/
structure IsiF (K : PySem.W.Frag) (M : Nm) (G : Gx) : Prop where
  cls : ∀ c, G.own.contains c = true → Cls K (M.ca c) ∧ PySem.W.findIn K (.ref (M.ca c)) "__class__" = some (some (.builtin "object.__class__")) ∧ PySem.W.mroIn K (M.ca c) (.type "object") = some true
  hn : PySem.W.specialIn K (.builtin "object.__class__") "__get__" = some (some (.builtin "getset_descriptor.__get__"))
  htk : PySem.W.takesIn K (.builtin "object.__class__") = some true
  kit : ∀ c d, G.own.contains c = true → G.own.contains d = true → PySem.W.kitOne K (.ref (M.ca c)) (.ref (M.ca d)) = some (decide (c = d))
  kitL : ∀ c n, G.own.contains c = true → n ∈ ["int", "bool", "str", "tuple", "list"] → PySem.W.kitOne K (.ref (M.ca c)) (.type n) = some false
  kitR : ∀ c n, G.own.contains c = true → n ∈ ["NoneType", "int", "bool", "str", "tuple", "list"] → PySem.W.kitOne K (.type n) (.ref (M.ca c)) = some false
def kdOk (G : Gx) : Kd → Bool
  | .own c => G.own.contains c
  | _ => true
def tyOk (G : Gx) : Ty → Bool
  | .own c => G.own.contains c
  | _ => true
section
variable {K : PySem.W.Frag} {M : Nm} {G : Gx} {S : Store} {ρ : List Addr} {H H0 : Hp}
theorem kit_kd (f : IsiF K M G) {k : Kd} {t : Ty} (hk : kdOk G k = true) (ht : tyOk G t = true) : PySem.W.kitOne K (kdW M k) (tyW M t) = some (isTy k t) := by
  cases k with
  | own c =>
    cases t with
    | own d =>
      have := f.kit c d hk ht
      rw [show isTy (.own c) (.own d) = decide (c = d) by simp [isTy]]
      exact this
    | _ => exact f.kitL c _ hk (by simp)
  | _ =>
    cases t with
    | own d => exact f.kitR d _ ht (by simp)
    | _ => exact kit_ty (by decide +kernel)
theorem kind_rep (f : IsiF K M G) (g : Good M S ρ H) {x : V} {p : Sq} {k : Kd} (r : SqR M H0 S ρ H x p) (h : kindOf G S p = some k) : TyX K H x (kdW M k) ∧ kdOk G k = true := by
  have own : ∀ {a C dx : Addr} {c : Nat} {fs : List (Str × V)}, H a = some (.ins (M.ca c) dx fs) → G.own.contains c = true → TyX K H (.ref a) (.ref (M.ca c)) := fun {a C dx c fs} e hc =>
    let ⟨h1, h2, h3⟩ := f.cls c hc
    .base (.ins e h1 h2 f.hn f.htk h3)
  cases r with
  | fresh h1 hz r hn h0 => cases h; exact ⟨.base (.lst h1), rfl⟩
  | val r =>
    cases r with
    | non => cases h; exact ⟨.base .non, rfl⟩
    | bl b => cases h; exact ⟨.base (.bl b), rfl⟩
    | int i => cases h; exact ⟨.base (.int i), rfl⟩
    | str s => cases h; exact ⟨.base (.str s), rfl⟩
    | tup h1 hz r => cases h; exact ⟨.base (.tup h1), rfl⟩
    | tupI _ _ _ _ => cases h
    | err _ _ _ _ _ => cases h
    | obj h1 hl r =>
      simp only [kindOf] at h
      split at h
      · cases h; exact ⟨own (C := 0) h1 (by assumption), by assumption⟩
      · cases h
    | loc hr =>
      simp only [kindOf] at h
      split at h
      · rename_i hc; cases h
        cases g.cells _ _ _ hc hr with
        | lst h1 hz r => exact ⟨.base (.lst h1), rfl⟩
      · rename_i hc; cases h
        cases g.cells _ _ _ hc hr with
        | ro h1 hz r =>
          rcases h1 with h1 | ⟨o, h1⟩
          · exact ⟨.base (.lst h1), rfl⟩
          · exact ⟨.base (.frz h1), rfl⟩
      · rename_i hc
        split at h
        · cases h
          cases g.cells _ _ _ hc hr with
          | ins h1 r => exact ⟨own (C := 0) h1 (by assumption), by assumption⟩
        · cases h
      · cases h
end
section
variable {U : Uv} {X : Cx} {M : Nm} {G : Gx} {e : Expr} {pos p p2 : Pos} {cal : Nat → List D → Store → Res D} {a : CE} {x y : Str}
theorem se_isi {t : Ty} (iu : Inn U X) (f : IsiF U.K M G) (hg : Gl X "isinstance") (hm : U.mg "isinstance" = none) (ht : tyOk G t = true) (hs : starB e = false) (ha : SE X M G e (ev G cal a)) (hx : PE X (.Name x p2) (tC (tyT M t))) :
    SE X M G (.Call (.Name "isinstance" p) [e, .Name x p2] [] pos) (ev G cal (.isi a [t])) := by
  rw [← iu.mg] at hm
  rw [← iu.K] at f
  have hpa : PA X [e, .Name x p2] (tCons (tEv X M G (ev G cal a)) (tCons (tC (tyT M t)) tNil)) := pa_cons ha (pa_cons hx pa_nil) (star_no hs)
  refine ⟨fun pins s σ H Q I h => (pe_callB call_isi hg hm PyProof.Rows.boot_isinstance hpa (by decide) (by decide) (star_no hs) (by rfl)).run pins s σ H Q I ?_⟩
  obtain ⟨E, S, ρ, σd, xt, gd, er, h⟩ := h
  unfold ev at h
  refine one xt gd er h fun p x S2 ρ2 H2 n2 g2 hx h2 => ?_
  split at h2
  · rename_i k hk
    obtain ⟨h3, h4⟩ := kind_rep f g2 hx hk
    refine ⟨x, tyT M t, _, _, _, rfl, tyT_cls M t, h3, kit_kd f h4 ht, ?_⟩
    have := h2.here g2 _ (.val (.bl _))
    simpa using this
  · exact h2.elim
theorem se_isi2 {t u : Ty} {k : Nat} {p3 p4 : Pos} (iu : Inn U X) (f : IsiF U.K M G) (hg : Gl X "isinstance") (hm : U.mg "isinstance" = none) (ht : tyOk G t = true) (hu : tyOk G u = true) (hs : starB e = false) (ha : SE X M G e (ev G cal a)) (hx : PE X (.Name x p2) (tC (tyT M t)))
    (hy : PE X (.Name y p3) (tC (tyT M u))) : SE X M G (.Call (.Name "isinstance" p) [e, .Tuple [.Name x p2, .Name y p3] k p4] [] pos) (ev G cal (.isi a [t, u])) := by
  rw [← iu.mg] at hm
  rw [← iu.K] at f
  have hpa : PA X [e, .Tuple [.Name x p2, .Name y p3] k p4] (tCons (tEv X M G (ev G cal a)) (tCons (tTup (tCons (tC (tyT M t)) (tCons (tC (tyT M u)) tNil))) tNil)) := pa_cons ha (pa_cons (pe_tup (pa_cons hx (pa_cons hy pa_nil))) pa_nil) (star_no hs)
  refine ⟨fun pins s σ H Q I h => (pe_callB call_isiT hg hm PyProof.Rows.boot_isinstance hpa (by decide) (by decide) (star_no hs) (by rfl)).run pins s σ H Q I ?_⟩
  obtain ⟨E, S, ρ, σd, xt, gd, er, h⟩ := h
  unfold ev at h
  refine one xt gd er h fun p x S2 ρ2 H2 n2 g2 hx h2 => ?_
  refine ⟨by rw [sizeLine_eq]; show 2 ≤ 16777216; decide, fun q hq => ?_⟩
  split at h2
  · rename_i k hk
    have g3 := g2.alloc (o := .tup [tyT M t, tyT M u]) hq
    have n3 : Nx S2 ρ2 H2 S2 ρ2 (upd H2 q (.tup [tyT M t, tyT M u])) := Nx.alloc g2 hq
    obtain ⟨h3, h4⟩ := kind_rep f g3 (hx.nx n3 g2) hk
    refine ⟨x, q, _, _, [tyW M t, tyW M u], isTy k t || isTy k u, rfl, upd_same, .cons (tyT_cls M t) (.cons (tyT_cls M u) .nil), h3, ?_, ?_⟩
    · refine kitAny_cons (kit_kd f h4 ht) (fun h => ?_) (fun h => by rw [h]; rfl)
      rw [h, Bool.false_or]
      exact kitAny_cons (kit_kd f h4 hu) (fun h => by rw [h]; exact kitAny_nil) (fun h => h)
    · have := h2 _ _ n3 g3 _ (.val (.bl _))
      simpa using this
  · exact h2.elim
end
/-! ### a class's own == -/
section
variable {U : Uv} {X : Cx} {M : Nm} {G : Gx} {e o : Expr} {pos : Pos} {cal : Nat → List D → Store → Res D} {a b : CE} {P : Nat → Option CDef} {fa : Nat → Addr} {k : Nat}
/-- .. of an instance and another, or a tuple -/
def rEqO (K : PySem.W.Frag) (C : Addr) (sp : Sp) (E : XK) : R2 := fun x y H Q => ∃ a dx fs b, x = .ref a ∧ y = .ref b ∧ H a = some (.ins C dx fs) ∧ ((∃ dy gs, H b = some (.ins C dy gs)) ∨ ∃ xs, H b = some (.tup xs)) ∧
  sp [x, y] H (fun v H' => ∃ r, v = .bl r ∧ Q v H') E
theorem op_eqO {CX : CXT} {C f : Addr} {fd : FuncData} {ps : List Str} {sp : Sp} {E : XK} (F : FnOk X.prog X.w X.K X.mg X.base CX k f fd ps sp) (hr : Room k X.A)
    (hs : PySem.W.findIn X.K (.ref C) "__eq__" = some (some (.ref f))) (hf : PySem.W.isFn X.K (.ref f) = true) (ht : PySem.W.subIn X.K (.type "tuple") (.ref C) = some false) (hb : Binds X.K fd ps []) (hx : Passes CX X E) : OpR X (compareOp .Eq) (rEqO X.K C sp E) := by
  intro pins s σ H x y v u Q I rx ry h
  obtain ⟨a, dx, fs, b, rfl, rfl, ha, hb', hsp⟩ := h
  cases rx
  cases ry
  show wpAny (model X.prog X.w) X.A (richCompare .Eq (.ref a) (.ref b)) (EP X pins σ Q) X.xe s
  obtain ⟨mA, J, _⟩ := ins_get I.hok ha
  obtain ⟨od, J, _⟩ := J.look
  obtain ⟨m, hF⟩ := I.fr
  have go : ∀ tb, PySem.W.Looks (model X.prog X.w) s.heap (typeOf (.ref b)) tb → PySem.W.notFirst X.K C tb = true → wpAny (model X.prog X.w) X.A (richCompare .Eq (.ref a) (.ref b)) (EP X pins σ Q) X.xe s := by
    intro tb hl hn
    refine PySem.W.cmp_K (op := .Eq) hr.units0 hF I.ok.mod.kin J hl hn hs hf ?_
    refine wpAny_mono (run_fn (us := [.ref a, .ref b]) (vs := [.ref a, .ref b]) F hr hb .nil hx I (.cons rfl (.cons rfl .nil)) hsp) (fun w' s' q => ?_) fun _ _ z => z
    obtain ⟨z, H', I', rz, ⟨r, ez, q'⟩⟩ := q
    subst ez
    cases rz
    exact ⟨.bl r, H', I', rfl, q'⟩
  rcases hb' with ⟨dy, gs, hb'⟩ | ⟨xs, hb'⟩
  · obtain ⟨mB, J', _⟩ := ins_get I.hok hb'
    obtain ⟨od', J', _⟩ := J'.look
    exact go _ J'.type (by simp [PySem.W.notFirst])
  · obtain ⟨_, its, _, ob, h1, h2, _⟩ := (show ObjOk X.prog X.w H s.heap b (.tup xs) from I.hok b _ hb')
    refine go (.type "tuple") (fun A Q E s2 kp q => wpAny_typeOf_ref (kp _ _ h1) (by rw [h2]; exact q)) ?_
    unfold PySem.W.notFirst
    rw [ht]
    simp
theorem eqo_read {c f : Nat} {cd : CDef} {E : XK} {S : Store} {ρ : List Addr} {H : Hp} {σ : L2.St} {σd : Env} {Q : VK} (co : CallsOk U M G P fa cal k) (hf : P f = some cd) (xt : XT X E) (gd : Good M S ρ H) (er : ER M S ρ H σ σd) (h : PostG M G E S ρ H (ev G cal (.eqo c f a b) σd S) (KE M H Q)) :
    tOp (rEqO X.K (M.ca c) (spF M G cd.np (cal f)) E) (tEv X M G (ev G cal a)) (tEv X M G (ev G cal b)) σ H Q := by
  unfold ev at h
  refine two xt gd er h fun p q x y S2 ρ2 H2 n2 g2 hx hy h2 => ?_
  split at h2
  · split at h2
    · rename_i d e' hcl
      cases hx with
      | val hx =>
      cases hy with
      | val hy =>
      obtain ⟨fl, hfs⟩ := cls_fs hcl.1
      obtain ⟨b1, dx, fs, rfl, hb1, fr⟩ := fs_rep g2 hx hfs
      have hl : ∃ cd', P f = some cd' ∧ ([d, e'] : List D).length = cd'.np := co.np f _ S2 (PostG.bind g2 h2).ne_bad
      obtain ⟨cd', e3, e4⟩ := hl
      rw [hf] at e3
      cases e3
      have hsp : ∀ z, y = z → spF M G cd.np (cal f) [.ref b1, z] H2 (fun v H' => ∃ r, v = .bl r ∧ Q v H') E := fun z ez => by
        subst ez
        refine ⟨S2, ρ2, [d, e'], g2, .cons hx (.cons hy .nil), e4, (PostG.bind g2 h2).imp fun r S3 ρ3 H3 e5 n3 g3 h3 v rv => ?_⟩
        split at h3
        · cases rv
          exact ⟨_, rfl, h3.here g3 _ (.val (.bl _))⟩
        · exact h3.elim
      rcases hcl.2 with ht2 | ht2
      · cases e' with
        | tup xs =>
          cases hy with
          | tup h5 hz r5 => exact ⟨b1, dx, fs, _, rfl, rfl, hb1, .inr ⟨_, h5⟩, hsp _ rfl⟩
        | _ => cases ht2
      · obtain ⟨fl2, hfs2⟩ := cls_fs ht2
        obtain ⟨b2, dy, gs, rfl, hb2, _⟩ := fs_rep g2 hy hfs2
        exact ⟨b1, dx, fs, b2, rfl, rfl, hb1, .inl ⟨dy, gs, hb2⟩, hsp _ rfl⟩
    · exact h2.elim
  · exact h2.elim
theorem se_eqo {c f : Nat} {cd : CDef} (iu : Inn U X) (co : CallsOk U M G P fa cal k) (hf : P f = some cd) (hr : Room k X.A) (ha : SE X M G e (ev G cal a)) (hb : SE X M G o (ev G cal b))
    (hs : PySem.W.findIn U.K (.ref (M.ca c)) "__eq__" = some (some (.ref (fa f)))) (hfn : PySem.W.isFn U.K (.ref (fa f)) = true) (ht : PySem.W.subIn U.K (.type "tuple") (.ref (M.ca c)) = some false) (hm : behindInMarks .Eq o = false) :
    SE X M G (.Compare e [.Eq] [o] pos) (ev G cal (.eqo c f a b)) := by
  rw [← iu.K] at hs hfn ht
  refine ⟨fun pins s σ H Q I h => ?_⟩
  obtain ⟨E, S, ρ, σd, xt, gd, er, h⟩ := h
  obtain ⟨fd, ps, F, B⟩ := co.ok f cd hf
  refine (pe_cmpR (op_eqO (iu.fn F) hr hs hfn ht (iu.bi B) (passes_e iu xt)) ha hb hm).run pins s σ H Q I ?_
  exact eqo_read co hf xt gd er h
end
end DI
end

section
set_option Elab.async false
set_option linter.all false
set_option maxRecDepth 100000
/-! DILoop: what is walked, by data. -/
namespace DI
open PySem PySem.Spec L2
open PyProof.Rows hiding St
/-- J walks the data ds, as long as the guard is kept -/
structure Walk (M : Nm) (J : It) (ds : List D) (g : Grd) (S0 : Store) (ρ0 : List Addr) (H0 : Hp) : Prop where
  len : ds.length ≤ sizeLine
  at_ : ∀ S ρ H, Nx S0 ρ0 H0 S ρ H → Good M S ρ H → grdOk g S → ∀ i d, ds[i]? = some d → J.go i H ∧ ∀ x H', J.yld i H x H' → Nx S ρ H S ρ H' ∧ Good M S ρ H' ∧ VR M S ρ H' x d
  end_ : ∀ S ρ H, Nx S0 ρ0 H0 S ρ H → Good M S ρ H → grdOk g S → J.stop ds.length H
/-- what an iterable is to give -/
def tIv (X : Cx) (M : Nm) (G : Gx) (m : Env → Store → Res (List D × Grd)) : TI := fun σ H R => ∃ E S ρ σd, XT X E ∧ Good M S ρ H ∧ ER M S ρ H σ σd ∧ PostG M G E S ρ H (m σd S) fun w S' ρ' H' => ∀ J, Walk M J w.1 w.2 S' ρ' H' → R J H'
def SI (X : Cx) (M : Nm) (G : Gx) (tg iter : Expr) (m : Env → Store → Res (List D × Grd)) : Prop := PI X tg iter (tIv X M G m)
section
variable {X : Cx} {M : Nm} {G : Gx} {tg e e1 e2 e3 : Expr} {pos p : Pos} {ma mb mc : Env → Store → Res Sq}
theorem PI.imp {iter : Expr} {t t' : TI} (h : PI X tg iter t) (f : ∀ σ H R, t' σ H R → t σ H R) : PI X tg iter t' :=
  ⟨fun pins s σ H R I q => h.run pins s σ H R I (f σ H R q)⟩
theorem PE.imp {t t' : TE} (h : PE X e t) (f : ∀ σ H R, t' σ H R → t σ H R) : PE X e t' :=
  ⟨fun pins s σ H R I q => h.run pins s σ H R I (f σ H R q)⟩
theorem PT.imp {t t' : TT} (h : PT X e t) (f : ∀ σ H R, t' σ H R → t σ H R) : PT X e t' :=
  ⟨fun pins s σ H R I q => h.run pins s σ H R I (f σ H R q)⟩
/-- over lists and tuples -/
theorem walk_lst {K : PySem.W.Frag} {S : Store} {ρ : List Addr} {H : Hp} {a : Addr} {ds : List D} {g : Grd} (hz : ds.length ≤ sizeLine) (hq : ∀ S' ρ' H', Nx S ρ H S' ρ' H' → Good M S' ρ' H' → grdOk g S' → ∃ vs, SqL K H' a vs ∧ VRs M S' ρ' H' vs ds) : Walk M (Itl K a) ds g S ρ H := by
  refine ⟨hz, fun S' ρ' H' n g' gr i d hi => ?_, fun S' ρ' H' n g' gr => ?_⟩
  · obtain ⟨ws, q, r⟩ := hq S' ρ' H' n g' gr
    obtain ⟨v, e1, rv⟩ := r.get hi
    refine ⟨⟨ws, v, q, e1⟩, fun x H2 y => ?_⟩
    obtain ⟨rfl, y⟩ := y
    have := y ws q
    rw [e1] at this
    cases this
    exact ⟨Nx.refl, g', rv⟩
  · obtain ⟨ws, q, r⟩ := hq S' ρ' H' n g' gr
    exact ⟨ws, q, by rw [r.length]; exact Nat.le_refl _⟩
theorem walk_tup {K : PySem.W.Frag} {S : Store} {ρ : List Addr} {H : Hp} {a : Addr} {vs : List V} {ds : List D} {g : Grd} (gd : Good M S ρ H) (hz : vs.length ≤ sizeLine) (h : H a = some (.tup vs)) (r : VRs M S ρ H vs ds) : Walk M (Itt K a) ds g S ρ H := by
  have hk : ∀ {S' ρ' H'}, Nx S ρ H S' ρ' H' → H' a = some (.tup vs) := fun n => n.kept _ _ h fun l => gd.tup_free h l.mem
  refine ⟨by rw [← r.length]; exact hz, fun S' ρ' H' n g' gr i d hi => ?_, fun S' ρ' H' n g' gr => ?_⟩
  · obtain ⟨v, e1, rv⟩ := (r.nx n gd).get hi
    have q : SqT K H' a vs := .inl (.inl (hk n))
    refine ⟨⟨vs, v, q, e1⟩, fun x H2 y => ?_⟩
    obtain ⟨rfl, y⟩ := y
    have := y vs q
    rw [e1] at this
    cases this
    exact ⟨Nx.refl, g', rv⟩
  · exact ⟨vs, .inl (.inl (hk n)), by rw [r.length]; exact Nat.le_refl _⟩
/-- a value of the right kind -/
inductive SrcR (M : Nm) (K : PySem.W.Frag) (S : Store) (ρ : List Addr) (H : Hp) (x : V) (ds : List D) (g : Grd) : Prop where
  | tup {a : Addr} {vs : List V} (e : x = .ref a) (h : H a = some (.tup vs)) (hz : vs.length ≤ sizeLine) (r : VRs M S ρ H vs ds)
  | lst {a : Addr} (e : x = .ref a) (hl : ds.length ≤ sizeLine) (h : ∀ S' ρ' H', Nx S ρ H S' ρ' H' → Good M S' ρ' H' → grdOk g S' → ∃ vs, Rd H' a (.lst vs) ∧ VRs M S' ρ' H' vs ds)
theorem walk_grd {S : Store} {q : Sq} {w : List D × Grd} (h : walkOf S q = some w) : grdOk w.2 S := by
  unfold walkOf at h
  split at h
  · cases h; intro p hp; cases hp
  · cases h; intro p hp; cases hp
  · split at h
    · rename_i hc
      cases h; intro p hp
      rw [show p = _ by simpa using hp]
      exact .inl hc
    · rename_i hc
      cases h; intro p hp
      rw [show p = _ by simpa using hp]
      exact .inr hc
    · cases h
  · cases h
theorem src_rep {K : PySem.W.Frag} {H0 : Hp} {S : Store} {ρ : List Addr} {H : Hp} {x : V} {q : Sq} {w : List D × Grd} (g : Good M S ρ H) (r : SqR M H0 S ρ H x q) (h : walkOf S q = some w) : SrcR M K S ρ H x w.1 w.2 := by
  unfold walkOf at h
  split at h
  · cases h
    cases r with
    | val r => cases r with
      | tup h hz r => exact .tup rfl h hz r
  · cases h
    cases r with
    | fresh h hz r hn h0 =>
      refine .lst rfl (by rw [← r.length]; exact hz) fun S' ρ' H' n g' gr => ⟨_, .inl (n.kept _ _ h fun l => hn l.mem), r.nx n g⟩
  · rename_i n
    split at h
    · rename_i xs hc
      cases h
      cases r with
      | val r => cases r with
        | loc hr =>
          have hl : xs.length ≤ sizeLine := by
            cases g.cells _ _ _ hc hr with
            | lst h1 hz r => rw [← r.length]; exact hz
          refine .lst rfl hl fun S' ρ' H' nx g' gr => ?_
          rcases gr (n, xs) (by simp) with c | c
          · cases g'.cells _ _ _ c (nx.at hr) with
            | lst h1 hz r => exact ⟨_, .inl h1, r⟩
          · cases g'.cells _ _ _ c (nx.at hr) with
            | ro h1 hz r => exact ⟨_, h1, r⟩
    · rename_i xs hc
      cases h
      cases r with
      | val r => cases r with
        | loc hr =>
          have hl : xs.length ≤ sizeLine := by
            cases g.cells _ _ _ hc hr with
            | ro h1 hz r => rw [← r.length]; exact hz
          refine .lst rfl hl fun S' ρ' H' nx g' gr => ?_
          rcases gr (n, xs) (by simp) with c | c
          · cases g'.cells _ _ _ c (nx.at hr) with
            | lst h1 hz r => exact ⟨_, .inl h1, r⟩
          · cases g'.cells _ _ _ c (nx.at hr) with
            | ro h1 hz r => exact ⟨_, h1, r⟩
    · cases h
  · cases h
/-- over a value: a list or a tuple -/
theorem si_e {a : CE} {cal : Nat → List D → Store → Res D} (he : SE X M G e (ev G cal a)) : SI X M G tg e (evIt G cal (.e a)) := by
  refine ⟨fun pins s σ H R I h => ?_⟩
  have hi : PI X tg e (fun σ H R => tEv X M G (ev G cal a) σ H fun x H1 => (∃ a, x = .ref a ∧ (∃ xs, SqL X.K H1 a xs) ∧ R (Itl X.K a) H1) ∨ (∃ a, x = .ref a ∧ (∃ xs, SqT X.K H1 a xs) ∧ R (Itt X.K a) H1)) := by
    refine ⟨fun pins s σ H R I h => ?_⟩
    refine thn (he.run pins s σ H _ I h) fun v s1 ⟨x, H1, I1, r1, q1⟩ => ?_
    rcases q1 with ⟨a, rfl, ⟨xs, hq⟩, q⟩ | ⟨a, rfl, ⟨xs, hq⟩, q⟩
    · cases r1
      obtain ⟨its, rv, p, hz⟩ := I1.list hq
      refine wpAny_pyIter_list p.isList ?_
      exact pi_one (tk := s1.toks) I1 _ (turn_list a _) ⟨_, Heap.get?_push_size _ rfl, rfl, rfl⟩ q
    · cases r1
      obtain ⟨its, rv, p, hz⟩ := I1.tuple hq
      refine wpAny_pyIter_tuple (show s1.heap.IsTuple a its.toArray from p) ?_
      exact pi_one (tk := s1.toks) I1 _ (turn_tuple a _) ⟨_, Heap.get?_push_size _ rfl, rfl, rfl⟩ q
  refine hi.run pins s σ H R I ?_
  obtain ⟨E, S, ρ, σd, xt, gd, er, h⟩ := h
  unfold evIt at h
  refine ⟨E, S, ρ, σd, xt, gd, er, (PostG.bind gd h).imp fun p S1 ρ1 H1 e1 n1 g1 h1 x hx => ?_⟩
  obtain ⟨w, e2, h2⟩ := h1.lift_
  have h3 := h2.here g1
  cases src_rep (K := X.K) g1 hx e2 with
  | tup e h hz r => exact .inr ⟨_, e, ⟨_, .inl (.inl h)⟩, h3 _ (walk_tup g1 hz h r)⟩
  | lst e hl h =>
    by_cases gr : grdOk w.2 S1
    · obtain ⟨vs, q, r⟩ := h S1 ρ1 H1 Nx.refl g1 gr
      exact .inl ⟨_, e, ⟨vs, .inl q⟩, h3 _ (walk_lst hl fun S' ρ' H' n g' gr => let ⟨vs, q, r⟩ := h S' ρ' H' n g' gr; ⟨vs, .inl q, r⟩)⟩
    · exact absurd (walk_grd e2) gr
/-! ### range -/
theorem rngC_get {lo c : Int} {n i : Nat} {d : D} (h : (rngC lo c n)[i]? = some d) : i < n ∧ d = .int (lo + i * c) := by
  unfold rngC at h
  rw [List.getElem?_map] at h
  obtain ⟨k, hk, rfl⟩ := Option.map_eq_some_iff.mp h
  obtain ⟨h1, h2⟩ := List.getElem?_eq_some_iff.mp hk
  rw [List.length_range] at h1
  rw [List.getElem_range] at h2
  subst h2
  exact ⟨h1, rfl⟩
theorem rngL_get {lo : Int} {n i : Nat} {d : D} (h : (rngL lo n)[i]? = some d) : i < n ∧ d = .int (lo + i) := by
  unfold rngL at h
  rw [List.getElem?_map] at h
  obtain ⟨k, hk, rfl⟩ := Option.map_eq_some_iff.mp h
  obtain ⟨h1, h2⟩ := List.getElem?_eq_some_iff.mp hk
  rw [List.length_range] at h1
  rw [List.getElem_range] at h2
  subst h2
  exact ⟨h1, rfl⟩
@[simp] theorem rngL_length (lo : Int) (n : Nat) : (rngL lo n).length = n := by simp [rngL]
@[simp] theorem rngC_length (lo c : Int) (n : Nat) : (rngC lo c n).length = n := by simp [rngC]
theorem walk_rng {S : Store} {ρ : List Addr} {H : Hp} {lo : Int} {n : Nat} (hn : n ≤ sizeLine) : Walk M (Itr lo n) (rngL lo n) [] S ρ H := by
  refine ⟨by rw [rngL_length]; exact hn, fun S' ρ' H' nx g' gr i d hi => ?_, fun S' ρ' H' nx g' gr => by rw [rngL_length]; exact Nat.le_refl _⟩
  obtain ⟨h1, rfl⟩ := rngL_get hi
  exact ⟨h1, fun x H2 y => by obtain ⟨rfl, rfl⟩ := y; exact ⟨Nx.refl, g', .int _⟩⟩
theorem walk_rngC {S : Store} {ρ : List Addr} {H : Hp} {lo c : Int} {n : Nat} (hn : n ≤ sizeLine) : Walk M (Itc lo c n) (rngC lo c n) [] S ρ H := by
  refine ⟨by rw [rngC_length]; exact hn, fun S' ρ' H' nx g' gr i d hi => ?_, fun S' ρ' H' nx g' gr => by rw [rngC_length]; exact Nat.le_refl _⟩
  obtain ⟨h1, rfl⟩ := rngC_get hi
  exact ⟨h1, fun x H2 y => by obtain ⟨rfl, rfl⟩ := y; exact ⟨Nx.refl, g', .int _⟩⟩
section
variable {a b c : CE} {cal : Nat → List D → Store → Res D}
theorem si_rng1 (hg : Gl X "range") (hm : X.mg "range" = none) (hs : starB e1 = false) (ha : SE X M G e1 (ev G cal a)) : SI X M G tg (.Call (.Name "range" p) [e1] [] pos) (evIt G cal (.rng1 a)) := by
  refine ⟨fun pins s σ H R I h => (pi_range1 hg hm (pa_cons ha pa_nil (star_no hs)) (star_no hs)).run pins s σ H R I ?_⟩
  obtain ⟨E, S, ρ, σd, xt, gd, er, h⟩ := h
  unfold evIt at h
  refine ⟨E, S, ρ, σd, xt, gd, er, (PostG.bind gd h).imp fun p S1 ρ1 H1 e1 n1 g1 h1 x hx => ?_⟩
  split at h1
  · split at h1
    · rename_i j hj
      cases hx with
      | val hx =>
        cases hx
        exact ⟨j, rfl, hj.1.1, hj.1.2, h1.here g1 _ (walk_rng hj.2)⟩
    · exact h1.elim
  · exact h1.elim
theorem si_rng2 (hg : Gl X "range") (hm : X.mg "range" = none) (hs : starB e1 = false) (hs2 : starB e2 = false) (ha : SE X M G e1 (ev G cal a)) (hb : SE X M G e2 (ev G cal b)) :
    SI X M G tg (.Call (.Name "range" p) [e1, e2] [] pos) (evIt G cal (.rng2 a b)) := by
  refine ⟨fun pins s σ H R I h => (pi_range2 hg hm (pa_cons ha (pa_cons hb pa_nil (star_no hs2)) (star_no hs)) (by rw [star_no hs, star_no hs2]; rfl) (by rw [star_no hs2]; rfl)).run pins s σ H R I ?_⟩
  obtain ⟨E, S, ρ, σd, xt, gd, er, h⟩ := h
  unfold evIt at h
  refine ⟨E, S, ρ, σd, xt, gd, er, (PostG.bind gd h).imp fun p S1 ρ1 H1 e1 n1 g1 h1 x hx => ?_⟩
  refine ⟨E, S1, ρ1, σd, xt, g1, er.nx n1 gd, (PostG.bind g1 h1).imp fun q S2 ρ2 H2 e2 n2 g2 h2 y hy => ?_⟩
  split at h2
  · split at h2
    · rename_i i j hj
      have hx2 := hx.nx n2 g1
      cases hx2 with
      | val hx =>
      cases hy with
      | val hy =>
        cases hx
        cases hy
        exact ⟨i, j, rfl, ⟨hj.1.1, hj.1.2, hj.2.1.1, hj.2.1.2⟩, h2.here g2 _ (walk_rng hj.2.2)⟩
    · exact h2.elim
  · exact h2.elim
end
end
end DI
end

section
set_option Elab.async false
set_option linter.all false
set_option maxRecDepth 100000
/-! DIZip: zip and enumerate of lists and tuples, in any mixture. -/
namespace DI
open PySem PySem.Spec L2
open PyProof.Rows hiding St
/-- a list (true) or a tuple -/
def SqE (K : PySem.W.Frag) (H : Hp) (a : Addr) (xs : List V) : Bool → Prop
  | true => SqL K H a xs
  | false => SqT K H a xs
def HasE (h : Heap) (a : Addr) (its : Array Value) : Bool → Prop
  | true => h.IsList a its
  | false => h.IsTuple a its
def ItE (h : Heap) (j a : Addr) (i : Nat) : Bool → Prop
  | true => h.IsListIter j a i
  | false => h.IsTupleIter j a i
def objE (a : Addr) : Bool → Obj
  | true => { cls := .type "list_iterator", data := .fields #[.ref a, .int 0 0] }
  | false => { cls := .type "tuple_iterator", data := .fields #[.ref a, .int 0 0] }
theorem hasE {X : Cx} {pins : List (Addr × Obj)} {σ : L2.St} {H : Hp} {s : Shared} (I : Inv X pins σ H s) {a : Addr} {xs : List V} : ∀ {b : Bool}, SqE X.K H a xs b → ∃ its : List Value, Vals xs its ∧ HasE s.heap a its.toArray b
  | true, h => let ⟨its, r, p, _⟩ := I.list h; ⟨its, r, p.isList⟩
  | false, h => let ⟨its, r, p, _⟩ := I.tuple h; ⟨its, r, p⟩
theorem injE {X : Cx} {pins : List (Addr × Obj)} {σ : L2.St} {H : Hp} {s : Shared} (I : Inv X pins σ H s) {a : Addr} {xs ys : List V} : ∀ {b : Bool}, SqE X.K H a xs b → SqE X.K H a ys b → xs = ys
  | true, h, g => I.list_inj h g
  | false, h, g => I.tuple_inj h g
theorem ItE.live {h : Heap} {j a : Addr} {i : Nat} : ∀ {b : Bool}, ItE h j a i b → ∃ o, h.get? j = some o ∧ ∀ v, o.data ≠ .cell v
  | true, ⟨o, e, _, d⟩ => ⟨o, e, fun v q => by rw [d] at q; cases q⟩
  | false, ⟨o, e, _, d⟩ => ⟨o, e, fun v q => by rw [d] at q; cases q⟩
theorem ItE.lt {h : Heap} {j a : Addr} {i : Nat} {b : Bool} (q : ItE h j a i b) : j < h.objs.size := let ⟨_, e, _⟩ := q.live; Heap.lt_size e
theorem HasE.lt {h : Heap} {a : Addr} {its : Array Value} : ∀ {b : Bool}, HasE h a its b → a < h.objs.size
  | true, ⟨_, e, _⟩ => Heap.lt_size e
  | false, ⟨_, e, _⟩ => Heap.lt_size e
theorem ItE.at {h h' : Heap} {j a : Addr} {i : Nat} : ∀ {b : Bool}, ItE h j a i b → (∀ o, h.get? j = some o → h'.get? j = some o) → ItE h' j a i b
  | true, q, k => Heap.IsListIter.at q k
  | false, q, k => Heap.IsTupleIter.at q k
theorem ItE.new {h : Heap} {j a : Addr} : ∀ {b : Bool}, h.get? j = some (objE a b) → ItE h j a 0 b
  | true, e => ⟨_, e, rfl, rfl⟩
  | false, e => ⟨_, e, rfl, rfl⟩
theorem drawsE {prog : Program} {w : World} {A : Around} (hh : A.handled = none) (j a : Addr) (hne : a ≠ j) (its : Array Value) : ∀ b : Bool,
    Draws prog w A j [j, a] its.size (fun i v => its[i]? = some v) (fun i h => ItE h j a i b ∧ HasE h a its b)
  | true => Draws.list hh j a hne its
  | false => Draws.tuple hh j a hne its
theorem beginsE (a : Addr) (its : Array Value) : ∀ b : Bool, Begins (.ref a) (objE a b) fun h => HasE h a its b
  | true => begins_list a its
  | false => begins_tuple a its
/-! ### zip -/
def ItzE (K : PySem.W.Frag) (b c : Bool) (a a2 : Addr) : It :=
  ⟨fun i H => ∃ (xs ys : List V) (x y : V), SqE K H a xs b ∧ SqE K H a2 ys c ∧ xs[i]? = some x ∧ ys[i]? = some y,
    fun i H v H' => ∃ T x y, v = .ref T ∧ H T = none ∧ H' = upd H T (.tup [x, y]) ∧ (∀ xs, SqE K H a xs b → xs[i]? = some x) ∧ ∀ ys, SqE K H a2 ys c → ys[i]? = some y,
    fun i H => ∃ xs ys : List V, SqE K H a xs b ∧ SqE K H a2 ys c ∧ i ≤ xs.length ∧ i ≤ ys.length ∧ (i = xs.length ∨ i = ys.length)⟩
theorem nin2 {d x y : Nat} (h : d ≠ x ∧ d ≠ y) : d ∉ [x, y] := by simp [h.1, h.2]
theorem neN {d x : Nat} (h : d ≠ x) : d ≠ x := h
theorem sep5 {N a a2 : Nat} (la : a < N) (lb : a2 < N) : ZipSep2 (N + 4) (N + 2) (N + 3) N (N + 1) [N, a] [N + 1, a2] where
  TIz := neN (by omega)
  TOz := neN (by omega)
  TITO := neN (by omega)
  TIi1 := neN (by omega)
  mem1 := by simp
  zf1 := nin2 (by omega)
  Tf1 := nin2 (by omega)
  TIi2 := neN (by omega)
  mem2 := by simp
  zf2 := nin2 (by omega)
  Tf2 := nin2 (by omega)
  sep1_2 := nin2 (by omega)
  sep2_1 := nin2 (by omega)
theorem in5 {N d : Nat} (h : d ∈ [N + 4, N + 2, N + 3, N, N + 1]) : N ≤ d := by simp at h; omega
theorem in2 {N d : Nat} (h : d ∈ [N + 1, N]) : N ≤ d := by simp at h; omega
/-- what stands of a zip -/
structure ZipS (b c : Bool) (a a2 z TI TO j k : Addr) (i : Nat) (h : Heap) : Prop where
  zp : IsZip h z TI TO .none
  its : IsTupOf2 h TI (.ref j) (.ref k)
  old : ∃ x y, IsTupOf2 h TO x y
  one : ItE h j a i b
  two : ItE h k a2 i c
theorem zipE_turn {P : Program} {w : World} {K : PySem.W.Frag} {elts : List Expr} {kk : Nat} {tpos : Pos} {b c : Bool} {a a2 z TI TO j k : Addr} (D : ZipSep2 z TI TO j k [j, a] [k, a2]) (n1 : a ≠ j) (n2 : a2 ≠ k) :
    Turn P w K (.Tuple elts kk tpos) (ItzE K b c a a2) [z, TI, TO, j, k] z (ZipS b c a a2 z TI TO j k) where
  mem := by simp
  obj := fun i h st d hd => by
    obtain ⟨hz, hTI, ⟨x, y, hTO⟩, h1, h2⟩ := st
    have e' : d = z ∨ d = TI ∨ d = TO ∨ d = j ∨ d = k := by simpa using hd
    rcases e' with q | q | q | q | q
    · exact q ▸ ⟨_, hz, fun v q => nomatch q⟩
    · exact q ▸ ⟨_, hTI, fun v q => nomatch q⟩
    · exact q ▸ ⟨_, hTO, fun v q => nomatch q⟩
    · exact q ▸ h1.live
    · exact q ▸ h2.live
  keep := fun i h h' st kp => by
    obtain ⟨hz, hTI, ⟨x, y, hTO⟩, h1, h2⟩ := st
    exact ⟨kp z (by simp) _ hz, kp TI (by simp) _ hTI, ⟨x, y, kp TO (by simp) _ hTO⟩, h1.at fun o q => kp j (by simp) o q, h2.at fun o q => kp k (by simp) o q⟩
  item := by
    intro X e1 e2 e3 hc i pins s σ H E I hf st hg
    subst e1 e2 e3
    obtain ⟨hz, hTI, ⟨x0, y0, hTO⟩, h1, h2⟩ := st
    obtain ⟨xs, ys, x, y, hqx, hqy, hx, hy⟩ := hg
    obtain ⟨vx, rx, px⟩ := hasE I hqx
    obtain ⟨vy, ry, py⟩ := hasE I hqy
    obtain ⟨u, hu, ru⟩ := rx.get hx
    obtain ⟨v, hv, rv⟩ := ry.get hy
    have hzl : z < s.heap.objs.size := Heap.lt_size hz
    have lx : i < vx.toArray.size := by simpa using (List.getElem?_eq_some_iff.mp hu).1
    have ly : i < vy.toArray.size := by simpa using (List.getElem?_eq_some_iff.mp hv).1
    have hh : X.A.in1.handled = none := I.ok.hd hc
    refine wpAny_pyNext_zipD2_item D (drawsE hh j a n1 vx.toArray b) (drawsE hh k a2 n2 vy.toArray c) hz hTI hTO ⟨h1, px⟩ ⟨h2, py⟩ lx ly fun u1 v1 g tk p1 p2 z' TO' s1 s2 hT hsz hk => ?_
    have eu : u1 = u := by simpa [hu] using p1.symm
    have ev : v1 = v := by simpa [hv] using p2.symm
    subst eu ev
    refine ⟨_, rfl, wpAny_letOwnedTupleGo_zip (s := { s with heap := g, toks := tk }) z' fun g2 z2 sb => ?_⟩
    have hT2 : g2.get? s.heap.objs.size = some { cls := .type "tuple", data := .seq #[u1, v1] } := (sb.2 _ (Nat.ne_of_gt hzl)).trans hT
    have kp : ∀ d o, d ∉ [z, TI, TO, j, k] → s.heap.get? d = some o → g2.get? d = some o := fun d o hb q => by
      simp only [List.mem_cons, List.not_mem_nil, or_false, not_or] at hb
      exact (sb.2 d hb.1).trans (hk d o hb.1 hb.2.2.1 hb.2.2.2.1 hb.2.2.2.2 q)
    have I1 : Inv X pins σ (upd H s.heap.objs.size (.tup [x, y])) { s with heap := g2, toks := tk } :=
      I.turnedNew kp hf (Nat.le_refl _) ⟨by show 2 ≤ sizeLine; decide, [u1, v1], .cons ru (.cons rv .nil), ⟨_, hT2, rfl, _, rfl⟩⟩
    refine ⟨.ref s.heap.objs.size, _, I1, rfl, ⟨_, x, y, rfl, I.hok.fresh (Nat.le_refl _), rfl, fun l hl => by rw [injE I hl hqx]; exact hx, fun l hl => by rw [injE I hl hqy]; exact hy⟩, ⟨z2, ?_, ⟨_, _, sb.extBut _ _ D.TOz TO'⟩, ?_, ?_⟩, fun d hd => ?_⟩
    · exact sb.extBut _ _ D.TIz (hk _ _ D.TIz D.TITO D.TIi1 D.TIi2 hTI)
    · exact s1.1.at fun o q => sb.extBut _ _ D.zi1.symm q
    · exact s2.1.at fun o q => sb.extBut _ _ D.zi2.symm q
    · have hlt : d < s.heap.objs.size := by
        have e' : d = z ∨ d = TI ∨ d = TO ∨ d = j ∨ d = k := by simpa using hd
        rcases e' with q | q | q | q | q
        · exact q ▸ hzl
        · exact q ▸ Heap.lt_size hTI
        · exact q ▸ Heap.lt_size hTO
        · exact q ▸ h1.lt
        · exact q ▸ h2.lt
      rw [upd_ne (Nat.ne_of_lt hlt)]
      exact (hf d hd).1
  done := by
    intro X e1 e2 e3 hc i pins s σ H E I hf st hg
    subst e1 e2 e3
    obtain ⟨hz, hTI, ⟨x0, y0, hTO⟩, h1, h2⟩ := st
    obtain ⟨xs, ys, hqx, hqy, l1, l2, hend⟩ := hg
    obtain ⟨vx, rx, px⟩ := hasE I hqx
    obtain ⟨vy, ry, py⟩ := hasE I hqy
    have q1 := rx.length
    have q2 := ry.length
    have hh : X.A.in1.handled = none := I.ok.hd hc
    refine wpAny_pyNext_zipD2_end D (drawsE hh j a n1 vx.toArray b) (drawsE hh k a2 n2 vy.toArray c) hz hTI hTO ⟨h1, px⟩ ⟨h2, py⟩ (by simp; omega) (by simp; omega) (by simp; omega) fun g tk hk => ⟨rfl, ?_⟩
    refine I.turnedL (ch := [z, TI, TO, j, k]) (fun d o hb q => ?_) hf
    simp only [List.mem_cons, List.not_mem_nil, or_false, not_or] at hb
    exact hk d o hb.1 hb.2.2.1 hb.2.2.2.1 hb.2.2.2.2 q
  self := fun A i s Q E st h => wpAny_pyIter_zip st.zp h
def iZipE (K : PySem.W.Frag) (ta : TA) : TI := fun σ H R => ta σ H fun vs H1 => ∃ a a2 b c xs ys, vs = [.ref a, .ref a2] ∧ SqE K H1 a xs b ∧ SqE K H1 a2 ys c ∧ R (ItzE K b c a a2) H1
theorem pi_zipE {X : Cx} {e e2 : Expr} {ta : TA} {p pos tpos : Pos} {elts : List Expr} {kk : Nat} (hg : Gl X "zip") (hm : X.mg "zip" = none) (ha : PA X [e, e2] ta)
    (h1 : starEach [e, e2] X.env = (false, eval e X.env) :: starEach [e2] X.env) (h2 : (backTo pos (starEach [e2] X.env)).any (·.1) = false) :
    PI X (.Tuple elts kk tpos) (.Call (.Name "zip" p) [e, e2] [] pos) (iZipE X.K ta) := by
  refine ⟨fun pins s σ H R I h => Call_ (ld_blt I hg hm PyProof.Rows.boot_zip (PyProof.Rows.callWith_type1 (thn (ha.run pos pins s σ H _ I h) fun us s1 ⟨vs, H1, I1, r1, q1⟩ => ?_) h1 h2))⟩
  obtain ⟨a, a2, b, c, xs, ys, rfl, hqx, hqy, q⟩ := q1
  cases r1 with
  | cons r rr =>
  cases rr with
  | cons r' rr =>
    cases rr
    cases r
    cases r'
    obtain ⟨vx, rx, px⟩ := hasE I1 hqx
    obtain ⟨vy, ry, py⟩ := hasE I1 hqy
    have la := px.lt
    have lb := py.lt
    refine zip_begins2 (beginsE a vx.toArray b) (beginsE a2 vy.toArray c) px py fun g hz hTI hTO hj hk hsz hkeep => wpAny_pyIter_zip hz ?_
    have I2 : Inv X pins σ H1 { s1 with heap := g } := I1.kept (t' := s1.toks) hkeep
    generalize hN : s1.heap.objs.size = N at *
    refine ⟨N + 4, [N + 4, N + 2, N + 3, N, N + 1], _, _, H1, rfl, I2, zipE_turn (sep5 la lb) (Nat.ne_of_lt la) (Nat.ne_of_lt (Nat.lt_succ_of_lt lb)), ⟨hz, hTI, ⟨_, _, hTO⟩, .new hj, .new hk⟩, fun d hd => ?_, q⟩
    have hle : s1.heap.objs.size ≤ d := by rw [hN]; exact in5 hd
    exact I1.fpOk hle (I1.hok.fresh hle)
/-! ### enumerate -/
def IteE (K : PySem.W.Frag) (b : Bool) (a : Addr) : It :=
  ⟨fun i H => ∃ (xs : List V) (x : V), SqE K H a xs b ∧ xs[i]? = some x, fun i H v H' => ∃ T x, v = .ref T ∧ H T = none ∧ H' = upd H T (.tup [.int (i : Nat), x]) ∧ ∀ xs, SqE K H a xs b → xs[i]? = some x, fun i H => ∃ xs : List V, SqE K H a xs b ∧ xs.length = i⟩
theorem enumE_turn {P : Program} {w : World} {K : PySem.W.Frag} {elts : List Expr} {kk : Nat} {tpos : Pos} {b : Bool} {a e j : Addr} (ne : e ≠ j) (na : a ≠ j) (nea : e ≠ a) :
    Turn P w K (.Tuple elts kk tpos) (IteE K b a) [e, j] e (fun i h => (∃ old, IsEnum h e j ((i : Nat) : Int) old) ∧ ItE h j a i b) where
  mem := by simp
  obj := fun i h st d hd => by
    obtain ⟨⟨old, he⟩, hj⟩ := st
    have e' : d = e ∨ d = j := by simpa using hd
    rcases e' with q | q
    · exact q ▸ ⟨_, he, fun v q => nomatch q⟩
    · exact q ▸ hj.live
  keep := fun i h h' st kp => let ⟨⟨old, he⟩, hj⟩ := st; ⟨⟨old, kp e (by simp) _ he⟩, hj.at fun o q => kp j (by simp) o q⟩
  item := by
    intro X e1 e2 e3 hc i pins s σ H E I hf st hg
    subst e1 e2 e3
    obtain ⟨⟨old, he⟩, hj⟩ := st
    obtain ⟨xs, x, hq, hx⟩ := hg
    obtain ⟨vx, rx, px⟩ := hasE I hq
    obtain ⟨u, hu, ru⟩ := rx.get hx
    have hel : e < s.heap.objs.size := Heap.lt_size he
    have lx : i < vx.toArray.size := by simpa using (List.getElem?_eq_some_iff.mp hu).1
    have hh : X.A.in1.handled = none := I.ok.hd hc
    refine wpAny_pyNext_enum_itemD (drawsE hh j a na vx.toArray b) he ⟨hj, px⟩ lx ne (by simp [ne, nea]) fun u1 g tk p1 ho s1 hT hsz hk => ?_
    have eu : u1 = u := by simpa [hu] using p1.symm
    subst eu
    refine ⟨_, rfl, wpAny_letOwnedTupleGo_enum (s := { s with heap := g, toks := tk + 1 }) ho fun g2 he' sb => ?_⟩
    have hT2 : g2.get? s.heap.objs.size = some { cls := .type "tuple", data := .seq #[.int i tk, u1] } := (sb.2 _ (Nat.ne_of_gt hel)).trans hT
    have kp : ∀ d o, d ∉ [e, j] → s.heap.get? d = some o → g2.get? d = some o := fun d o hb q => by
      simp only [List.mem_cons, List.not_mem_nil, or_false, not_or] at hb
      exact (sb.2 d hb.1).trans (hk d o hb.1 hb.2 q)
    have I1 : Inv X pins σ (upd H s.heap.objs.size (.tup [.int (i : Nat), x])) { s with heap := g2, toks := tk + 1 } :=
      I.turnedNew kp hf (Nat.le_refl _) ⟨by show 2 ≤ sizeLine; decide, [.int i tk, u1], .cons ⟨_, rfl⟩ (.cons ru .nil), ⟨_, hT2, rfl, _, rfl⟩⟩
    refine ⟨.ref s.heap.objs.size, _, I1, rfl, ⟨_, x, rfl, I.hok.fresh (Nat.le_refl _), rfl, fun ys hy => by rw [injE I hy hq]; exact hx⟩, ⟨⟨u1, ?_⟩, s1.1.at fun o q => (sb.2 j (Ne.symm ne)).trans q⟩, fun d hd => ?_⟩
    · have ec : ((i + 1 : Nat) : Int) = (i : Int) + 1 := by omega
      rw [ec]; exact he'
    · have hlt : d < s.heap.objs.size := by
        have e' : d = e ∨ d = j := by simpa using hd
        rcases e' with q | q
        · exact q ▸ hel
        · exact q ▸ hj.lt
      rw [upd_ne (Nat.ne_of_lt hlt)]
      exact (hf d hd).1
  done := by
    intro X e1 e2 e3 hc i pins s σ H E I hf st hg
    subst e1 e2 e3
    obtain ⟨⟨old, he⟩, hj⟩ := st
    obtain ⟨xs, hq, hx⟩ := hg
    obtain ⟨vx, rx, px⟩ := hasE I hq
    have hl := rx.length
    have hh : X.A.in1.handled = none := I.ok.hd hc
    have hi : i = vx.toArray.size := by simp; omega
    obtain ⟨f0, f1, f2, f3, f4, f5⟩ := hf j (by simp)
    refine wpAny_pyNext_enum_endD (drawsE hh j a na vx.toArray b) he (by rw [← hi]; exact ⟨hj, px⟩) fun g eb => ⟨rfl, I.turned (t' := s.toks) (fun d o hb q => eb d o hb q) f0 f1 f3 f4 f5⟩
  self := fun A i s Q E st h => let ⟨⟨_, he⟩, _⟩ := st; wpAny_pyIter_enum he h
theorem meets_enumE {v : Value} {o : Obj} {H : Heap → Prop} (B : Begins v o H) :
    Meets (Builtin.«enumerate.__new__» ⟨[.type "enumerate", v], []⟩) (fun _ R s => H s.heap ∧
      R (.ok (.ret (.ref (s.heap.push o).objs.size))) { s with heap := (s.heap.push o).push { cls := .type "enumerate", data := .fields #[.none, .bool false, .ref s.heap.objs.size, rawInt 0, .none, .none] } }) :=
  .of_wp fun prog w A R s ⟨h1, h⟩ => by
    obtain ⟨hp, g, d, tk, os⟩ := s
    have hsub := sub_enumerate
    have it : ∀ {A' : Around} {E : Value → Shared → Prop} {Q : Value → Shared → Prop}, Q (.ref hp.objs.size) ⟨hp.push o, g, d, tk, os⟩ → wpAny (model prog w) A' (pyIter v) Q E ⟨hp, g, d, tk, os⟩ :=
      fun q => B.iter prog w _ _ ⟨hp, g, d, tk, os⟩ _ h1 q
    wp_walk using it
    refine wpAny_stack_any fun st => wpAny_pure ?_
    split
    · rename_i c _ _ _ _ _
      cases (c == Value.type "enumerate") <;> (wp_walk using it; exact ⟨_, rfl, h⟩)
    · wp_walk using it
      exact ⟨_, rfl, h⟩
def iEnumE (K : PySem.W.Frag) (ta : TA) : TI := fun σ H R => ta σ H fun vs H1 => ∃ a b xs, vs = [.ref a] ∧ SqE K H1 a xs b ∧ R (IteE K b a) H1
theorem pi_enumE {X : Cx} {e : Expr} {ta : TA} {p pos tpos : Pos} {elts : List Expr} {kk : Nat} (hg : Gl X "enumerate") (hm : X.mg "enumerate" = none) (ha : PA X [e] ta) (hs : starEach [e] X.env = [(false, eval e X.env)]) :
    PI X (.Tuple elts kk tpos) (.Call (.Name "enumerate" p) [e] [] pos) (iEnumE X.K ta) := by
  refine ⟨fun pins s σ H R I h => Call_ (ld_blt I hg hm boot_enumerate (PyProof.Rows.callWith_type1 (thn (ha.run pos pins s σ H _ I h) fun us s1 ⟨vs, H1, I1, r1, q1⟩ => ?_) hs rfl))⟩
  obtain ⟨a, b, xs, rfl, hq, q⟩ := q1
  cases r1 with
  | cons r rr =>
    cases rr
    cases r
    obtain ⟨vx, rx, px⟩ := hasE I1 hq
    have la := px.lt
    have hz : (s1.heap.push (objE a b)).objs.size = s1.heap.objs.size + 1 := Heap.size_push ..
    refine callType_new F.called_enumerate (by decide) (F.typeCall_enumerate_1 _) (F.newCall_enumerate_1 _) (fun obj => F.args_object_init_2 obj _) F.entry_enumerate_new (meets_enumE (beginsE a vx.toArray b)) ⟨px, ?_⟩
    show _ ∧ _
    rw [hz]
    have he : IsEnum ((s1.heap.push (objE a b)).push { cls := .type "enumerate", data := .fields #[.none, .bool false, .ref s1.heap.objs.size, rawInt 0, .none, .none] }) (s1.heap.objs.size + 1) s1.heap.objs.size 0 .none := by
      have := Heap.get?_push_size (s1.heap.push (objE a b)) (o := { cls := .type "enumerate", data := .fields #[.none, .bool false, .ref s1.heap.objs.size, rawInt 0, .none, .none] }) rfl
      rwa [hz] at this
    refine ⟨⟨_, he, rfl⟩, wpAny_pyIter_enum he ?_⟩
    have hj : ((s1.heap.push (objE a b)).push { cls := .type "enumerate", data := .fields #[.none, .bool false, .ref s1.heap.objs.size, rawInt 0, .none, .none] }).get? s1.heap.objs.size = some (objE a b) :=
      Heap.get?_push_of_some _ (Heap.get?_push_size _ (by cases b <;> rfl))
    refine ⟨s1.heap.objs.size + 1, [s1.heap.objs.size + 1, s1.heap.objs.size], _, _, H1, rfl, I1.kept (t' := s1.toks) fun d o x => Heap.get?_push_of_some _ (Heap.get?_push_of_some _ x), enumE_turn (e := s1.heap.objs.size + 1) (j := s1.heap.objs.size) (Nat.succ_ne_self _) (Nat.ne_of_lt la) (Nat.ne_of_gt (Nat.lt_succ_of_lt la)), ⟨⟨_, he⟩, .new hj⟩, fun d hd => ?_, q⟩
    have hle : s1.heap.objs.size ≤ d := in2 hd
    exact I1.fpOk hle (I1.hok.fresh hle)
/-! ### by data -/
theorem src_uni {M : Nm} {K : PySem.W.Frag} {S : Store} {ρ : List Addr} {H : Hp} {x : V} {ds : List D} {g : Grd} (gd : Good M S ρ H) (h : SrcR M K S ρ H x ds g) :
    ∃ b a, x = .ref a ∧ ds.length ≤ sizeLine ∧ ∀ S' ρ' H', Nx S ρ H S' ρ' H' → Good M S' ρ' H' → grdOk g S' → ∃ vs, SqE K H' a vs b ∧ VRs M S' ρ' H' vs ds := by
  cases h with
  | tup e h hz r => exact ⟨false, _, e, by rw [← r.length]; exact hz, fun S' ρ' H' n g' gr => ⟨_, .inl (.inl (n.kept _ _ h fun l => gd.tup_free h l.mem)), r.nx n gd⟩⟩
  | lst e hl h => exact ⟨true, _, e, hl, fun S' ρ' H' n g' gr => let ⟨vs, q, r⟩ := h S' ρ' H' n g' gr; ⟨vs, .inl q, r⟩⟩
theorem zipD_get : ∀ {xs ys : List D} {i : Nat} {d : D}, (zipD xs ys)[i]? = some d → ∃ x y, xs[i]? = some x ∧ ys[i]? = some y ∧ d = .tup [x, y]
  | x :: xs, y :: ys, 0, d, h => by simp [zipD] at h; exact ⟨x, y, rfl, rfl, h.symm⟩
  | x :: xs, y :: ys, i + 1, d, h => by
    obtain ⟨x', y', e1, e2, e3⟩ := zipD_get (i := i) (by simpa [zipD] using h)
    exact ⟨x', y', by simpa using e1, by simpa using e2, e3⟩
  | [], _, _, _, h => by simp [zipD] at h
  | _ :: _, [], _, _, h => by simp [zipD] at h
theorem zipD_len : ∀ {xs ys : List D}, (zipD xs ys).length = min xs.length ys.length
  | x :: xs, y :: ys => by simp [zipD, zipD_len (xs := xs) (ys := ys)]
  | [], _ => by simp [zipD]
  | _ :: _, [] => by simp [zipD]
theorem enumD_get : ∀ {xs : List D} {k : Int} {i : Nat} {d : D}, (enumD k xs)[i]? = some d → ∃ x, xs[i]? = some x ∧ d = .tup [.int (k + i), x]
  | x :: xs, k, 0, d, h => by simp [enumD] at h; exact ⟨x, rfl, by simpa using h.symm⟩
  | x :: xs, k, i + 1, d, h => by
    obtain ⟨x', e1, e2⟩ := enumD_get (i := i) (k := k + 1) (by simpa [enumD] using h)
    refine ⟨x', by simpa using e1, ?_⟩
    rw [e2]
    congr 3
    omega
  | [], _, _, _, h => by simp [enumD] at h
theorem enumD_len : ∀ {xs : List D} {k : Int}, (enumD k xs).length = xs.length
  | x :: xs, k => by simp [enumD, enumD_len (xs := xs)]
  | [], _ => rfl
theorem pairT {M : Nm} {S : Store} {ρ : List Addr} {H : Hp} {T : Addr} {x y : V} {d e : D} (g : Good M S ρ H) (hT : H T = none) (rx : VR M S ρ H x d) (ry : VR M S ρ H y e) :
    Nx S ρ H S ρ (upd H T (.tup [x, y])) ∧ Good M S ρ (upd H T (.tup [x, y])) ∧ VR M S ρ (upd H T (.tup [x, y])) (.ref T) (.tup [d, e]) :=
  ⟨Nx.alloc g hT, g.alloc hT, VR.newTup g hT (by show 2 ≤ sizeLine; decide) (.cons rx (.cons ry .nil))⟩
theorem walk_zip {M : Nm} {K : PySem.W.Frag} {S : Store} {ρ : List Addr} {H : Hp} {b c : Bool} {a a2 : Addr} {ds es : List D} {g g2 : Grd} (hz : ds.length ≤ sizeLine)
    (h1 : ∀ S' ρ' H', Nx S ρ H S' ρ' H' → Good M S' ρ' H' → grdOk g S' → ∃ vs, SqE K H' a vs b ∧ VRs M S' ρ' H' vs ds)
    (h2 : ∀ S' ρ' H', Nx S ρ H S' ρ' H' → Good M S' ρ' H' → grdOk g2 S' → ∃ vs, SqE K H' a2 vs c ∧ VRs M S' ρ' H' vs es) : Walk M (ItzE K b c a a2) (zipD ds es) (g ++ g2) S ρ H := by
  have sp : ∀ {S'}, grdOk (g ++ g2) S' → grdOk g S' ∧ grdOk g2 S' := fun gr => ⟨fun p hp => gr p (List.mem_append_left _ hp), fun p hp => gr p (List.mem_append_right _ hp)⟩
  refine ⟨by rw [zipD_len]; omega, fun S' ρ' H' n g' gr i d hi => ?_, fun S' ρ' H' n g' gr => ?_⟩
  · obtain ⟨us, qu, ru⟩ := h1 S' ρ' H' n g' (sp gr).1
    obtain ⟨vs, qv, rv⟩ := h2 S' ρ' H' n g' (sp gr).2
    obtain ⟨x, y, hx, hy, rfl⟩ := zipD_get hi
    obtain ⟨u, e1, r1⟩ := ru.get hx
    obtain ⟨v, e2, r2⟩ := rv.get hy
    refine ⟨⟨us, vs, u, v, qu, qv, e1, e2⟩, fun z H2 ⟨T, x2, y2, ez, hT, eH, f1, f2⟩ => ?_⟩
    have := f1 us qu
    rw [e1] at this
    cases this
    have := f2 vs qv
    rw [e2] at this
    cases this
    subst ez eH
    exact pairT g' hT r1 r2
  · obtain ⟨us, qu, ru⟩ := h1 S' ρ' H' n g' (sp gr).1
    obtain ⟨vs, qv, rv⟩ := h2 S' ρ' H' n g' (sp gr).2
    have l1 := ru.length
    have l2 := rv.length
    exact ⟨us, vs, qu, qv, by rw [zipD_len]; omega, by rw [zipD_len]; omega, by rw [zipD_len]; omega⟩
theorem walk_enum {M : Nm} {K : PySem.W.Frag} {S : Store} {ρ : List Addr} {H : Hp} {b : Bool} {a : Addr} {ds : List D} {g : Grd} (hz : ds.length ≤ sizeLine)
    (h1 : ∀ S' ρ' H', Nx S ρ H S' ρ' H' → Good M S' ρ' H' → grdOk g S' → ∃ vs, SqE K H' a vs b ∧ VRs M S' ρ' H' vs ds) : Walk M (IteE K b a) (enumD 0 ds) g S ρ H := by
  refine ⟨by rw [enumD_len]; exact hz, fun S' ρ' H' n g' gr i d hi => ?_, fun S' ρ' H' n g' gr => ?_⟩
  · obtain ⟨us, qu, ru⟩ := h1 S' ρ' H' n g' gr
    obtain ⟨x, hx, rfl⟩ := enumD_get hi
    obtain ⟨u, e1, r1⟩ := ru.get hx
    refine ⟨⟨us, u, qu, e1⟩, fun z H2 ⟨T, x2, ez, hT, eH, f1⟩ => ?_⟩
    have := f1 us qu
    rw [e1] at this
    cases this
    subst ez eH
    have := pairT g' hT (.int ((0 : Int) + (i : Nat))) r1
    simpa using this
  · obtain ⟨us, qu, ru⟩ := h1 S' ρ' H' n g' gr
    exact ⟨us, qu, by rw [enumD_len]; exact ru.length⟩
section
variable {X : Cx} {M : Nm} {G : Gx} {e1 e2 : Expr} {pos p tpos : Pos} {elts : List Expr} {kk : Nat} {a b : CE} {cal : Nat → List D → Store → Res D}
theorem si_zip (hg : Gl X "zip") (hm : X.mg "zip" = none) (hs : starB e1 = false) (hs2 : starB e2 = false) (ha : SE X M G e1 (ev G cal a)) (hb : SE X M G e2 (ev G cal b)) :
    SI X M G (.Tuple elts kk tpos) (.Call (.Name "zip" p) [e1, e2] [] pos) (evIt G cal (.zip a b)) := by
  refine ⟨fun pins s σ H R I h => (pi_zipE hg hm (pa_cons ha (pa_cons hb pa_nil (star_no hs2)) (star_no hs)) (by rw [star_no hs]) (by rw [star_no hs2]; rfl)).run pins s σ H R I ?_⟩
  obtain ⟨E, S, ρ, σd, xt, gd, er, h⟩ := h
  unfold evIt at h
  refine ⟨E, S, ρ, σd, xt, gd, er, (PostG.bind gd h).imp fun p S1 ρ1 H1 e1 n1 g1 h1 x hx => ?_⟩
  refine ⟨E, S1, ρ1, σd, xt, g1, er.nx n1 gd, (PostG.bind g1 h1).imp fun q S2 ρ2 H2 e2 n2 g2 h2 y hy => ?_⟩
  split at h2
  · rename_i xs g xs2 g' w1 w2
    obtain ⟨b1, a1, rfl, l1, s1⟩ := src_uni g2 (src_rep (K := X.K) g2 (hx.nx n2 g1) w1)
    obtain ⟨b2, a2, rfl, l2, s2⟩ := src_uni g2 (src_rep (K := X.K) g2 hy w2)
    obtain ⟨us, q1, _⟩ := s1 S2 ρ2 H2 Nx.refl g2 (walk_grd w1)
    obtain ⟨vs, q2, _⟩ := s2 S2 ρ2 H2 Nx.refl g2 (walk_grd w2)
    exact ⟨a1, a2, b1, b2, us, vs, rfl, q1, q2, h2.here g2 _ (walk_zip l1 s1 s2)⟩
  · exact h2.elim
theorem si_enum (hg : Gl X "enumerate") (hm : X.mg "enumerate" = none) (hs : starB e1 = false) (ha : SE X M G e1 (ev G cal a)) :
    SI X M G (.Tuple elts kk tpos) (.Call (.Name "enumerate" p) [e1] [] pos) (evIt G cal (.enum a)) := by
  refine ⟨fun pins s σ H R I h => (pi_enumE hg hm (pa_cons ha pa_nil (star_no hs)) (by rw [star_no hs]; rfl)).run pins s σ H R I ?_⟩
  obtain ⟨E, S, ρ, σd, xt, gd, er, h⟩ := h
  unfold evIt at h
  refine ⟨E, S, ρ, σd, xt, gd, er, (PostG.bind gd h).imp fun p S1 ρ1 H1 e1 n1 g1 h1 x hx => ?_⟩
  obtain ⟨w, e2, h2⟩ := (PostG.bind g1 h1).lift_
  have h2 := h2.here g1
  obtain ⟨b1, a1, rfl, l1, s1⟩ := src_uni g1 (src_rep (K := X.K) g1 hx e2)
  obtain ⟨us, q1, _⟩ := s1 S1 ρ1 H1 Nx.refl g1 (walk_grd e2)
  exact ⟨a1, b1, us, rfl, q1, h2.here g1 _ (walk_enum l1 s1)⟩
theorem si_rng3 {e3 : Expr} {d : CE} {tg : Expr} (hg : Gl X "range") (hm : X.mg "range" = none) (hs : starB e1 = false) (hs2 : starB e2 = false) (hs3 : starB e3 = false) (ha : SE X M G e1 (ev G cal a)) (hb : SE X M G e2 (ev G cal b)) (hd : SE X M G e3 (ev G cal d)) :
    SI X M G tg (.Call (.Name "range" p) [e1, e2, e3] [] pos) (evIt G cal (.rng3 a b d)) := by
  refine ⟨fun pins s σ H R I h => (pi_range3 hg hm (pa_cons ha (pa_cons hb (pa_cons hd pa_nil (star_no hs3)) (star_no hs2)) (star_no hs)) (by rw [star_no hs]) (by rw [star_no hs2, star_no hs3]; rfl)).run pins s σ H R I ?_⟩
  obtain ⟨E, S, ρ, σd, xt, gd, er, h⟩ := h
  unfold evIt at h
  refine ⟨E, S, ρ, σd, xt, gd, er, (PostG.bind gd h).imp fun p S1 ρ1 H1 e1 n1 g1 h1 x hx => ?_⟩
  refine ⟨E, S1, ρ1, σd, xt, g1, er.nx n1 gd, (PostG.bind g1 h1).imp fun q S2 ρ2 H2 e2 n2 g2 h2 y hy => ?_⟩
  refine ⟨E, S2, ρ2, σd, xt, g2, (er.nx n1 gd).nx n2 g1, (PostG.bind g2 h2).imp fun r S3 ρ3 H3 e3 n3 g3 h3 w hw => ?_⟩
  split at h3
  · split at h3
    · rename_i i j k hj
      have hx3 := (hx.nx n2 g1).nx n3 g2
      have hy3 := hy.nx n3 g2
      cases hx3 with
      | val hx =>
      cases hy3 with
      | val hy =>
      cases hw with
      | val hw =>
        cases hx
        cases hy
        cases hw
        obtain ⟨q1, q2, rfl, q4⟩ := hj
        exact ⟨i, j, -1, _, rfl, RgC.neg q1.1 q1.2 q2.1 q2.2, h3.here g3 _ (walk_rngC q4)⟩
    · exact h3.elim
  · exact h3.elim
end
end DI
end

section
set_option Elab.async false
set_option linter.all false
set_option maxRecDepth 100000
/-! DIStm: statements. -/
namespace DI
open PySem PySem.Spec L2
open PyProof.Rows hiding St
def PostS (M : Nm) (G : Gx) (E : XK) (S : Store) (ρ : List Addr) (H : Hp) (r : SRes) (D : Ends) : Prop := match r with
  | .nx σd S' => ∀ ρ' H' σ', Nx S ρ H S' ρ' H' → Good M S' ρ' H' → ER M S' ρ' H' σ' σd → D.nx σ' H'
  | .bk σd S' => ∀ ρ' H' σ', Nx S ρ H S' ρ' H' → Good M S' ρ' H' → ER M S' ρ' H' σ' σd → D.bk σ' H'
  | .ct σd S' => ∀ ρ' H' σ', Nx S ρ H S' ρ' H' → Good M S' ρ' H' → ER M S' ρ' H' σ' σd → D.ct σ' H'
  | .rt d S' => ∀ ρ' H' v, Nx S ρ H S' ρ' H' → Good M S' ρ' H' → VR M S' ρ' H' v d → D.rt v H'
  | .ex c d S' => ∀ ρ' H' v dx, Nx S ρ H S' ρ' H' → Good M S' ρ' H' → VR M S' ρ' H' v d → H' dx = some (.xd [(M.an (G.xattr c), v)]) → E (.ref (M.ca c)) (some dx) H'
  | .bad => False
section
variable {M : Nm} {G : Gx} {E : XK} {S S1 : Store} {ρ ρ1 : List Addr} {H H1 : Hp} {D D' : Ends}
theorem PostS.later {r : SRes} (g : Good M S ρ H) (g1 : Good M S1 ρ1 H1) (x : Nx S ρ H S1 ρ1 H1) (h : PostS M G E S ρ H r D) : PostS M G E S1 ρ1 H1 r D := by
  cases r with
  | nx σ S' => exact fun ρ' H' σ' y g' => h ρ' H' σ' (x.trans g g1 y) g'
  | bk σ S' => exact fun ρ' H' σ' y g' => h ρ' H' σ' (x.trans g g1 y) g'
  | ct σ S' => exact fun ρ' H' σ' y g' => h ρ' H' σ' (x.trans g g1 y) g'
  | rt d S' => exact fun ρ' H' v y g' => h ρ' H' v (x.trans g g1 y) g'
  | ex c d S' => exact fun ρ' H' v dx y g' => h ρ' H' v dx (x.trans g g1 y) g'
  | bad => exact h
theorem PostG.st {α : Type} {r : Res α} {f : α → Store → SRes} (g : Good M S ρ H) (h : PostS M G E S ρ H (r.st f) D) : PostG M G E S ρ H r fun a S1 ρ1 H1 => PostS M G E S1 ρ1 H1 (f a S1) D := by
  cases r with
  | ok a S' => exact fun ρ' H' x g' => PostS.later g g' x h
  | exc c d S' => exact h
  | bad => exact h
theorem PostG.st0 {α : Type} {r : Res α} {f : α → Store → SRes} (h : PostS M G E S ρ H (r.st f) D) : PostG M G E S ρ H r fun a S1 _ _ => PostS M G E S ρ H (f a S1) D := by
  cases r with
  | ok a S' => exact fun ρ' H' x g' => h
  | exc c d S' => exact h
  | bad => exact h
theorem PostS.nx_ {σd : Env} {σ : L2.St} (g : Good M S ρ H) (er : ER M S ρ H σ σd) (h : PostS M G E S ρ H (.nx σd S) D) : D.nx σ H := h ρ H σ Nx.refl g er
theorem lift_st {α : Type} {o : Option α} {f : α → Store → SRes} (h : PostS M G E S ρ H ((lift o S).st f) D) : ∃ a, o = some a ∧ PostS M G E S ρ H (f a S) D := by
  cases o with
  | none => exact h.elim
  | some a => exact ⟨a, rfl, h⟩
end
def tSv (X : Cx) (M : Nm) (G : Gx) (m : Env → Store → SRes) : TS := fun D σ H => ∃ E S ρ σd, XT X E ∧ Good M S ρ H ∧ ER M S ρ H σ σd ∧ PostS M G E S ρ H (m σd S) D
def SS (X : Cx) (M : Nm) (G : Gx) (s : Stmt) (m : Env → Store → SRes) : Prop := PS X s (tSv X M G m)
def SSs (X : Cx) (M : Nm) (G : Gx) (s : List Stmt) (m : Env → Store → SRes) : Prop := PSs X s (tSv X M G m)
section
variable {X : Cx} {M : Nm} {G : Gx} {e e2 o : Expr} {pos p p1 p2 : Pos} {cal : Nat → List D → Store → Res D} {st : Stmt} {sts : List Stmt}
theorem PS.imp {t t' : TS} (h : PS X st t) (f : ∀ D σ H, t' D σ H → t D σ H) : PS X st t' := ⟨fun pins s σ H D I q => h.run pins s σ H D I (f D σ H q)⟩
theorem PSs.imp {t t' : TS} (h : PSs X sts t) (f : ∀ D σ H, t' D σ H → t D σ H) : PSs X sts t' := ⟨fun pins s σ H D I q => h.run pins s σ H D I (f D σ H q)⟩
theorem sss_nil : SSs X M G [] (execs G cal .nil) := PSs.imp pss_nil fun D σ H h => by
  obtain ⟨E, S, ρ, σd, xt, gd, er, h⟩ := h
  unfold execs at h
  exact h.nx_ gd er
theorem sss_cons {c : CS} {r : CSs} (h1 : SS X M G st (exec G cal c)) (h2 : SSs X M G sts (execs G cal r)) : SSs X M G (st :: sts) (execs G cal (.cons c r)) := PSs.imp (pss_cons h1 h2) fun D σ H h => by
  obtain ⟨E, S, ρ, σd, xt, gd, er, h⟩ := h
  unfold execs at h
  refine ⟨E, S, ρ, σd, xt, gd, er, ?_⟩
  cases q : exec G cal c σd S with
  | nx σ1 S1 =>
    rw [q] at h
    exact fun ρ' H' σ' n g' er' => ⟨E, S1, ρ', σ1, xt, g', er', PostS.later gd g' n h⟩
  | _ => rw [q] at h; exact h
/-- a value, then its number, then something -/
theorem oneS {m : Env → Store → Res Sq} {g : D → Store → SRes} {E : XK} {S : Store} {ρ : List Addr} {H : Hp} {σ : L2.St} {σd : Env} {D : Ends} {R : V → Hp → Prop}
    (xt : XT X E) (gd : Good M S ρ H) (er : ER M S ρ H σ σd) (h : PostS M G E S ρ H ((m σd S).st fun q S1 => (mat q S1).st g) D)
    (k : ∀ d x S2 ρ2 H2, Nx S ρ H S2 ρ2 H2 → Good M S2 ρ2 H2 → VR M S2 ρ2 H2 x d → PostS M G E S2 ρ2 H2 (g d S2) D → R x H2) : tEv X M G m σ H fun x H1 => R x H1 := by
  refine ⟨E, S, ρ, σd, xt, gd, er, (PostG.st0 h).imp fun q S1 ρ1 H1 e1 n1 g1 h1 x hx => ?_⟩
  obtain ⟨d, S2, ρ2, e2, n2, g2, r2⟩ := mat_ok gd n1 g1 hx
  rw [e2] at h1
  exact k d x S2 ρ2 H1 n2 g2 r2 (PostS.later gd g2 n2 h1)
/-- .. without a number -/
theorem oneV {m : Env → Store → Res Sq} {g : Sq → Store → SRes} {E : XK} {S : Store} {ρ : List Addr} {H : Hp} {σ : L2.St} {σd : Env} {D : Ends} {R : V → Hp → Prop}
    (xt : XT X E) (gd : Good M S ρ H) (er : ER M S ρ H σ σd) (h : PostS M G E S ρ H ((m σd S).st g) D)
    (k : ∀ q x S2 ρ2 H2, Nx S ρ H S2 ρ2 H2 → Good M S2 ρ2 H2 → SqR M H S2 ρ2 H2 x q → PostS M G E S2 ρ2 H2 (g q S2) D → R x H2) : tEv X M G m σ H fun x H1 => R x H1 :=
  ⟨E, S, ρ, σd, xt, gd, er, (PostG.st gd h).imp fun q S1 ρ1 H1 e1 n1 g1 h1 x hx => k q x S1 ρ1 H1 n1 g1 hx h1⟩
def isComp : Expr → Bool
  | .ListComp _ _ _ _ => true
  | .SetComp _ _ _ _ => true
  | .DictComp _ _ _ _ _ => true
  | _ => false
theorem swaps_no {t : Option Expr} {l : Nat} {env : PySem.Env} (h : isComp e = false) : swapsWith e t l env = pure false := by
  cases e <;> first | rfl | cases h
theorem swaps_sole {t : Expr} {l : Nat} {env : PySem.Env} (h : isComp e = false) : swapsWithSole [t] e l env = pure false := by
  unfold swapsWithSole
  exact swaps_no h
/-- a place for a name -/
structure Sl (X : Cx) (i : Nat) (x : Str) : Prop where
  at_ : X.N[i]? = some x
  loc : Loc X.env.scope x
  fn : X.fn x = true ∨ X.env.scope.names.lookup x = some .local
theorem ss_set {a : CE} {i : Nat} {x : Str} (hN : X.N.Nodup) (hi : Sl X i x) (hc : isComp e = false) (he : SE X M G e (ev G cal a)) : SS X M G (.Assign [.Name x p] e pos) (exec G cal (.set i a)) :=
  PS.imp (ps_set hN hi.at_ hi.loc he (swaps_no hc) hi.fn) fun D σ H h => by
    obtain ⟨E, S, ρ, σd, xt, gd, er, h⟩ := h
    unfold exec at h
    exact oneS xt gd er h fun d x S2 ρ2 H2 n2 g2 hx h2 => h2.nx_ g2 ((er.nx n2 gd).set i hx)
theorem ss_ret {a : CE} (he : SE X M G e (ev G cal a)) : SS X M G (.Return (some e) pos) (exec G cal (.ret a)) :=
  PS.imp (ps_ret he) fun D σ H h => by
    obtain ⟨E, S, ρ, σd, xt, gd, er, h⟩ := h
    unfold exec at h
    exact oneS xt gd er h fun d x S2 ρ2 H2 n2 g2 hx h2 => h2 _ _ x Nx.refl g2 hx
theorem ss_retN : SS X M G (.Return none pos) (exec G cal .retN) :=
  PS.imp ps_retN fun D σ H h => by
    obtain ⟨E, S, ρ, σd, xt, gd, er, h⟩ := h
    unfold exec at h
    exact h _ _ _ Nx.refl gd .non
theorem ss_pass : SS X M G (.Pass pos) (exec G cal .pass_) :=
  PS.imp ps_pass fun D σ H h => by
    obtain ⟨E, S, ρ, σd, xt, gd, er, h⟩ := h
    unfold exec at h
    exact h.nx_ gd er
/-- a statement of which nothing is said -/
theorem ss_bad {s : Stmt} : SS X M G s (exec G cal .bad_) := ⟨fun pins s σ H D I h => by
  obtain ⟨E, S, ρ, σd, xt, gd, er, h⟩ := h
  unfold exec at h
  exact h.elim⟩
theorem ss_brk : SS X M G (.Break pos) (exec G cal .brk) :=
  PS.imp ps_break fun D σ H h => by
    obtain ⟨E, S, ρ, σd, xt, gd, er, h⟩ := h
    unfold exec at h
    exact h _ _ _ Nx.refl gd er
theorem ss_cont : SS X M G (.Continue pos) (exec G cal .cont) :=
  PS.imp ps_continue fun D σ H h => by
    obtain ⟨E, S, ρ, σd, xt, gd, er, h⟩ := h
    unfold exec at h
    exact h _ _ _ Nx.refl gd er
theorem ss_ex {a : CE} (hc : isComp e = false) (he : SE X M G e (ev G cal a)) : SS X M G (.Expr e pos) (exec G cal (.ex a)) :=
  PS.imp (ps_expr he (swaps_no hc)) fun D σ H h => by
    obtain ⟨E, S, ρ, σd, xt, gd, er, h⟩ := h
    unfold exec at h
    exact oneV xt gd er h fun q x S2 ρ2 H2 n2 g2 hx h2 => h2.nx_ g2 (er.nx n2 gd)
theorem ss_if {t : CE} {a b : CSs} {as bs : List Stmt} (ht : ST X M G e (tr (ev G cal t))) (ha : SSs X M G as (execs G cal a)) (hb : SSs X M G bs (execs G cal b)) : SS X M G (.If e as bs pos) (exec G cal (.ifS t a b)) :=
  PS.imp (ps_if ht ha hb) fun D σ H h => by
    obtain ⟨E, S, ρ, σd, xt, gd, er, h⟩ := h
    unfold exec at h
    have h' : PostS M G E S ρ H ((tr (ev G cal t) σd S).st fun k S2 => if k = true then execs G cal a σd S2 else execs G cal b σd S2) D := by
      have e : ∀ r : Res Sq, (r.st fun p S1 => (lift (truthQ S1 p) S1).st fun k S2 => if k = true then execs G cal a σd S2 else execs G cal b σd S2) =
          (r.bind fun p S1 => lift (truthQ S1 p) S1).st fun k S2 => if k = true then execs G cal a σd S2 else execs G cal b σd S2 := by
        intro r; cases r <;> rfl
      rw [e] at h
      exact h
    refine ⟨E, S, ρ, σd, xt, gd, er, (PostG.st gd h').imp fun k S1 ρ1 H1 e1 n1 g1 h1 => ?_⟩
    cases k with
    | true => exact ⟨E, S1, ρ1, σd, xt, g1, er.nx n1 gd, h1⟩
    | false => exact ⟨E, S1, ρ1, σd, xt, g1, er.nx n1 gd, h1⟩
/-! ### targets -/
def gTg (K : PySem.W.Frag) : Tg → TG
  | .one i => gName i
  | .two i j => gTup K 2 (gCons (gName i) (gCons (gName j) gNil))
inductive TgOk (X : Cx) : Tg → Expr → Prop where
  | one {i : Nat} {x : Str} {p : Pos} (h : Sl X i x) : TgOk X (.one i) (.Name x p)
  | two {i j k : Nat} {x y : Str} {p q r : Pos} (h : Sl X i x) (h' : Sl X j y) : TgOk X (.two i j) (.Tuple [.Name x p, .Name y q] k r)
theorem tg_pg {t : Tg} (hc : X.calm = true) (hN : X.N.Nodup) (h : TgOk X t e) : PG X e (gTg X.K t) := by
  cases h with
  | one h => exact pg_name hN h.at_ h.loc h.fn
  | two h h' => exact pg_tup hc (pgs_cons (pg_name hN h.at_ h.loc h.fn) (pgs_cons (pg_name hN h'.at_ h'.loc h'.fn) pgs_nil))
theorem tg_run {K : PySem.W.Frag} {t : Tg} {d : D} {v : V} {σ : L2.St} {σd σd' : Env} {S : Store} {ρ : List Addr} {H : Hp} {Q : L2.St → Hp → Prop} (er : ER M S ρ H σ σd) (r : VR M S ρ H v d) (h : bindTg t d σd = some σd')
    (q : ∀ σ', ER M S ρ H σ' σd' → Q σ' H) : gTg K t v σ H Q := by
  cases t with
  | one i =>
    simp only [bindTg] at h
    cases h
    exact q _ (er.set i r)
  | two i j =>
    simp only [bindTg] at h
    split at h
    · rename_i x y
      cases h
      cases r with
      | tup h hz r =>
        cases r with
        | cons r1 r =>
          cases r with
          | cons r2 r =>
            cases r
            exact ⟨_, _, rfl, .inl (.inl h), rfl, _, _, rfl, _, _, rfl, rfl, q _ ((er.set i r1).set j r2)⟩
    · cases h
/-- several -/
def gTgs (K : PySem.W.Frag) : List Tg → TGs
  | [] => gNil
  | t :: ts => gCons (gTg K t) (gTgs K ts)
inductive TgsOk (X : Cx) : List Tg → List Expr → Prop where
  | nil : TgsOk X [] []
  | cons {t : Tg} {ts : List Tg} {e : Expr} {es : List Expr} (h : TgOk X t e) (r : TgsOk X ts es) : TgsOk X (t :: ts) (e :: es)
theorem tgs_len {ts : List Tg} {es : List Expr} (h : TgsOk X ts es) : (assignEach es X.env).length = ts.length := by
  induction h with
  | nil => rfl
  | cons h r ih => cases h <;> (simp only [assignEach, List.length_cons] at *; omega)
theorem tgs_star {ts : List Tg} {es : List Expr} (h : TgsOk X ts es) : (assignEach es X.env).findIdx? (·.1) = none := by
  induction h with
  | nil => rfl
  | cons h r ih =>
    cases h <;> (simp only [assignEach, List.findIdx?_cons, ih]; rfl)
theorem tgs_pg {ts : List Tg} {es : List Expr} (hc : X.calm = true) (hN : X.N.Nodup) (h : TgsOk X ts es) : PGs X es (gTgs X.K ts) := by
  induction h with
  | nil => exact pgs_nil
  | cons h r ih => exact pgs_cons (tg_pg hc hN h) ih (by cases h <;> rfl)
theorem tgs_run {K : PySem.W.Frag} {S : Store} {ρ : List Addr} {H : Hp} {Q : L2.St → Hp → Prop} : ∀ {ts : List Tg} {ds : List D} {vs : List V} {σ : L2.St} {σd σd' : Env}, ER M S ρ H σ σd → VRs M S ρ H vs ds → bindTgs ts ds σd = some σd' → (∀ σ', ER M S ρ H σ' σd' → Q σ' H) → gTgs K ts vs σ H Q
  | [], [], _, σ, _, _, er, .nil, h, q => by
    cases h
    exact ⟨rfl, q _ er⟩
  | t :: ts, d :: ds, _, σ, _, _, er, .cons r rs, h, q => by
    simp only [bindTgs] at h
    obtain ⟨σ1, h1, h2⟩ := Option.bind_eq_some_iff.mp h
    exact ⟨_, _, rfl, tg_run er r h1 fun σ' er' => tgs_run er' rs h2 q⟩
  | [], _ :: _, _, _, _, _, _, _, h, _ => by cases h
  | _ :: _, [], _, _, _, _, _, _, h, _ => by cases h
theorem bindTgs_len : ∀ {ts : List Tg} {ds : List D} {σ σ' : Env}, bindTgs ts ds σ = some σ' → ds.length = ts.length
  | [], [], _, _, _ => rfl
  | _ :: ts, _ :: ds, _, _, h => by
    simp only [bindTgs] at h
    obtain ⟨σ1, h1, h2⟩ := Option.bind_eq_some_iff.mp h
    simp [bindTgs_len h2]
  | [], _ :: _, _, _, h => by cases h
  | _ :: _, [], _, _, h => by cases h
def isTuple : Expr → Bool
  | .Tuple _ _ _ => true
  | _ => false
theorem no_swapped {ts : List Expr} {k : Nat} {env : PySem.Env} (h : isTuple e = false) : swappedStores [.Tuple ts k p] e env = pure none := by
  cases e <;> first | rfl | cases h
theorem ss_setT {a : CE} {ts : List Tg} {es : List Expr} {k : Nat} (hcl : X.calm = true) (hN : X.N.Nodup) (ht : TgsOk X ts es) (hc : isComp e = false) (hw : swappedStores [.Tuple es k p] e X.env = pure none) (he : SE X M G e (ev G cal a)) :
    SS X M G (.Assign [.Tuple es k p] e pos) (exec G cal (.setT ts a)) :=
  PS.imp (ps_asg he (pg_tup (n := ts.length) hcl (tgs_pg hcl hN ht) (tgs_len ht) (tgs_star ht)) (swaps_sole hc) hw (by rfl)) fun D σ H h => by
    obtain ⟨E, S, ρ, σd, xt, gd, er, h⟩ := h
    unfold exec at h
    refine oneV xt gd er h fun q x S2 ρ2 H2 n2 g2 hx h2 => ?_
    split at h2
    · split at h2
      · rename_i ds σ2 hb
        cases hx with
        | val hx =>
          cases hx with
          | tup h hz r =>
            exact ⟨_, _, rfl, .inl (.inl h), by rw [r.length]; exact bindTgs_len hb, tgs_run (er.nx n2 gd) r hb fun σ' er' => h2.nx_ g2 er'⟩
      · exact h2.elim
    · exact h2.elim
/-- a, b = x, y -/
theorem ss_par {a b : CE} {i j : Nat} {x y : Str} {k k2 : Nat} {p3 p4 : Pos} (hcl : X.calm = true) (hN : X.N.Nodup) (hi : X.N[i]? = some x) (hj : X.N[j]? = some y) (hij : i ≠ j) (hx : X.env.scope.names.lookup x = some .local) (hy : X.env.scope.names.lookup y = some .local)
    (s1 : starB e = false) (s2 : starB e2 = false) (ha : SE X M G e (ev G cal a)) (hb : SE X M G e2 (ev G cal b))
    (hw : swappedStores [.Tuple [.Name x p1, .Name y p2] k p] (.Tuple [e, e2] k2 p3) X.env = pure (some [x, y])) :
    SS X M G (.Assign [.Tuple [.Name x p1, .Name y p2] k p] (.Tuple [e, e2] k2 p3) pos) (exec G cal (.par i j a b)) :=
  PS.imp (ps_par hcl hN hi hj hij hx hy (pa_cons ha (pa_cons hb pa_nil (star_no s2)) (star_no s1)) hw (by rfl)) fun D σ H h => by
    obtain ⟨E, S, ρ, σd, xt, gd, er, h⟩ := h
    unfold exec at h
    refine oneS xt gd er h fun d x S2 ρ2 H2 n2 g2 hx h2 => ?_
    refine oneS xt g2 (er.nx n2 gd) h2 fun d3 x3 S3 ρ3 H3 n3 g3 hx3 h3 => ?_
    exact ⟨_, _, rfl, h3.nx_ g3 ((((er.nx n2 gd).nx n3 g2).set i (hx.nx n3 g2)).set j hx3)⟩
/-- a, b, c = x, y, z -/
theorem ss_par3 {e3 : Expr} {a b c : CE} {i j l : Nat} {x y z : Str} {k k2 : Nat} {p3 p4 : Pos} (hcl : X.calm = true) (hN : X.N.Nodup) (hi : X.N[i]? = some x) (hj : X.N[j]? = some y) (hl : X.N[l]? = some z) (hij : i ≠ j) (hil : i ≠ l) (hjl : j ≠ l)
    (hx : X.env.scope.names.lookup x = some .local) (hy : X.env.scope.names.lookup y = some .local) (hz : X.env.scope.names.lookup z = some .local)
    (s1 : starB e = false) (s2 : starB e2 = false) (s3 : starB e3 = false) (ha : SE X M G e (ev G cal a)) (hb : SE X M G e2 (ev G cal b)) (hc : SE X M G e3 (ev G cal c))
    (hw : swappedStores [.Tuple [.Name x p1, .Name y p2, .Name z p4] k p] (.Tuple [e, e2, e3] k2 p3) X.env = pure (some [x, y, z])) :
    SS X M G (.Assign [.Tuple [.Name x p1, .Name y p2, .Name z p4] k p] (.Tuple [e, e2, e3] k2 p3) pos) (exec G cal (.par3 i j l a b c)) :=
  PS.imp (ps_par3 hcl hN hi hj hl hij hil hjl hx hy hz (pa_cons ha (pa_cons hb (pa_cons hc pa_nil (star_no s3)) (star_no s2)) (star_no s1)) hw (by rfl)) fun D σ H h => by
    obtain ⟨E, S, ρ, σd, xt, gd, er, h⟩ := h
    unfold exec at h
    refine oneS xt gd er h fun d x S2 ρ2 H2 n2 g2 hx h2 => ?_
    refine oneS xt g2 (er.nx n2 gd) h2 fun d3 x3 S3 ρ3 H3 n3 g3 hx3 h3 => ?_
    refine oneS xt g3 ((er.nx n2 gd).nx n3 g2) h3 fun d4 x4 S4 ρ4 H4 n4 g4 hx4 h4 => ?_
    exact ⟨_, _, _, rfl, h4.nx_ g4 ((((((er.nx n2 gd).nx n3 g2).nx n4 g3).set i ((hx.nx n3 g2).nx n4 g3)).set j (hx3.nx n4 g3)).set l hx4)⟩
theorem ss_setI {a b c : CE} (hc : isComp e = false) (hs : ∀ lo hi st p, e2 ≠ .Slice lo hi st p) (hv : SE X M G e (ev G cal c)) (ho : SE X M G o (ev G cal a)) (hi : SE X M G e2 (ev G cal b)) :
    SS X M G (.Assign [.Subscript o e2 p] e pos) (exec G cal (.setI a b c)) := by
  have hpg : PG X (.Subscript o e2 p) (gSub (tEv X M G (ev G cal a)) (tEv X M G (ev G cal b)) rSetL) := pg_sub ho hi set_list (fun v => by
    cases e2 <;> first | rfl | exact absurd rfl (hs _ _ _ _))
  refine PS.imp (ps_asg hv hpg (swaps_sole hc) (by rfl) (by rfl)) fun D σ H h => ?_
  obtain ⟨E, S, ρ, σd, xt, gd, er, h⟩ := h
  unfold exec at h
  refine oneS xt gd er h fun d x S2 ρ2 H2 n2 g2 hx h2 => ?_
  refine oneV xt g2 (er.nx n2 gd) h2 fun q3 x3 S3 ρ3 H3 n3 g3 hx3 h3 => ?_
  refine oneV xt g3 ((er.nx n2 gd).nx n3 g2) h3 fun q4 x4 S4 ρ4 H4 n4 g4 hx4 h4 => ?_
  split at h4
  · split at h4
    · split at h4
      · rename_i n k _ xs hc _ j hj
        have hx3' := hx3.nx n4 g3
        cases hx3' with
        | val hx3' =>
        cases hx4 with
        | val hx4 =>
          cases hx4
          obtain ⟨l, vs, rfl, hl, hH, hz, rv⟩ := lst_at g4 hx3' hc
          refine ⟨l, vs, k, j, rfl, rfl, hH, by rw [rv.length]; exact hj, ?_⟩
          obtain ⟨n5, g5⟩ := g4.lst hc hl (vs := vs.set j x) (by simpa using hz) (rv.set ((hx.nx n3 g2).nx n4 g3) j)
          exact h4 _ _ _ n5 g5 ((((er.nx n2 gd).nx n3 g2).nx n4 g3).nx n5 g4)
      · exact h4.elim
    · exact h4.elim
  · exact h4.elim
theorem ss_setA {U : Uv} {a c : CE} {f : Nat} {x : Str} (iu : Inn U X) (cf : ClsF U M G) (hx : M.an f = x) (hc : isComp e = false) (hv : SE X M G e (ev G cal c)) (ho : SE X M G o (ev G cal a)) :
    SS X M G (.Assign [.Attribute o x p] e pos) (exec G cal (.setA a f c)) := by
  subst hx
  refine PS.imp (ps_fld ho hv (swaps_no hc)) fun D σ H h => ?_
  obtain ⟨E, S, ρ, σd, xt, gd, er, h⟩ := h
  unfold exec at h
  refine oneS xt gd er h fun d x S2 ρ2 H2 n2 g2 hx h2 => ?_
  refine oneV xt g2 (er.nx n2 gd) h2 fun q3 x3 S3 ρ3 H3 n3 g3 hx3 h3 => ?_
  split at h3
  · split at h3
    · split at h3
      · rename_i n _ c fs hcell hcond
        cases hx3 with
        | val hx3 =>
          cases hx3 with
          | loc hr =>
            cases g3.cells _ _ _ hcell hr with
            | @ins dx _ gs _ h1 r1 =>
              obtain ⟨h4, h5, h6⟩ := cf.fld c f hcond.1
              rw [← iu.K] at h5 h6
              refine ⟨_, _, _, _, rfl, h1, h5, h6, by rw [frs_length r1]; omega, ?_⟩
              have n4 : Nx S3 ρ3 H3 (S3.set n (.ins c (putA f d fs))) ρ3 (upd H3 _ (.ins (M.ca c) dx (putF (M.an f) x gs))) := Nx.put g3 hcell (fun z => by cases z) hr
              have g4 := g3.put hcell (fun z => by cases z) hr (.ins upd_same (frs_put cf.inj h4 ((hx.nx n3 g2).nx n4 g3) (r1.nx n4 g3)))
              exact h3 _ _ _ n4 g4 (((er.nx n2 gd).nx n3 g2).nx n4 g3)
      · exact h3.elim
    · exact h3.elim
  · exact h3.elim
theorem ss_aug {a : CE} {i : Nat} {x : Str} (hN : X.N.Nodup) (hi : Sl X i x) (he : SE X M G e (ev G cal a)) : SS X M G (.AugAssign (.Name x p) .Add e pos) (exec G cal (.aug i a)) :=
  PS.imp (ps_aug hN hi.at_ hi.loc he ip_add hi.fn) fun D σ H h => by
    obtain ⟨E, S, ρ, σd, xt, gd, er, h⟩ := h
    unfold exec at h
    split at h
    · rename_i k hk
      obtain ⟨v, e1, r1⟩ := er.at_ i _ hk
      cases r1
      refine ⟨_, e1, oneV xt gd er h fun q x S2 ρ2 H2 n2 g2 hx h2 => ?_⟩
      split at h2
      · cases hx with
        | val hx =>
          cases hx
          exact ⟨_, _, rfl, rfl, h2.nx_ g2 ((er.nx n2 gd).set i (.int _))⟩
      · exact h2.elim
    · exact h.elim
/-! ### loops -/
theorem PostS.ends {E : XK} {S : Store} {ρ : List Addr} {H : Hp} {r : SRes} {D D' : Ends} (h : PostS M G E S ρ H r D) (h1 : D'.nx = D.nx) (h2 : D'.rt = D.rt) (h3 : D'.bk = D.bk) (h4 : D'.ct = D.ct) : PostS M G E S ρ H r D' := by
  cases r with
  | nx σ S' => exact fun ρ' H' σ' x g e => by rw [h1]; exact h ρ' H' σ' x g e
  | bk σ S' => exact fun ρ' H' σ' x g e => by rw [h3]; exact h ρ' H' σ' x g e
  | ct σ S' => exact fun ρ' H' σ' x g e => by rw [h4]; exact h ρ' H' σ' x g e
  | rt d S' => exact fun ρ' H' v x g e => by rw [h2]; exact h ρ' H' v x g e
  | ex c d S' => exact h
  | bad => exact h
theorem guardS_ok {g : Grd} {E : XK} {S S' : Store} {ρ : List Addr} {H : Hp} {r : SRes} {D : Ends} (h : PostS M G E S ρ H (guardS g S' r) D) : grdOk g S' ∧ PostS M G E S ρ H r D := by
  unfold guardS at h
  by_cases q : grdOk g S'
  · rw [if_pos q] at h; exact ⟨q, h⟩
  · rw [if_neg q] at h; exact h.elim
/-- a turn's end -/
theorem turn_post {E : XK} {S : Store} {ρ : List Addr} {H : Hp} {r : SRes} {f : Env → Store → SRes} {D : Ends} {N : L2.St → Hp → Prop} (gd : Good M S ρ H) (h : PostS M G E S ρ H (r.turn f) D)
    (k : ∀ S' ρ' H' σ' σd', Nx S ρ H S' ρ' H' → Good M S' ρ' H' → ER M S' ρ' H' σ' σd' → PostS M G E S' ρ' H' (f σd' S') D → N σ' H') : PostS M G E S ρ H r { D with nx := N, ct := N, bk := D.nx } := by
  cases r with
  | nx σ S' => exact fun ρ' H' σ' x g e => k S' ρ' H' σ' σ x g e (PostS.later gd g x h)
  | bk σ S' => exact fun ρ' H' σ' x g e => h ρ' H' σ' x g e
  | ct σ S' => exact fun ρ' H' σ' x g e => k S' ρ' H' σ' σ x g e (PostS.later gd g x h)
  | rt d S' => exact h
  | ex c d S' => exact h
  | bad => exact h
theorem ss_for {it : CIt} {b : CSs} {t : Tg} {tg : Expr} {body : List Stmt} (hp : PassesOwn (model X.prog X.w) X.A X.env X.xe) (hc : X.calm = true) (hN : X.N.Nodup) (ht : TgOk X t tg) (hi : SI X M G tg e (evIt G cal it)) (hb : SSs X M G body (execs G cal b))
    (hs : ∀ x, foldedSetIterable e X.env x = pure x) : SS X M G (.For tg e body [] pos) (exec G cal (.forS t it b)) :=
  PS.imp (ps_for hp hc hi (tg_pg hc hN ht) hb hs) fun D σ H h => by
    obtain ⟨E, S, ρ, σd, xt, gd, er, h⟩ := h
    unfold exec at h
    refine ⟨E, S, ρ, σd, xt, gd, er, (PostG.st gd h).imp fun w S1 ρ1 H1 e1 n1 g1 h1 J wk => ?_⟩
    refine ⟨fun i m σ H => m = w.1.length - i ∧ i ≤ w.1.length ∧ ∃ S' ρ' σd', Nx S1 ρ1 H1 S' ρ' H ∧ Good M S' ρ' H ∧ ER M S' ρ' H σ σd' ∧ PostS M G E S' ρ' H (forLoop w.2 (fun x σ2 S2 => match bindTg t x σ2 with
      | some σ3 => execs G cal b σ3 S2
      | none => .bad) (w.1.drop i) σd' S') D, ⟨_, rfl, Nat.zero_le _, S1, ρ1, σd, Nx.refl, g1, er.nx n1 gd, h1⟩, ?_⟩
    rintro i m σ H ⟨rfl, hi, S', ρ', σd', n', g', er', h'⟩
    by_cases hlt : i < w.1.length
    · rw [List.drop_eq_getElem_cons hlt] at h'
      unfold forLoop at h'
      obtain ⟨gr, h'⟩ := guardS_ok h'
      obtain ⟨go, yl⟩ := wk.at_ S' ρ' H n' g' gr i _ (List.getElem?_eq_getElem hlt)
      refine .inr ⟨go, fun σ2 H2 => (i + 1 ≤ w.1.length ∧ ∃ S' ρ' σd', Nx S1 ρ1 H1 S' ρ' H2 ∧ Good M S' ρ' H2 ∧ ER M S' ρ' H2 σ2 σd' ∧ PostS M G E S' ρ' H2 (forLoop w.2 (fun x σ2 S2 => match bindTg t x σ2 with
        | some σ3 => execs G cal b σ3 S2
        | none => .bad) (w.1.drop (i + 1)) σd' S') D), fun σ2 H2 q => ⟨w.1.length - (i + 1), by omega, rfl, q.1, q.2⟩, fun x H2 y => ?_⟩
      obtain ⟨n2, g2, rx⟩ := yl x H2 y
      cases hb : bindTg t w.1[i] σd' with
      | none => rw [hb] at h'; exact h'.elim
      | some σ3 =>
        rw [hb] at h'
        refine tg_run (er'.nx n2 g') rx hb fun σ4 er4 => ⟨E, S', ρ', σ3, xt, g2, er4, ?_⟩
        refine turn_post g2 (PostS.later g' g2 n2 h') fun S5 ρ5 H5 σ5 σd5 n5 g5 er5 h5 => ⟨hlt, S5, ρ5, σd5, ?_, g5, er5, h5⟩
        exact (n'.trans g1 g' n2).trans g1 g2 n5
    · have e : i = w.1.length := by omega
      subst e
      rw [List.drop_length] at h'
      unfold forLoop at h'
      obtain ⟨gr, h'⟩ := guardS_ok h'
      exact .inl ⟨wk.end_ S' ρ' H n' g' gr, h'.nx_ g' er'⟩
theorem ss_while {t : CE} {b : CSs} {body : List Stmt} (hp : PassesOwn (model X.prog X.w) X.A X.env X.xe) (ht : ST X M G e (tr (ev G cal t))) (hb : SSs X M G body (execs G cal b)) : SS X M G (.While e body [] pos) (exec G cal (.whileS t b)) :=
  PS.imp (ps_while hp ht hb) fun D σ H h => by
    obtain ⟨E, S, ρ, σd, xt, gd, er, h⟩ := h
    unfold exec at h
    refine ⟨fun m σ H => ∃ S' ρ' σd', Good M S' ρ' H ∧ ER M S' ρ' H σ σd' ∧ PostS M G E S' ρ' H (whileLoop (fun σ2 S2 => (ev G cal t σ2 S2).bind fun p S3 => lift (truthQ S3 p) S3) (fun σ2 S2 => execs G cal b σ2 S2) m σd' S') D, ⟨_, S, ρ, σd, gd, er, h⟩, ?_⟩
    rintro m σ H ⟨S', ρ', σd', g', er', h'⟩
    cases m with
    | zero => unfold whileLoop at h'; exact h'.elim
    | succ m =>
      unfold whileLoop at h'
      refine ⟨E, S', ρ', σd', xt, g', er', (PostG.st g' h').imp fun k S1 ρ1 H1 e1 n1 g1 h1 => ?_⟩
      cases k with
      | true =>
        refine ⟨fun σ2 H2 => ∃ S' ρ' σd', Good M S' ρ' H2 ∧ ER M S' ρ' H2 σ2 σd' ∧ PostS M G E S' ρ' H2 (whileLoop (fun σ2 S2 => (ev G cal t σ2 S2).bind fun p S3 => lift (truthQ S3 p) S3) (fun σ2 S2 => execs G cal b σ2 S2) m σd' S') D, fun σ2 H2 q => ⟨m, Nat.lt_succ_self _, q⟩, E, S1, ρ1, σd', xt, g1, er'.nx n1 g', ?_⟩
        exact turn_post g1 h1 fun S5 ρ5 H5 σ5 σd5 n5 g5 er5 h5 => ⟨S5, ρ5, σd5, g5, er5, h5⟩
      | false => exact h1.nx_ g1 (er'.nx n1 g')
end
end DI
end

section
set_option Elab.async false
set_option linter.all false
set_option maxRecDepth 100000
/-! DILc: comprehensions. -/
namespace DI
open PySem PySem.Spec L2
open PyProof.Rows hiding St
/-! ### a list that is no cell, changed -/
section
variable {M : Nm} {S : Store} {ρ : List Addr} {H : Hp} {a : Addr} {xs ys : List V}
theorem exo_lst {e C : Addr} {d : Option Addr} {xs : List V} : exo e C d ≠ .lst xs := fun z => by
  have z' : HO.ext _ = HO.lst xs := z
  cases z'
theorem exd_lst {e : Addr} {fs : List (Str × V)} {xs : List V} : exd e fs ≠ .lst xs := fun z => by
  have z' : HO.ext _ = HO.lst xs := z
  cases z'
theorem Lv.no {b : Addr} (hn : a ∉ ρ) (l : Lv S ρ b) : b ≠ a := fun z => hn (z ▸ l.mem)
mutual
theorem VR.over (ha : H a = some (.lst xs)) : ∀ {v : V} {d : D}, VR M S ρ H v d → VR M S ρ (upd H a (.lst ys)) v d
  | _, _, .non => .non
  | _, _, .bl b => .bl b
  | _, _, .int i => .int i
  | _, _, .str s => .str s
  | _, _, .tup h hz r => .tup (by rw [upd_ne (ne_of h ha (by simp))]; exact h) hz (VRs.over ha r)
  | _, _, .tupI h hc hz r => .tupI (by rw [upd_ne (ne_of h ha (by simp))]; exact h) hc hz (VRs.over ha r)
  | _, _, .loc h => .loc h
  | _, _, .obj h hl' r => .obj (by rw [upd_ne (ne_of h ha (by simp))]; exact h) hl' (FRs.over ha r)
  | _, _, .err h hl' h2 hl2 r => .err (by rw [upd_ne (ne_of h ha exo_lst)]; exact h) hl' (by rw [upd_ne (ne_of h2 ha exd_lst)]; exact h2) hl2 (VR.over ha r)
theorem VRs.over (ha : H a = some (.lst xs)) : ∀ {v : List V} {d : List D}, VRs M S ρ H v d → VRs M S ρ (upd H a (.lst ys)) v d
  | _, _, .nil => .nil
  | _, _, .cons h r => .cons (VR.over ha h) (VRs.over ha r)
theorem FRs.over (ha : H a = some (.lst xs)) : ∀ {v : List (Str × V)} {d : List (Nat × D)}, FRs M S ρ H v d → FRs M S ρ (upd H a (.lst ys)) v d
  | _, _, .nil => .nil
  | _, _, .cons hk h r => .cons hk (VR.over ha h) (FRs.over ha r)
end
theorem Good.over (g : Good M S ρ H) (ha : H a = some (.lst xs)) (hn : a ∉ ρ) : Good M S ρ (upd H a (.lst ys)) := by
  refine ⟨g.len, g.nd, fun n c b e1 e2 => ?_⟩
  have hb : b ≠ a := fun z => hn (z ▸ List.mem_of_getElem? e2)
  have e : upd H a (.lst ys) b = H b := upd_ne hb
  cases g.cells n c b e1 e2 with
  | lst h hz r => exact .lst (by rw [e]; exact h) hz (r.over ha)
  | ro h hz r =>
    refine .ro ?_ hz (r.over ha)
    rcases h with h | ⟨o, h⟩
    · exact .inl (by rw [e]; exact h)
    · exact .inr ⟨o, by rw [e]; exact h⟩
  | ins h r => exact .ins (by rw [e]; exact h) (r.over ha)
  | dic h => exact .dic (by rw [e]; exact h)
  | dead h => exact .dead (by rw [e]; exact h)
theorem Nx.over {S0 : Store} {ρ0 : List Addr} {H0 : Hp} (n : Nx S0 ρ0 H0 S ρ H) (h0 : H0 a = none) : Nx S0 ρ0 H0 S ρ (upd H a (.lst ys)) :=
  ⟨n.pre, n.dead, fun b o e l => by rw [upd_ne (ne_of_none e h0)]; exact n.kept b o e l⟩
end
/-! ### names of one's own -/
def tgIxs : Tg → List Nat
  | .one i => [i]
  | .two i j => [i, j]
def wipeD (σ : Env) : List Nat → Env
  | [] => σ
  | v :: vs => (wipeD σ vs).set v none
theorem ER.wipe {M : Nm} {S : Store} {ρ : List Addr} {H : Hp} {σ : L2.St} {σd : Env} (e : ER M S ρ H σ σd) : ∀ vs : List Nat, ER M S ρ H (wipe σ vs) (wipeD σd vs)
  | [] => e
  | v :: vs => by
    have ih := ER.wipe e vs
    refine ⟨by simpa [L2.wipe, wipeD] using ih.len, fun i d h => ?_⟩
    simp only [wipeD] at h
    simp only [L2.wipe]
    by_cases q : v = i
    · subst q
      by_cases hl : v < (wipeD σd vs).length
      · rw [List.getElem?_set_self hl] at h; cases h
      · rw [List.getElem?_eq_none (by simpa using hl)] at h; cases h
    · rw [List.getElem?_set_ne q] at h ⊢
      exact ih.at_ i d h
theorem wipeD_get {σ : Env} {i : Nat} : ∀ {vs : List Nat}, i ∉ vs → (wipeD σ vs)[i]? = σ[i]?
  | [], _ => rfl
  | v :: vs, h => by
    have h1 : v ≠ i := fun z => h (by simp [z])
    have h2 : i ∉ vs := fun z => h (by simp [z])
    simp only [wipeD]
    rw [List.getElem?_set_ne h1]
    exact wipeD_get h2
theorem wipeD_len {σ : Env} : ∀ {vs : List Nat}, (wipeD σ vs).length = σ.length
  | [] => rfl
  | v :: vs => by simp [wipeD, wipeD_len (vs := vs)]
/-- what the target sets anew -/
theorem set_wipe {σ τ : Env} {i : Nat} {x : Option D} (hl : σ.length = τ.length) (h : ∀ k, k ≠ i → σ[k]? = τ[k]?) : σ.set i x = τ.set i x := by
  refine List.ext_getElem? fun k => ?_
  rw [List.getElem?_set, List.getElem?_set, hl]
  by_cases q : i = k
  · rw [if_pos q, if_pos q]
  · rw [if_neg q, if_neg q]; exact h k fun z => q z.symm
theorem bind_wipe {t : Tg} {d : D} {σ : Env} {vs : List Nat} (h : ∀ i ∈ vs, i ∈ tgIxs t) : bindTg t d (wipeD σ vs) = bindTg t d σ := by
  cases t with
  | one i =>
    simp only [bindTg]
    congr 1
    exact set_wipe wipeD_len fun k hk => wipeD_get fun z => hk (by simpa [tgIxs] using h k z)
  | two i j =>
    simp only [bindTg]
    split
    · congr 1
      refine set_wipe (by rw [List.length_set, List.length_set, wipeD_len]) fun k hk => ?_
      rw [List.getElem?_set, List.getElem?_set, wipeD_len]
      by_cases q : i = k
      · rw [if_pos q, if_pos q]
      · rw [if_neg q, if_neg q]
        refine wipeD_get fun z => ?_
        have := h k z
        simp [tgIxs] at this
        rcases this with z | z
        · exact q z.symm
        · exact hk z
    · rfl
theorem wipe_get_in {σ : L2.St} {i : Nat} : ∀ {vs : List Nat}, i ∈ vs → i < σ.length → (wipe σ vs)[i]? = some none
  | v :: vs, h, hl => by
    simp only [L2.wipe]
    by_cases q : v = i
    · subst q
      rw [List.getElem?_set_self (by rw [wipe_length]; exact hl)]
    · rw [List.getElem?_set_ne q]
      exact wipe_get_in (by simpa [Ne.symm q] using h) hl
/-- two states that differ in those names only -/
theorem wipe_eq {σ σ' : L2.St} {vs : List Nat} (hl : σ'.length = σ.length) (h : ∀ i, i ∉ vs → σ'[i]? = σ[i]?) : wipe σ' vs = wipe σ vs := by
  refine List.ext_getElem? fun i => ?_
  by_cases q : i ∈ vs
  · by_cases hi : i < σ.length
    · rw [wipe_get_in q hi, wipe_get_in q (by omega)]
    · rw [List.getElem?_eq_none (by rw [wipe_length]; omega), List.getElem?_eq_none (by rw [wipe_length]; omega)]
  · rw [wipe_out q, wipe_out q]; exact h i q
theorem tg_runW {K : PySem.W.Frag} {M : Nm} {t : Tg} {d : D} {v : V} {σ : L2.St} {σd σd' : Env} {S : Store} {ρ : List Addr} {H : Hp} {Q : L2.St → Hp → Prop} {vs : List Nat} (er : ER M S ρ H (wipe σ vs) σd) (r : VR M S ρ H v d) (h : bindTg t d σd = some σd')
    (ht : ∀ i ∈ tgIxs t, i ∈ vs) (q : ∀ σ', ER M S ρ H σ' σd' → wipe σ' vs = wipe σ vs → Q σ' H) : gTg K t v (wipe σ vs) H Q := by
  cases t with
  | one i =>
    simp only [bindTg] at h
    cases h
    refine q _ (er.set i r) (wipe_eq (by rw [List.length_set, wipe_length]) fun k hk => ?_)
    have : i ≠ k := fun z => hk (by rw [← z]; exact ht i (by simp [tgIxs]))
    rw [List.getElem?_set_ne this, wipe_out hk]
  | two i j =>
    simp only [bindTg] at h
    split at h
    · rename_i x y
      cases h
      cases r with
      | tup h hz r =>
        cases r with
        | cons r1 r =>
          cases r with
          | cons r2 r =>
            cases r
            refine ⟨_, _, rfl, .inl (.inl h), rfl, _, _, rfl, _, _, rfl, rfl, q _ ((er.set i r1).set j r2) (wipe_eq (by rw [List.length_set, List.length_set, wipe_length]) fun k hk => ?_)⟩
            have q1 : i ≠ k := fun z => hk (by rw [← z]; exact ht i (by simp [tgIxs]))
            have q2 : j ≠ k := fun z => hk (by rw [← z]; exact ht j (by simp [tgIxs]))
            rw [List.getElem?_set_ne q2, List.getElem?_set_ne q1, wipe_out hk]
    · cases h
/-! ### the comprehension -/
abbrev noE : XK := fun _ _ _ => False
theorem calm_post {α : Type} {M : Nm} {G : Gx} {E : XK} {S : Store} {ρ : List Addr} {H : Hp} {r : Res α} {K : α → Store → List Addr → Hp → Prop} (h : PostG M G E S ρ H r.calm K) : PostG M G noE S ρ H r K := by
  cases r with
  | ok a S' => exact h
  | exc c d S' => exact h.elim
  | bad => exact h
theorem calm_bind {α β : Type} {M : Nm} {G : Gx} {E : XK} {S : Store} {ρ : List Addr} {H : Hp} {r : Res α} {f : α → Store → Res β} {K : β → Store → List Addr → Hp → Prop} (h : PostG M G E S ρ H (r.calm.bind f) K) :
    PostG M G noE S ρ H r fun a S1 _ _ => PostG M G E S ρ H (f a S1) K := calm_post (PostG.bind0 h)
/-- an expression where no exception may pass -/
def tEn (M : Nm) (G : Gx) (m : Env → Store → Res Sq) : TE := fun σ H Q => ∃ S ρ σd, Good M S ρ H ∧ ER M S ρ H σ σd ∧ PostG M G noE S ρ H (m σd S) (KE M H Q)
def tTn (M : Nm) (G : Gx) (m : Env → Store → Res Bool) : TT := fun σ H Q => ∃ S ρ σd, Good M S ρ H ∧ ER M S ρ H σ σd ∧ PostG M G noE S ρ H (m σd S) fun b _ _ H' => Q b H'
theorem guarded_ok {α : Type} {M : Nm} {G : Gx} {g : Grd} {E : XK} {S S' : Store} {ρ : List Addr} {H : Hp} {r : Res α} {K : α → Store → List Addr → Hp → Prop} (h : PostG M G E S ρ H (guarded g S' r) K) : grdOk g S' ∧ PostG M G E S ρ H r K := by
  unfold guarded at h
  by_cases q : grdOk g S'
  · rw [if_pos q] at h; exact ⟨q, h⟩
  · rw [if_neg q] at h; exact h.elim
theorem xt_no {X : Cx} : XT X noE := takes_none5
section
variable {X : Cx} {M : Nm} {G : Gx} {e o : Expr} {cal : Nat → List D → Store → Res D}
def tIf (M : Nm) (G : Gx) (hasIf : Bool) (m : Env → Store → Res Bool) : TT := match hasIf with
  | true => tTn M G m
  | false => tYes
/-- the body of a turn -/
noncomputable abbrev lcBody (mc : Env → Store → Res Bool) (me : Env → Store → Res Sq) (t : Tg) (hasIf : Bool) (σ : Env) : D → Store → Res (Option D) := fun x S2 => match bindTg t x σ with
  | none => .bad
  | some σ2 => if hasIf = true then (mc σ2 S2).bind fun k S4 => if k = true then (me σ2 S4).bind fun q S5 => (mat q S5).bind fun d S6 => .ok (some d) S6 else .ok none S4
    else (me σ2 S2).bind fun q S5 => (mat q S5).bind fun d S6 => .ok (some d) S6
theorem lc_turns {mi : Env → Store → Res (List D × Grd)} {mc : Env → Store → Res Bool} {me : Env → Store → Res Sq} {t : Tg} {hasIf : Bool} {vs : List Nat} {E : XK} {S : Store} {ρ : List Addr} {H : Hp} {σ : L2.St} {σd : Env} {Q : VK} (h1 : ∀ i ∈ vs, i ∈ tgIxs t) (h2 : ∀ i ∈ tgIxs t, i ∈ vs)
    (xt : XT X E) (gd : Good M S ρ H) (er : ER M S ρ H σ σd) (h : PostG M G E S ρ H ((mi σd S).bind fun w S1 => (lcLoop w.2 (lcBody mc me t hasIf σd) w.1 [] S1).bind fun ys S3 => .ok (.fresh ys) S3) (KE M H Q)) :
    tLc (tIv X M G mi) (gTg X.K t) (tIf M G hasIf mc) (tEn M G me) vs σ H Q := by
  refine ⟨E, S, ρ, σd, xt, gd, er, (PostG.bind gd h).imp fun w S1 ρ1 H1 e1 n1 g1 h3 J wk => ?_⟩
  intro L hL
  have hL0 : H L = none := n1.none_back gd g1 hL
  generalize hK : (fun (ys : List D) (S3 : Store) (_ : List Addr) (_ : Hp) => PostG M G E S1 ρ1 H1 (.ok (.fresh ys) S3) (KE M H Q)) = K
  have h3 : PostG M G E S1 ρ1 H1 (lcLoop w.2 (lcBody mc me t hasIf σd) w.1 [] S1) K := by rw [← hK]; exact PostG.bind0 h3
  refine ⟨fun i m H' => m = w.1.length - i ∧ i ≤ w.1.length ∧ ∃ S' ρ' acc us, Nx S1 ρ1 H1 S' ρ' H' ∧ Good M S' ρ' H' ∧ H' L = some (.lst us) ∧ VRs M S' ρ' H' us acc ∧ L ∉ ρ' ∧ us.length ≤ i ∧
    PostG M G E S1 ρ1 H1 (lcLoop w.2 (lcBody mc me t hasIf σd) (w.1.drop i) acc S') K,
    ⟨_, rfl, Nat.zero_le _, S1, ρ1, [], [], Nx.alloc g1 hL, g1.alloc hL, upd_same, .nil, g1.fresh hL, Nat.zero_le _, h3⟩, ?_⟩
  rintro i m H' ⟨rfl, hi, S', ρ', acc, us, n', g', hLu, ru, nL, hul, h'⟩
  by_cases hlt : i < w.1.length
  · rw [List.drop_eq_getElem_cons hlt] at h'
    unfold lcLoop at h'
    obtain ⟨gr, h'⟩ := guarded_ok h'
    obtain ⟨go, yl⟩ := wk.at_ S' ρ' H' n' g' gr i _ (List.getElem?_eq_getElem hlt)
    refine .inr ⟨go, fun H2 => i + 1 ≤ w.1.length ∧ ∃ S' ρ' acc us, Nx S1 ρ1 H1 S' ρ' H2 ∧ Good M S' ρ' H2 ∧ H2 L = some (.lst us) ∧ VRs M S' ρ' H2 us acc ∧ L ∉ ρ' ∧ us.length ≤ i + 1 ∧
      PostG M G E S1 ρ1 H1 (lcLoop w.2 (lcBody mc me t hasIf σd) (w.1.drop (i + 1)) acc S') K,
      fun H2 q => ⟨w.1.length - (i + 1), by omega, rfl, q.1, q.2⟩, fun x H2 y => ?_⟩
    obtain ⟨n2, g2, rx⟩ := yl x H2 y
    have n12 : Nx S1 ρ1 H1 S' ρ' H2 := n'.trans g1 g' n2
    have h4 := calm_bind h'
    have er2 : ER M S' ρ' H2 (wipe σ vs) (wipeD σd vs) := ((er.nx n1 gd).nx n12 g1).wipe vs
    have keepL : ∀ {S5 ρ5 H5}, Nx S' ρ' H2 S5 ρ5 H5 → H5 L = some (.lst us) ∧ L ∉ ρ5 := fun {S5 ρ5 H5} n5 => by
      have z : H2 L = some (.lst us) := n2.kept _ _ hLu fun l => nL l.mem
      exact ⟨n5.kept _ _ z fun l => nL l.mem, n5.notin z nL⟩
    unfold lcBody at h4
    cases hb : bindTg t w.1[i] σd with
    | none => rw [hb] at h4; exact h4.elim
    | some σ3 =>
      rw [hb] at h4
      dsimp only at h4
      refine tg_runW er2 rx (by rw [bind_wipe h1]; exact hb) h2 fun σ4 er4 hw => ⟨hw, ?_⟩
      -- an item comes
      have item : ∀ S5 ρ5 H5, Nx S' ρ' H2 S5 ρ5 H5 → Good M S5 ρ5 H5 → ER M S5 ρ5 H5 σ4 σ3 → PostG M G noE S1 ρ1 H1 ((me σ3 S5).bind fun q S5 => (mat q S5).bind fun d S6 => Res.ok (some d) S6) (fun o S1' _ _ => PostG M G E S1 ρ1 H1 (match o with
          | some d => lcLoop w.2 (lcBody mc me t hasIf σd) (w.1.drop (i + 1)) (acc ++ [d]) S1'
          | none => lcLoop w.2 (lcBody mc me t hasIf σd) (w.1.drop (i + 1)) acc S1') K) →
          tEn M G me σ4 H5 fun y H6 => ∃ acc', H6 L = some (.lst acc') ∧ acc'.length < sizeLine ∧ (i + 1 ≤ w.1.length ∧ ∃ S' ρ' acc us, Nx S1 ρ1 H1 S' ρ' (upd H6 L (.lst (acc' ++ [y]))) ∧ Good M S' ρ' (upd H6 L (.lst (acc' ++ [y]))) ∧ upd H6 L (.lst (acc' ++ [y])) L = some (.lst us) ∧ VRs M S' ρ' (upd H6 L (.lst (acc' ++ [y]))) us acc ∧ L ∉ ρ' ∧ us.length ≤ i + 1 ∧
            PostG M G E S1 ρ1 H1 (lcLoop w.2 (lcBody mc me t hasIf σd) (w.1.drop (i + 1)) acc S') K) := by
        intro S5 ρ5 H5 n5 g5 er5 h5
        have n15 : Nx S1 ρ1 H1 S5 ρ5 H5 := n12.trans g1 g2 n5
        refine ⟨S5, ρ5, σ3, g5, er5, (PostG.later g1 g5 n15 (PostG.bind0 h5)).imp fun q S6 ρ6 H6 e6 n6 g6 h7 y hy => ?_⟩
        obtain ⟨d, S7, ρ7, e7, n7, g7, r7⟩ := mat_ok g5 n6 g6 hy
        rw [e7] at h7
        have n57 : Nx S' ρ' H2 S7 ρ7 H6 := n5.trans g2 g5 n7
        obtain ⟨hL6, nL6⟩ := keepL n57
        have nB : Nx S1 ρ1 H1 S7 ρ7 H6 := n12.trans g1 g2 n57
        have h8 : PostG M G E S1 ρ1 H1 (lcLoop w.2 (lcBody mc me t hasIf σd) (w.1.drop (i + 1)) (acc ++ [d]) S7) K := h7 _ _ nB g7
        have ru6 : VRs M S7 ρ7 H6 us acc := (ru.nx n2 g').nx n57 g2
        have hlen := wk.len
        exact ⟨us, hL6, by omega, hlt, S7, ρ7, acc ++ [d], us ++ [y], nB.over hL, g7.over hL6 nL6, upd_same, (VRs.append ru6 (.cons r7 .nil)).over hL6, nL6, by simp; omega, h8⟩
      cases hasIf with
      | false => exact item S' ρ' H2 Nx.refl g2 er4 h4
      | true =>
        rw [if_pos rfl] at h4
        refine ⟨S', ρ', σ3, g2, er4, (PostG.later g1 g2 n12 (PostG.bind0 h4)).imp fun k S6 ρ6 H6 e6 n6 g6 h7 => ?_⟩
        cases k with
        | true =>
          rw [if_pos rfl] at h7 ⊢
          exact item S6 ρ6 H6 n6 g6 (er4.nx n6 g2) h7
        | false =>
          rw [if_neg Bool.false_ne_true] at h7 ⊢
          have nB : Nx S1 ρ1 H1 S6 ρ6 H6 := n12.trans g1 g2 n6
          obtain ⟨hL6, nL6⟩ := keepL n6
          exact ⟨hlt, S6, ρ6, acc, us, nB, g6, hL6, (ru.nx n2 g').nx n6 g2, nL6, by omega, h7 _ _ nB g6⟩
  · have e : i = w.1.length := by omega
    subst e
    rw [List.drop_length] at h'
    unfold lcLoop at h'
    obtain ⟨gr, h'⟩ := guarded_ok h'
    have hlen := wk.len
    have h5 := h' _ _ n' g'
    rw [← hK] at h5
    exact .inl ⟨wk.end_ S' ρ' H' n' g' gr, h5 _ _ n' g' _ (.fresh hLu (by omega) ru nL hL0)⟩
def isSetE : Expr → Bool
  | .Set _ _ _ => true
  | _ => false
section
variable {it : CIt} {c : CE} {b : CE} {t : Tg} {hasIf : Bool} {tg iter elt : Expr} {ifs : List Expr} {scope : Scope} {own : List (Str × Nat)} {pos : Pos}
/-- what is asked of the block -/
structure LcOk (X : Cx) (M : Nm) (G : Gx) (cal : Nat → List D → Store → Res D) (it : CIt) (c b : CE) (t : Tg) (hasIf : Bool) (tg iter elt : Expr) (ifs : List Expr) (scope : Scope) (own : List (Str × Nat)) : Prop where
  hc : X.calm = true
  hN : X.N.Nodup
  hi : SI X M G tg iter (evIt G cal it)
  ok : BlkOk X.N X.env.scope scope own
  hg : ∀ (s : Shared) (H : Hp) (C : Addr) (cl : List (Str × Addr)) (fp : List Addr), TgOk (X.blk s H scope (compEnvC scope cl C X.env) fp) t tg
  ht : ∀ (s : Shared) (H : Hp) (C : Addr) (cl : List (Str × Addr)) (fp : List Addr), PTs (X.blk s H scope (compEnvC scope cl C X.env) fp) ifs (tIf M G hasIf (tr (ev G cal c)))
  he : ∀ (s : Shared) (H : Hp) (C : Addr) (cl : List (Str × Addr)) (fp : List Addr), SE (X.blk s H scope (compEnvC scope cl C X.env) fp) M G elt (ev G cal b)
  h1 : ∀ i ∈ own.map (·.2), i ∈ tgIxs t
  h2 : ∀ i ∈ tgIxs t, i ∈ own.map (·.2)
  hs : ∀ x, foldedSetIterable iter X.env x = pure x
theorem LcOk.go (l : LcOk X M G cal it c b t hasIf tg iter elt ifs scope own) {σ : L2.St} {H : Hp} {Q : VK} (h : tEv X M G (ev G cal (.lc t it hasIf c b)) σ H Q) :
    tLc (tIv X M G (evIt G cal it)) (gTg X.K t) (tIf M G hasIf (tr (ev G cal c))) (tEn M G (ev G cal b)) (own.map (·.2)) σ H Q := by
  obtain ⟨E, S, ρ, σd, xt, gd, er, h⟩ := h
  unfold ev at h
  exact lc_turns l.h1 l.h2 xt gd er h
theorem te_blk {X : Cx} {e : Expr} {m : Env → Store → Res Sq} (h : SE X M G e m) : PE X e (tEn M G m) := PE.imp h fun σ H Q ⟨S, ρ, σd, g, er, h⟩ => ⟨noE, S, ρ, σd, xt_no, g, er, h⟩
theorem tt_blk {X : Cx} {e : Expr} {m : Env → Store → Res Bool} (h : ST X M G e m) : PT X e (tTn M G m) := PT.imp h fun σ H Q ⟨S, ρ, σd, g, er, h⟩ => ⟨noE, S, ρ, σd, xt_no, g, er, h⟩
theorem se_lc (l : LcOk X M G cal it c b t hasIf tg iter elt ifs scope own) : SE X M G (.ListComp elt [⟨tg, iter, ifs, 0⟩] scope pos) (ev G cal (.lc t it hasIf c b)) :=
  PE.imp (pe_lc l.hc l.hN l.hi l.ok (fun s H C cl fp => tg_pg (X := X.blk s H scope (compEnvC scope cl C X.env) fp) l.hc l.hN (l.hg s H C cl fp)) l.ht (fun s H C cl fp => te_blk (l.he s H C cl fp)) l.hs) fun σ H Q h => l.go h
theorem ss_setLc {i : Nat} {x : Str} {p spos : Pos} (l : LcOk X M G cal it c b t hasIf tg iter elt ifs scope own) (hi : Sl X i x) (hy : X.env.scope.names.lookup x = some .local) (hsw : swapsWith (.ListComp elt [⟨tg, iter, ifs, 0⟩] scope pos) (some (.Name x p)) spos.line X.env = pure true) :
    SS X M G (.Assign [.Name x p] (.ListComp elt [⟨tg, iter, ifs, 0⟩] scope pos) spos) (exec G cal (.set i (.lc t it hasIf c b))) :=
  PS.imp (ps_setLc l.hc l.hN hi.at_ hy hsw l.hi l.ok (fun s H C cl fp => tg_pg (X := X.blk s H scope (compEnvC scope cl C X.env) fp) l.hc l.hN (l.hg s H C cl fp)) l.ht (fun s H C cl fp => te_blk (l.he s H C cl fp)) l.hs) fun D σ H h => by
    obtain ⟨E, S, ρ, σd, xt, gd, er, h⟩ := h
    unfold exec at h
    exact l.go (oneS xt gd er h fun d x S2 ρ2 H2 n2 g2 hx h2 => h2.nx_ g2 ((er.nx n2 gd).set i hx))
/-- .. also where the store is plain -/
theorem ss_setLc0 {i : Nat} {x : Str} {p spos : Pos} (l : LcOk X M G cal it c b t hasIf tg iter elt ifs scope own) (hi : Sl X i x) (hsw : swapsWith (.ListComp elt [⟨tg, iter, ifs, 0⟩] scope pos) (some (.Name x p)) spos.line X.env = pure false) :
    SS X M G (.Assign [.Name x p] (.ListComp elt [⟨tg, iter, ifs, 0⟩] scope pos) spos) (exec G cal (.set i (.lc t it hasIf c b))) :=
  PS.imp (ps_set l.hN hi.at_ hi.loc (se_lc l) hsw hi.fn) fun D σ H h => by
    obtain ⟨E, S, ρ, σd, xt, gd, er, h⟩ := h
    unfold exec at h
    exact oneS xt gd er h fun d x S2 ρ2 H2 n2 g2 hx h2 => h2.nx_ g2 ((er.nx n2 gd).set i hx)
end
end
end DI
end

section
set_option Elab.async false
set_option linter.all false
set_option maxRecDepth 100000
/-! DITry: raise, try. -/
namespace DI
open PySem PySem.Spec L2 PyProof.Rows
abbrev St := L2.St
/-- what the clauses (all 'as' the name of slot i) wish of an exception of the body, one after the other -/
def wAM (K : PySem.W.Frag) (n i : Nat) (Wout : WX) (D : Ends) : List (Value × (Addr → Value → Option Addr → TS)) → WX
  | [] => Wout
  | (c, ts) :: r => fun kl d σ H => ∃ b, PySem.W.exmOne K kl c = some b ∧ (b = true → σ.length = n → ∀ a, H a = none → ts a kl d { nx := fun ς Hc => D.nx (ς.set i none) Hc, rt := D.rt, bk := fun ς Hc => D.bk (ς.set i none) Hc, ct := fun ς Hc => D.ct (ς.set i none) Hc } (σ.set i (some (.ref a))) H) ∧
    (b = false → wAM K n i Wout D r kl d σ H)
inductive HdsAs (X : Cx) (i : Nat) (nm : Str) : List ExceptHandler → List (Value × (Addr → Value → Option Addr → TS)) → Prop where
  | nil : HdsAs X i nm [] []
  | cons {x : Str} {c : Value} {ts : Addr → Value → Option Addr → TS} {bf : Stmt} {suite : List Stmt} {np pos' : Pos} {hds : List ExceptHandler} {l : List (Value × (Addr → Value → Option Addr → TS))} (hc : Names X x c)
      (hsu : ∀ (a : Addr) (ob : Obj) (kl : Value) (d : Option Addr) (pn : List (Addr × Obj)), Zc kl d ob → (∃ ws, ob.data = .fields ws) → PSs (X.suite a ((a, ob) :: pn)) (bf :: suite) (ts a kl d)) (r : HdsAs X i nm hds l) :
      HdsAs X i nm (.ExceptHandler (some (.Name x np)) (some nm) (bf :: suite) pos' :: hds) ((c, ts) :: l)
section
variable {X : Cx} {body : List Stmt} {hd0 : ExceptHandler} {hds : List ExceptHandler} {l : List (Value × (Addr → Value → Option Addr → TS))} {pos : Pos} {tb : WX → TS} {Wout : WX} {i : Nat} {nm : Str}
theorem ps_tryAs (hst : X.stack = X.env :: X.outer) (hf : X.env.frame = some X.env.locals) (hNd : X.N.Nodup) (hi : X.N[i]? = some nm) (hln : X.env.kindOf nm = some .local) (tk : Takes X Wout)
    (hb : ∀ (W : WX) (pn : List (Addr × Obj)) (xe : Value → Shared → Prop), Takes (X.tr pn xe) W → PassesOwn (model X.prog X.w) X.A X.env xe → PSs (X.tr pn xe) body (tb W))
    (hh : HdsAs X i nm (hd0 :: hds) l) : PS X (.Try body (hd0 :: hds) [] [] pos) (fun D σ H => tb (wAM X.K X.N.length i Wout D l) D σ H) := by
  refine ⟨fun pn0 s σ H D I h => ?_⟩
  have okX := I.ok
  have hframes : X.A.frames = some (X.env :: X.outer) := by rw [okX.frames, hst]
  refine wpAny_Try_except ?_
  refine wpAny_mono ((hb (wAM X.K X.N.length i Wout D l) (X.pn ++ pn0) (fun e u1 => wpAny (model X.prog X.w) X.A (noteFrame e X.env) (fun _ u2 => wpAny (model X.prog X.w) X.A (setFlight e none) (fun _ u3 =>
    wpAny (model X.prog X.w) X.A (handleBy e X.env (hd0 :: hds)) (SP X pn0 D) X.xe u3) X.xe u2) X.xe u1) (fun u t0 xx => ?_) PassesOwn.looking).run [] s σ H D (I.toTry _) h) (fun f t1 hq0 => ?_) (fun e t1 hE0 => hE0)
  · -- the catch
    obtain ⟨a, Bs, sJ, pn1, ς, Hc, kl, d, rfl, Jc, nbs, upw, sk, nas, oss, ags, ww⟩ := xx
    have Jd : Inv X pn0 ς Hc sJ := Jc.ofTry okX
    have sk' : Sky Bs (X.env :: X.outer) a (Zc kl d) X.env.locals t0.heap := by rw [← hst]; exact sk
    show wpAny (model X.prog X.w) X.A (noteFrame (.ref a) X.env) _ _ _
    refine Sky.land Zc.steady hframes hf sk' fun hp3 fly3 upw3 => ?_
    have Jt3 : Inv X pn0 ς Hc { t0 with heap := hp3 } := Jd.landed nbs fly3.1 (upw.trans upw3) oss ags
    obtain ⟨ob3, ws3, ge3, gz3, gd3⟩ := fly3.there
    have notFrm : ∀ {h : Heap} {o : Obj} {wsx : Array Value}, h.FunFrames Bs (X.env :: X.outer) → h.get? a = some o → o.data = .fields wsx → a ∉ frs (X.env :: X.outer) := fun {h o wsx} ff e dd hm => by
      obtain ⟨_, o', e', hnf⟩ := ff.mem hm
      rw [e] at e'; cases e'
      exact hnf _ dd
    have nofr := notFrm fly3.2.2.1 ge3 gd3
    have notL : a ≠ X.env.locals := fun z => nofr (List.mem_filterMap.mpr ⟨X.env, List.mem_cons_self, by rw [hf, z]⟩)
    have notF : a ∉ X.fs := fun hm => by
      obtain ⟨e, hE0, q⟩ := List.mem_filterMap.mp hm
      exact nofr (List.mem_filterMap.mpr ⟨e, List.mem_cons_of_mem _ hE0, q⟩)
    have Su3 := Jt3.suite ge3 gd3 nas notL notF
    have go : ∀ {hds' : List ExceptHandler} {l' : List (Value × (Addr → Value → Option Addr → TS))}, HdsAs X i nm hds' l' → wAM X.K X.N.length i Wout D l' kl d ς Hc →
        wpAny (model X.prog X.w) X.A (handleBy (.ref a) X.env hds') (SP X pn0 D) X.xe { t0 with heap := hp3 } := by
      intro hds' l' hk
      induction hk with
      | nil =>
        intro ww
        refine wpAny_handleBy_nil ?_
        obtain ⟨kk1, kk2, kk3, obx, wsx, Tb, obT, tsx, hE0, hZ, hD0, hA1, hR0⟩ := id fly3
        unfold PySem.passOn
        refine wpAny_bind (wpAny_field hE0 hD0 hA1 ?_)
        rw [if_neg (show ¬ ((Value.ref Tb == Value.none) = true) from by simp)]
        have fin : wpAny (model X.prog X.w) X.A (setFlight (.ref a) X.env.frame) (fun _ t4 => wpAny (model X.prog X.w) X.A (throw (.ref a) : Sem Flow) (SP X pn0 D) X.xe t4) X.xe { t0 with heap := hp3 } := by
          rw [hf]
          refine HandSPX.setFlight_upZ fly3 fun hp4 hw4 upw4 => wpAny_throw (tk _ _ ?_)
          exact ⟨a, Bs, sJ, pn0, ς, Hc, kl, d, rfl, Jd, nbs, (upw.trans upw3).trans upw4, .inr (.inr (by rw [hst]; exact hw4)), nas, oss, ags, ww⟩
        first
          | exact wpAny_bind (wpAny_pure (wpAny_bind fin))
          | exact wpAny_bind fin
      | @cons x c ts bf suite np pos' hds2 l2 hc hsu r ih =>
        intro ww
        obtain ⟨b, he1, hY, hN0⟩ := ww
        refine wpAny_handleBy_cons (codeAny_handlers_test ?_) (by intro q; cases q)
        have lookT : PySem.W.Looks (model X.prog X.w) hp3 (typeOf (.ref a)) kl := fun A Q E s k q => wpAny_typeOf_ref (k _ _ ge3) (by rw [gz3.1]; exact q)
        have lookM := PySem.W.exm_one (M := model X.prog X.w) (Jt3.kIn) lookT he1
        have tst : ∀ {Q : Value → Shared → Prop} {E : Value → Shared → Prop}, Q c { t0 with heap := hp3 } → wpAny (model X.prog X.w) (X.A.mark (some (.ref a))) (eval (.Name x np) X.env) Q E { t0 with heap := hp3 } := fun {Q E} q => by
          obtain ⟨hg, hdbg, hm | ⟨hm, hv, hnn⟩⟩ := hc
          · exact ld_glob (X := X.suite a ((a, ob3) :: (X.pn ++ pn0))) Su3 hg hm q hdbg
          · exact ld_blt (X := X.suite a ((a, ob3) :: (X.pn ++ pn0))) Su3 hg hm hv q hnn hdbg
        refine tst (lookM.here ?_)
        cases b with
        | true =>
          refine codeAny_handlers_suite_as ?_
          refine HandSPX.lands_againZ fly3 fun hp4 fly4 upw4 => ?_
          have Jt4 : Inv X pn0 ς Hc { t0 with heap := hp4 } := Jd.landed nbs fly4.1 ((upw.trans upw3).trans upw4) oss ags
          obtain ⟨ob4, ws4, ge4, gz4, gd4⟩ := fly4.there
          have Su4 := Jt4.suite ge4 gd4 nas notL notF
          refine store_ok (X := X.suite a ((a, ob4) :: (X.pn ++ pn0))) (v := .ref a) Su4 hNd hi (.inl hln) rfl (fun t5 Su5 => ?_) (.inr hln)
          refine wpAny_mono ((hsu a ob4 kl d (X.pn ++ pn0) gz4 ⟨_, gd4⟩).run [] t5 _ Hc _ Su5 (hY rfl Jd.len a nas)) (fun f t6 hq0 => ?_) (fun _ _ z => False.elim z)
          have fin6 : ∀ {ς6 : St} {Hq : Hp} {Q : Shared → Prop}, Inv (X.suite a ((a, ob4) :: (X.pn ++ pn0))) [] ς6 Hq t6 → (∀ t7, Inv X pn0 (ς6.set i none) Hq t7 → Q t7) →
              wpAny (model X.prog X.w) X.A (do bindName X.env nm .none; unbindBehindTheSuite X.env nm pos') (fun _ t7 => Q t7) X.xe t6 := fun {ς6 Hq Q} Su6 q6 => gone_ok (Su6.unsuite okX) hNd hi hln q6
          cases f with
          | next =>
            obtain ⟨ς6, Hq, Su6, q6⟩ := hq0
            exact fin6 Su6 fun t7 J7 => ⟨_, _, J7, q6⟩
          | brk =>
            obtain ⟨ς6, Hq, Su6, q6⟩ := hq0
            exact fin6 Su6 fun t7 J7 => ⟨_, _, J7, q6⟩
          | cont =>
            obtain ⟨ς6, Hq, Su6, q6⟩ := hq0
            exact fin6 Su6 fun t7 J7 => ⟨_, _, J7, q6⟩
          | ret u =>
            obtain ⟨v6, ς6, Hq, Su6, r6, q6⟩ := hq0
            exact fin6 Su6 fun t7 J7 => ⟨_, _, _, J7, r6, q6⟩
        | false =>
          show wpAny _ X.A (handleBy (.ref a) X.env hds2) _ _ _
          exact ih (hN0 rfl)
    exact go hh ww
  · cases f with
    | next =>
      obtain ⟨ς, Hc, Jc, q⟩ := hq0
      exact wpAny_execs_nil ⟨ς, Hc, Jc.ofTry okX, q⟩
    | brk =>
      obtain ⟨ς, Hc, Jc, q⟩ := hq0
      exact ⟨ς, Hc, Jc.ofTry okX, q⟩
    | cont =>
      obtain ⟨ς, Hc, Jc, q⟩ := hq0
      exact ⟨ς, Hc, Jc.ofTry okX, q⟩
    | ret u =>
      obtain ⟨v, ς, Hc, Jc, r, q⟩ := hq0
      exact ⟨v, ς, Hc, Jc.ofTry okX, r, q⟩
end
/-! ### raise -/
/-- what an exception's own __init__ does: self.f = value -/
def spX (K : PySem.W.Frag) (f : Str) : Sp := fun vs H Q _ => ∃ (a C : Addr) (y : V), vs = [.ref a, y] ∧ OexC K C ∧ PySem.W.findIn K (.ref C) f = some none ∧ H a = some (exo a C none) ∧
  ∀ dx, H dx = none → dx ≠ a → Q .non (upd (upd H dx (exd dx [(f, y)])) a (exo a C (some dx)))
/-- what is asked of the exceptions -/
structure ExcF (U : Uv) (M : Nm) (G : Gx) : Prop where
  xa : ∀ c, G.exc.contains c = true → XfC U.K (M.ca c) ∧ PySem.W.findIn U.K (.ref (M.ca c)) (M.an (G.xattr c)) = some none ∧ OexC U.K (M.ca c)
  exm : ∀ c h, G.exc.contains c = true → G.hcl.contains h = true → PySem.W.exmOne U.K (.ref (M.ca c)) (.ref (M.ca h)) = some (G.sub c h)
  init : ∀ c, G.exc.contains c = true → ∃ fI fd ps, PySem.W.findIn U.K (.ref (M.ca c)) "__init__" = some (some (.ref fI)) ∧ PySem.W.typeIn U.K (.ref fI) = some (.type "function") ∧
    FnOk U.P U.w U.K U.mg U.base (CX U.P U.w) 1 fI fd ps (spX U.K (M.an (G.xattr c))) ∧ Binds U.K fd ps []
section
variable {U : Uv} {X : Cx} {M : Nm} {G : Gx} {e : Expr} {pos p p2 : Pos} {cal : Nat → List D → Store → Res D} {a : CE}
theorem ss_raise {c : Nat} {x : Str} (iu : Inn U X) (xf : ExcF U M G) (hcl : X.calm = true) (hc : G.exc.contains c = true) (hr : Room 2 X.A) (hg : Gl X x) (hm : U.mg x = some (.ref (M.ca c))) (hdb : (x == ("__debug__" : Str)) = false) (hs : starB e = false)
    (he : SE X M G e (ev G cal a)) : SS X M G (.Raise (some (.Call (.Name x p) [e] [] p2)) none pos) (exec G cal (.raise c a)) := by
  rw [← iu.mg] at hm
  obtain ⟨h1, h2, h3⟩ := xf.xa c hc
  obtain ⟨fI, fd, ps, h4, h5, h6, h7⟩ := xf.init c hc
  rw [← iu.K] at h2 h3 h4 h5
  refine ⟨fun pins s σ H D I h => ?_⟩
  obtain ⟨E, S, ρ, σd, xt, gd, er, h⟩ := h
  have F := iu.fn h6
  have pn : Passes (CX U.P U.w) X (fun _ _ _ => False) := by
    rw [← iu.prog, ← iu.w]
    exact passes_call xt fun _ _ _ _ z => z.elim
  refine (ps_raise hcl xt (pmk_oex h3 h4 h5 F hr (iu.bi h7) .nil pn hg hm (pa_cons he pa_nil (star_no hs)) hdb (star_no hs) (by rfl))).run pins s σ H D I ?_
  unfold exec at h
  refine oneS xt gd er h fun d y S2 ρ2 H2 n2 g2 hy h2' => ?_
  refine ⟨by show 1 ≤ 1000; decide, fun b hb => ⟨b, _, y, rfl, by rw [← iu.K]; exact h3, by rw [← iu.K]; exact h2, upd_same, fun dx hd hne => ⟨rfl, dx, [(M.an (G.xattr c), y)], upd_same, ?_, ?_, ?_⟩⟩⟩
  · rw [upd_ne hne, upd_same]
  · rw [upd_ne hne] at hd
    exact hd
  · rw [upd_ne hne] at hd
    have e : upd (del (upd (upd (upd H2 b (exo b (M.ca c) none)) dx (exd dx [(M.an (G.xattr c), y)])) b (exo b (M.ca c) (some dx))) b) dx (.xd [(M.an (G.xattr c), y)]) = upd H2 dx (.xd [(M.an (G.xattr c), y)]) := by
      funext z
      by_cases q : z = dx
      · subst q; rw [upd_same, upd_same]
      · rw [upd_ne q, upd_ne q]
        by_cases q2 : z = b
        · subst q2; rw [del_same, hb]
        · rw [del_ne q2, upd_ne q2, upd_ne q, upd_ne q2]
    rw [e]
    exact h2' _ _ y dx (Nx.alloc g2 hd) (g2.alloc hd) (hy.alloc g2 hd) upd_same
/-! ### try -/
/-- an except clause's suite -/
def tsR (M : Nm) (G : Gx) (i : Nat) (h : Hd) (a : Addr) (kl : Value) (dx : Option Addr) : TS := fun D σ H => ∃ c, G.exc.contains c = true ∧ kl = .ref (M.ca c) ∧ G.xattr c = h.attr ∧
  tRet (match h.tag with
    | some t => tTup (tCons (tC (.str t)) (tCons (tXf a kl dx (M.ca c) (M.an h.attr) (tVar i)) tNil))
    | none => tXf a kl dx (M.ca c) (M.an h.attr) (tVar i)) D σ H
/-- .. in the text -/
inductive HdOk (X : Cx) (M : Nm) (nm : Str) : Hd → ExceptHandler → Prop where
  | tag {x t : Str} {cls slot at_ : Nat} {np p1 p2 p3 p4 p5 p6 : Pos} {j k : Nat} (hc : Names X x (.ref (M.ca cls))) : HdOk X M nm ⟨cls, slot, some t, at_⟩ (.ExceptHandler (some (.Name x np)) (some nm) [.Return (some (.Tuple [.Constant (.str t) j p1, .Attribute (.Name nm p2) (M.an at_) p3] k p4)) p5] p6)
  | one {x : Str} {cls slot at_ : Nat} {np p2 p3 p5 p6 : Pos} (hc : Names X x (.ref (M.ca cls))) : HdOk X M nm ⟨cls, slot, none, at_⟩ (.ExceptHandler (some (.Name x np)) (some nm) [.Return (some (.Attribute (.Name nm p2) (M.an at_) p3)) p5] p6)
theorem hd_suite {i : Nat} {nm : Str} {h : Hd} {eh : ExceptHandler} (iu : Inn U X) (xf : ExcF U M G) (hi : X.N[i]? = some nm) (hln : X.env.kindOf nm = some .local) (hdb : (nm == ("__debug__" : Str)) = false) (hcd : (nm == ("__classdict__" : Str)) = false) (ho : HdOk X M nm h eh) {r : List ExceptHandler} {l : List (Value × (Addr → Value → Option Addr → TS))} (rest : HdsAs X i nm r l) :
    HdsAs X i nm (eh :: r) ((.ref (M.ca h.cls), tsR M G i h) :: l) := by
  have var : ∀ (a : Addr) (ob : Obj) (pn : List (Addr × Obj)) (p : Pos), PE (X.suite a ((a, ob) :: pn)) (.Name nm p) (tVar i) := fun a ob pn p => pe_var (X := X.suite a ((a, ob) :: pn)) hi (.inl hln) hdb hcd
  cases ho with
  | tag hc =>
    refine .cons hc (fun a ob kl d pn hz hf => ?_) rest
    refine ⟨fun pins s σ H D I h => ?_⟩
    obtain ⟨c, h1, rfl, h3, h4⟩ := h
    obtain ⟨x1, x2, x3⟩ := xf.xa c h1
    dsimp only at h3 h4
    rw [h3] at x2
    rw [← iu.K] at x1 x2
    exact (pss_one (ps_ret (pe_tup (pa_cons pe_str (pa_cons (pe_xf x1 x2 hz hf (var a ob pn _) (by rfl)) pa_nil))))).run pins s σ H D I h4
  | one hc =>
    refine .cons hc (fun a ob kl d pn hz hf => ?_) rest
    refine ⟨fun pins s σ H D I h => ?_⟩
    obtain ⟨c, h1, rfl, h3, h4⟩ := h
    obtain ⟨x1, x2, x3⟩ := xf.xa c h1
    dsimp only at h3 h4
    rw [h3] at x2
    rw [← iu.K] at x1 x2
    exact (pss_one (ps_ret (pe_xf x1 x2 hz hf (var a ob pn _) (by rfl)))).run pins s σ H D I h4
inductive HdsOk2 (X : Cx) (M : Nm) (nm : Str) : List Hd → List ExceptHandler → Prop where
  | nil : HdsOk2 X M nm [] []
  | cons {h : Hd} {hs : List Hd} {e : ExceptHandler} {es : List ExceptHandler} (o : HdOk X M nm h e) (r : HdsOk2 X M nm hs es) : HdsOk2 X M nm (h :: hs) (e :: es)
theorem hds_all {i : Nat} {nm : Str} (iu : Inn U X) (xf : ExcF U M G) (hi : X.N[i]? = some nm) (hln : X.env.kindOf nm = some .local) (hdb : (nm == ("__debug__" : Str)) = false) (hcd : (nm == ("__classdict__" : Str)) = false) {hs : List Hd} {es : List ExceptHandler} (o : HdsOk2 X M nm hs es) :
    HdsAs X i nm es (hs.map fun h => (.ref (M.ca h.cls), tsR M G i h)) := by
  induction o with
  | nil => exact .nil
  | cons o r ih => exact hd_suite iu xf hi hln hdb hcd o ih
theorem handle_ok {K : PySem.W.Frag} {n i : Nat} {E : XK} {S S1 : Store} {ρ ρ1 : List Addr} {H H1 : Hp} {D : Ends} {c : Nat} {d : DI.D} {v : V} {dx : Addr} (hK : K = U.K) (hin : i < n) (xf : ExcF U M G) (gd : Good M S ρ H) (n1 : Nx S ρ H S1 ρ1 H1) (g1 : Good M S1 ρ1 H1) (rv : VR M S1 ρ1 H1 v d) (hd : H1 dx = some (.xd [(M.an (G.xattr c), v)])) :
    ∀ hs : List Hd, (∀ h ∈ hs, G.hcl.contains h.cls = true) → PostS M G E S ρ H (handle G c d S1 hs) D → ∀ σ, wAM K n i (fun c d _ H => E c d H) D (hs.map fun h => (.ref (M.ca h.cls), tsR M G i h)) (.ref (M.ca c)) (some dx) σ H1
  | [], _, h, σ => h _ _ v dx n1 g1 rv hd
  | h :: hs, hh, hp, σ => by
    unfold handle at hp
    split at hp
    · rename_i hexc
      refine ⟨G.sub c h.cls, by rw [hK]; exact xf.exm c h.cls hexc (hh h (by simp)), fun hb hl a ha => ?_, fun hb => ?_⟩
      · rw [if_pos hb] at hp
        split at hp
        · rename_i hat
          refine ⟨c, hexc, rfl, hat, ?_⟩
          have hv : (σ.set i (some (.ref a)))[i]? = some (some (.ref a)) := List.getElem?_set_self (by rw [hl]; exact hin)
          have hx : ∀ Q : VK, Q v H1 → tXf a (.ref (M.ca c)) (some dx) (M.ca c) (M.an h.attr) (tVar i) (σ.set i (some (.ref a))) H1 Q := fun Q q => ⟨_, hv, rfl, rfl, dx, _, v, rfl, hd, by rw [hat]; simp, q⟩
          cases ht : h.tag with
          | none =>
            rw [ht] at hp
            exact hx _ (hp _ _ v n1 g1 rv)
          | some t =>
            rw [ht] at hp
            refine hx _ ⟨by show 2 ≤ sizeLine; decide, fun q hq => ?_⟩
            have g2 := g1.alloc (o := .tup [.str t, v]) hq
            exact hp _ _ _ (n1.trans gd g1 (Nx.alloc g1 hq)) g2 (.newTup g1 hq (by show 2 ≤ sizeLine; decide) (.cons (.str t) (.cons rv .nil)))
        · exact hp.elim
      · rw [if_neg (by rw [hb]; decide)] at hp
        exact handle_ok hK hin xf gd n1 g1 rv hd hs (fun h' z => hh h' (List.mem_cons_of_mem _ z)) hp σ
    · exact hp.elim
theorem ss_try {b : CSs} {hs : List Hd} {body : List Stmt} {e0 : ExceptHandler} {es : List ExceptHandler} {i : Nat} {nm : Str} (iu : Inn U X) (xf : ExcF U M G) (hst : X.stack = X.env :: X.outer) (hf : X.env.frame = some X.env.locals) (hNd : X.N.Nodup) (hi : X.N[i]? = some nm) (hln : X.env.kindOf nm = some .local)
    (hdb : (nm == ("__debug__" : Str)) = false) (hcd : (nm == ("__classdict__" : Str)) = false) (hh : ∀ h ∈ hs, G.hcl.contains h.cls = true) (o : HdsOk2 X M nm hs (e0 :: es))
    (hb : ∀ (pn : List (Addr × Obj)) (xe : Value → Shared → Prop), PassesOwn (model X.prog X.w) X.A X.env xe → SSs (X.tr pn xe) M G body (execs G cal b)) :
    SS X M G (.Try body (e0 :: es) [] [] pos) (exec G cal (.tryS b hs)) := by
  refine ⟨fun pins s σ H D I h => ?_⟩
  obtain ⟨E, S, ρ, σd, xt, gd, er, h⟩ := h
  refine (ps_tryAs (tb := fun W D σ H => ∃ E S ρ σd, (∀ c d σ H, E c d H → W c d σ H) ∧ Good M S ρ H ∧ ER M S ρ H σ σd ∧ PostS M G E S ρ H (execs G cal b σd S) D) (Wout := fun c d _ H => E c d H) hst hf hNd hi hln xt (fun W pn xe tk pw => PSs.imp (hb pn xe pw) fun D σ H ⟨E, S, ρ, σd, h1, h2, h3, h4⟩ =>
    ⟨E, S, ρ, σd, tk.imp h1, h2, h3, h4⟩) (hds_all iu xf hi hln hdb hcd o)).run pins s σ H D I ?_
  refine ⟨fun c d H => ∀ σ, wAM X.K X.N.length i (fun c d _ H => E c d H) D (hs.map fun h => (.ref (M.ca h.cls), tsR M G i h)) c d σ H, S, ρ, σd, fun c d σ H z => z σ, gd, er, ?_⟩
  unfold exec at h
  cases q : execs G cal b σd S with
  | ex c d S1 =>
    rw [q] at h
    exact fun ρ' H' v dx n1 g1 rv hd => handle_ok iu.K (List.getElem?_eq_some_iff.mp hi).1 xf gd n1 g1 rv hd hs hh h
  | _ => rw [q] at h; exact h
end
end DI
end

section
set_option Elab.async false
set_option linter.all false
set_option maxRecDepth 100000
/-! DIBind: plain parameters. -/
namespace DI
open PySem PySem.Spec L2
theorem zip_lookup : ∀ {ns : List Str} {us : List Value} {n : Str}, us.length = ns.length → n ∈ ns → ((ns.zip us).lookup n).isNone = false
  | a :: ns, u :: us, n, hl, h => by
    rw [List.zip_cons_cons, List.lookup_cons]
    cases q : n == a with
    | true => rfl
    | false =>
      refine zip_lookup (by simpa using hl) ?_
      have : n ≠ a := by simpa using q
      simpa [this] using h
  | _ :: _, [], _, hl, _ => by simp at hl
  | [], _, _, _, h => by cases h
theorem zip_filterMap : ∀ {ns : List Str} {us : List Value} (l : List (Str × Value)), ns.Nodup → us.length = ns.length → (∀ n ∈ ns, l.lookup n = (ns.zip us).lookup n) → ns.filterMap (fun n => (l.lookup n).map (n, ·)) = ns.zip us
  | [], [], _, _, _, _ => rfl
  | a :: ns, u :: us, l, nd, hl, h => by
    have h0 := h a (by simp)
    rw [List.zip_cons_cons, List.lookup_cons] at h0
    have : (a == a) = true := by simp
    rw [this] at h0
    rw [List.filterMap_cons, h0, List.zip_cons_cons]
    simp only [Option.map_some]
    congr 1
    obtain ⟨nd1, nd2⟩ := List.nodup_cons.mp nd
    refine zip_filterMap l nd2 (by simpa using hl) fun n hn => ?_
    rw [h n (by simp [hn]), List.zip_cons_cons, List.lookup_cons]
    have : (n == a) = false := by
      have : n ≠ a := fun z => nd1 (z ▸ hn)
      simpa using this
    rw [this]
  | [], _ :: _, _, _, hl, _ => by simp at hl
  | _ :: _, [], _, _, hl, _ => by simp at hl
theorem bind_plain {fd : FuncData} {as : List Arg} (hp : fd.params = ⟨[], as, none, [], [], none, []⟩) (hd : fd.defaults = .none) (nd : (as.map (·.arg)).Nodup) {us : List Value} (hl : us.length = (as.map (·.arg)).length) : bindArgs fd ⟨us, []⟩ = pure ((as.map (·.arg)).zip us) := by
  unfold bindArgs
  rw [hp, hd]
  have e1 : ∀ (l : List Str), (∀ n ∈ l, n ∈ as.map (·.arg)) → l.filter (fun n => (((as.map (·.arg)).zip us).lookup n).isNone) = [] := fun l h => by
    rw [List.filter_eq_nil_iff]
    intro n hn
    rw [zip_lookup hl (h n hn)]
    exact Bool.false_ne_true
  have e2 : ¬ us.length > as.length := by rw [hl, List.length_map]; omega
  have e3 := zip_filterMap ((as.map (·.arg)).zip us) nd hl fun _ _ => rfl
  simp [seqItems?, e2]
  rw [show notAStandIn Value.none = pure () from rfl, pure_bind, if_neg (by
    rw [e1 _ (fun n hn => by have := List.mem_of_mem_take hn; simpa using this)]
    simp), ← List.filterMap_map, e3]
end DI
end

section
set_option Elab.async false
set_option linter.all false
set_option maxRecDepth 100000
/-! DITab: tables of the module, with text keys. -/
namespace DI
open PySem PySem.Spec L2
open PyProof.Rows hiding St
/-- a table's value -/
inductive FlatR : V → D → Prop where
  | int (i : Int) : FlatR (.int i) (.int i)
  | str (s : Str) : FlatR (.str s) (.str s)
theorem FlatR.vr {M : Nm} {S : Store} {ρ : List Addr} {H : Hp} {v : V} {d : D} (r : FlatR v d) : VR M S ρ H v d := by
  cases r with
  | int i => exact .int i
  | str s => exact .str s
/-- the table of this name -/
structure TabF (K : PySem.W.Frag) (w : World) (mg : Str → Option Value) (nm : Str) (tb : List (Str × D)) : Prop where
  ex : ∃ (A : Addr) (es : Array DictEntry) (n : Nat), mg nm = some (.ref A) ∧ KDict K w A es n ∧ (∀ z, tb.lookup z = none → PySem.W.nsIn K A z = some none) ∧ (∀ z d, tb.lookup z = some d → ∃ u v, PySem.W.nsIn K A z = some (some u) ∧ RelV v u ∧ FlatR v d) ∧ es.toList.map He.keyOf = He.keysIn w.params (tb.map (·.1))
section
variable {U : Uv} {X : Cx} {M : Nm} {G : Gx} {e : Expr} {pos p : Pos} {a : CE} {cal : Nat → List D → Store → Res D} {x : Nat} {nm : Str}
theorem se_tin (iu : Inn U X) (tf : TabF U.K U.w U.mg nm (G.tab x)) (hg : Gl X nm) (hd : (nm == ("__debug__" : Str)) = false) (ha : SE X M G e (ev G cal a)) (hm : behindInMarks .In (.Name nm p) = false) :
    SE X M G (.Compare e [.In] [.Name nm p] pos) (ev G cal (.tin false x a)) := by
  obtain ⟨A, es, n, h1, kd, t0, t1, hk⟩ := tf.ex
  rw [← iu.K, ← iu.w] at kd
  rw [← iu.mg] at h1
  refine ⟨fun pins s σ H Q I h => (pe_cmpR (op_in_kd kd) ha (pe_glob (v := .ref A) hg h1 rfl hd) hm).run pins s σ H Q I ?_⟩
  obtain ⟨E, S, ρ, σd, xt, gd, er, h⟩ := h
  unfold ev at h
  refine ⟨E, S, ρ, σd, xt, gd, er, (PostG.bind gd h).imp fun q S1 ρ1 H1 e1 n1 g1 h1 y hy => ?_⟩
  split at h1
  · rename_i z
    cases hy with
    | val hy =>
      cases hy
      have h2 := h1.here g1
      cases q : (G.tab x).lookup z with
      | none =>
        rw [q] at h2
        refine ⟨z, none, rfl, rfl, by rw [iu.K]; exact t0 z q, h2 _ (.val (.bl _))⟩
      | some d =>
        rw [q] at h2
        obtain ⟨u, v, e2, _, _⟩ := t1 z d q
        refine ⟨z, some u, rfl, rfl, by rw [iu.K]; exact e2, h2 _ (.val (.bl _))⟩
  · exact h1.elim
theorem se_tget (iu : Inn U X) (tf : TabF U.K U.w U.mg nm (G.tab x)) (hg : Gl X nm) (hd : (nm == ("__debug__" : Str)) = false) (hb' : ∀ lo hi st p, e ≠ .Slice lo hi st p) (ha : SE X M G e (ev G cal a)) :
    SE X M G (.Subscript (.Name nm p) e pos) (ev G cal (.tget x a)) := by
  obtain ⟨A, es, n, h1, kd, t0, t1, hk⟩ := tf.ex
  rw [← iu.K, ← iu.w] at kd
  rw [← iu.mg] at h1
  refine ⟨fun pins s σ H Q I h => (pe_ix (pos := pos) ix_kdict (pe_glob (v := .ref A) hg h1 rfl hd) ha (ix_plain hb')).run pins s σ H Q I ?_⟩
  obtain ⟨E, S, ρ, σd, xt, gd, er, h⟩ := h
  unfold ev at h
  refine ⟨E, S, ρ, σd, xt, gd, er, (PostG.bind gd h).imp fun q S1 ρ1 H1 e1 n1 g1 h1 y hy => ?_⟩
  split at h1
  · rename_i z
    cases hy with
    | val hy =>
      cases hy
      obtain ⟨d, e2, h2⟩ := (PostG.bind g1 h1).lift_
      have h3 := h2.here g1
      obtain ⟨u, v, e3, r1, r2⟩ := t1 z d e2
      refine ⟨A, z, v, rfl, rfl, ⟨es, n, u, kd.at_, kd.lit, by rw [iu.K]; exact e3, r1⟩, h3.here g1 _ (.val r2.vr)⟩
  · exact h1.elim
end
/-- list(..) of a table -/
theorem keys_vals {P : Params} : ∀ {l : List DictEntry} {ks : List Str}, l.map He.keyOf = He.keysIn P ks → Vals (ks.map V.str) (l.map fun e => e.key) ∧ l.length = ks.length
  | [], [], _ => ⟨.nil, rfl⟩
  | [], _ :: _, h => by cases h
  | _ :: _, [], h => by cases h
  | e :: l, k :: ks, h => by
    have h1 : He.keyOf e :: l.map He.keyOf = some (k, PyData.keyHash P k) :: He.keysIn P ks := h
    injection h1 with h2 h3
    obtain ⟨i1, i2⟩ := keys_vals h3
    unfold He.keyOf at h2
    split at h2
    · rename_i x t q
      have h5 := (Prod.mk.inj (Option.some.inj h2)).1
      refine ⟨?_, by simp [i2]⟩
      rw [List.map_cons, List.map_cons, q, h5]
      exact .cons ⟨t, rfl⟩ i1
    · cases h2
theorem call_list_kd {X : Cx} {A : Addr} {es : Array DictEntry} {n : Nat} {ks : List Str} (hc : X.calm = true) (hl : X.K.lookup A = some ⟨.type "dict", none, .dict es n, #[]⟩) (lo : (A == sysModules) = false) (hk : es.toList.map He.keyOf = He.keysIn X.w.params ks) (hz : ks.length ≤ sizeLine) :
    CallR X (.type "list") (fun xs H Q => xs = [V.ref A] ∧ ∀ q, H q = none → Q (.ref q) (upd H q (.lst (ks.map V.str)))) := by
  intro pins s σ H xs us Q I r h
  obtain ⟨rfl, q⟩ := h
  obtain ⟨u, rfl, rx⟩ := r.one
  cases rx
  obtain ⟨kv, kl⟩ := keys_vals hk
  have ho := I.kIn A _ hl
  refine PySem.W.kdl_call (kdl_raw lo ⟨rfl, rfl, rfl⟩ rfl) (I.ok.hd hc) ho (by rw [← Array.length_toList, kl]; exact hz) fun h' tk acc' c' kp e it => ?_
  have ea : acc'.toList = es.toList.map fun e => e.key := by
    apply List.ext_getElem?
    intro j
    rw [List.getElem?_map]
    cases hj : acc'.toList[j]? with
    | none =>
      have h1 := List.getElem?_eq_none_iff.mp hj
      have h2 : acc'.toList.length = es.toList.length := by rw [Array.length_toList, Array.length_toList, it.1]
      rw [List.getElem?_eq_none (by omega)]
      rfl
    | some v =>
      obtain ⟨en, hen, hv⟩ := it.2 j v (by rw [← Array.getElem?_toList]; exact hj)
      rw [Array.getElem?_toList, hen, hv]
      rfl
  rw [← ea] at kv
  have hz' : (ks.map V.str).length ≤ sizeLine := by rw [List.length_map]; exact hz
  refine ⟨.ref s.heap.objs.size, _, I.laid (t' := tk) (o := .lst (ks.map V.str)) kp (Nat.le_refl _) ?_, rfl, q _ (I.hok.fresh (Nat.le_refl _))⟩
  exact ⟨hz', acc'.toList, c', kv, by rw [Array.toArray_toList]; exact e⟩
theorem vrs_strs {M : Nm} {S : Store} {ρ : List Addr} {H : Hp} : ∀ ks : List Str, VRs M S ρ H (ks.map V.str) (ks.map D.str)
  | [] => .nil
  | k :: ks => .cons (.str k) (vrs_strs ks)
section
variable {U : Uv} {X : Cx} {M : Nm} {G : Gx} {pos p p2 : Pos} {cal : Nat → List D → Store → Res D} {x : Nat} {nm : Str}
theorem se_tkeys (iu : Inn U X) (hc : X.calm = true) (tf : TabF U.K U.w U.mg nm (G.tab x)) (hg : Gl X nm) (hd : (nm == ("__debug__" : Str)) = false) (hg2 : Gl X "list") (hm2 : X.mg "list" = none) :
    SE X M G (.Call (.Name "list" p) [.Name nm p2] [] pos) (ev G cal (.tkeys x)) := by
  obtain ⟨A, es, n, h1, kd, t0, t1, hk⟩ := tf.ex
  rw [← iu.K, ← iu.w] at kd
  rw [← iu.w] at hk
  rw [← iu.mg] at h1
  refine ⟨fun pins s σ H Q I h => ?_⟩
  obtain ⟨E, S, ρ, σd, xt, gd, er, h⟩ := h
  unfold ev at h
  by_cases hz : (G.tab x).length ≤ sizeLine
  · rw [if_pos hz] at h
    have hpa : PA X [.Name nm p2] (tCons (tC (.ref A)) tNil) := pa_cons (pe_glob (v := .ref A) hg h1 rfl hd) pa_nil (star_no rfl)
    refine (pe_callTy (p := p) (pos := pos) (call_list_kd hc kd.at_ kd.low hk (by rw [List.length_map]; exact hz)) hg2 hm2 (by decide +kernel) hpa (by decide) (by decide) (star_no rfl)).run pins s σ H Q I ?_
    refine ⟨rfl, fun q hq => ?_⟩
    have e : ((G.tab x).map fun p => D.str p.1) = ((G.tab x).map (·.1)).map D.str := by rw [List.map_map]; rfl
    rw [e] at h
    exact h _ _ (Nx.alloc gd hq) (gd.alloc hq) _ (SqR.newLst gd hq hq (by rw [List.length_map, List.length_map]; exact hz) (vrs_strs ((G.tab x).map (·.1))))
  · rw [if_neg hz] at h
    exact h.elim
end
/-! ### list(range(..)) -/
theorem vrs_rng {M : Nm} {S : Store} {ρ : List Addr} {H : Hp} (n : Nat) : VRs M S ρ H (rgV 0 n) (rngL 0 n) := by
  have key : ∀ l : List Nat, VRs M S ρ H (l.map fun i => V.int (0 + (i : Nat))) (l.map fun (i : Nat) => D.int (0 + i)) := fun l => by
    induction l with
    | nil => exact .nil
    | cons i l ih => exact .cons (.int _) ih
  unfold rgV rngL
  rw [Int.sub_zero, Int.toNat_natCast]
  exact key _
section
variable {U : Uv} {X : Cx} {M : Nm} {G : Gx} {pos p p2 p3 : Pos} {cal : Nat → List D → Store → Res D} {a : CE} {e : Expr}
theorem se_lrng (hc : X.calm = true) (hg2 : Gl X "list") (hm2 : X.mg "list" = none) (hg3 : Gl X "range") (hm3 : X.mg "range" = none) (hs : starB e = false) (ha : SE X M G e (ev G cal a)) :
    SE X M G (.Call (.Name "list" p) [.Call (.Name "range" p2) [e] [] p3] [] pos) (ev G cal (.lrng a)) := by
  refine ⟨fun pins s σ H Q I h => (pe_listRg (p := p) (pos := pos) hc hg2 hm2 (prg_1 (p := p2) (pos := p3) hg3 hm3 ha (star_no hs)) (star_no rfl)).run pins s σ H Q I ?_⟩
  obtain ⟨E, S, ρ, σd, xt, gd, er, h⟩ := h
  unfold ev at h
  refine ⟨E, S, ρ, σd, xt, gd, er, (PostG.bind gd h).imp fun q S1 ρ1 H1 e1 n1 g1 h1 y hy => ?_⟩
  split at h1
  · rename_i j
    split at h1
    · rename_i hj
      cases hy with
      | val hy =>
        cases hy
        obtain ⟨⟨r1, r2⟩, r3⟩ := hj
        have hz : sizeLine = 16777216 := sizeLine_eq
        refine ⟨j, rfl, ⟨by decide, by decide, by omega, by omega, by rw [Int.sub_zero]; omega⟩, fun q hq => ?_⟩
        have e : rgV 0 j = rgV 0 (j.toNat : Int) := by
          unfold rgV
          rw [Int.sub_zero, Int.sub_zero, Int.toNat_natCast]
        rw [e]
        exact h1 _ _ (Nx.alloc g1 hq) (g1.alloc hq) _ (SqR.newLst g1 hq (n1.none_back gd g1 hq) (by rw [rgV_length, Int.sub_zero, Int.toNat_natCast]; exact r3) (vrs_rng _))
    · exact h1.elim
  · exact h1.elim
end
/-! ### from the look at the head -/
theorem keys_miss {K : PySem.W.Frag} {P : Params} {A : Addr} {es : Array DictEntry} {n : Nat} {ks : List Str} (hl : K.lookup A = some ⟨.type "dict", none, .dict es n, #[]⟩) (hk : es.toList.map He.keyOf = He.keysIn P ks) {z : Str} (hz : z ∉ ks) : PySem.W.nsIn K A z = some none := by
  have key : ∀ (l : List DictEntry) (ks : List Str), l.map He.keyOf = He.keysIn P ks → z ∉ ks → l.find? (·.key.isStr z) = none ∧ l.any (·.refKey) = false := fun l => by
    induction l with
    | nil => intro ks _ _; exact ⟨rfl, rfl⟩
    | cons e r ih =>
      intro ks h hz
      cases ks with
      | nil => cases h
      | cons k ks =>
        have h1 : He.keyOf e :: r.map He.keyOf = some (k, PyData.keyHash P k) :: He.keysIn P ks := h
        injection h1 with h2 h3
        obtain ⟨i1, i2⟩ := ih ks h3 fun q => hz (List.mem_cons_of_mem _ q)
        unfold He.keyOf at h2
        split at h2
        · rename_i x t q
          have h5 := (Prod.mk.inj (Option.some.inj h2)).1
          have hne : ¬ x = z := fun e => hz (by rw [← e, h5]; exact List.mem_cons_self)
          have e1 : e.key.isStr z = false := by
            rw [q, PySem.W.isStr_of]
            show (x == z) = false
            exact beq_eq_false_iff_ne.mpr hne
          have e2 : e.refKey = false := by
            unfold DictEntry.refKey
            rw [q]
          refine ⟨?_, ?_⟩
          · rw [List.find?_cons, e1]; exact i1
          · rw [List.any_cons, e2, i2]; rfl
        · cases h2
  obtain ⟨a, b⟩ := key es.toList ks hk hz
  unfold PySem.W.nsIn
  rw [hl]
  simp only [a, b]
  rfl
def relD : D → Value → Bool
  | .int i, .int j _ => decide (i = j)
  | .str x, .str y _ => decide (x = y)
  | _, _ => false
theorem relD_ok {d : D} {u : Value} (h : relD d u = true) : ∃ v, RelV v u ∧ FlatR v d := by
  cases d with
  | int i => cases u with
    | int j t =>
      have e := of_decide_eq_true h
      subst e
      exact ⟨.int i, ⟨t, rfl⟩, .int i⟩
    | _ => cases h
  | str x => cases u with
    | str y t =>
      have e := of_decide_eq_true h
      subst e
      exact ⟨.str x, ⟨t, rfl⟩, .str x⟩
    | _ => cases h
  | _ => cases h
def valsD (K : PySem.W.Frag) (A : Addr) (tb : List (Str × D)) : Bool := tb.all fun q => match PySem.W.nsIn K A q.1 with
  | some (some u) => relD q.2 u
  | _ => false
theorem tab_of {K : PySem.W.Frag} {w : World} {mg : Str → Option Value} {nm : Str} {A : Addr} {tb : List (Str × D)} (h1 : mg nm = some (.ref A)) (h2 : He.dicW K A = some (He.keysIn w.params (tb.map (·.1)))) (h3 : valsD K A tb = true) : TabF K w mg nm tb := by
  obtain ⟨es, n, kd⟩ := He.dicW_ok h2
  have hk : es.toList.map He.keyOf = He.keysIn w.params (tb.map (·.1)) := by
    unfold He.dicW at h2
    rw [kd.at_] at h2
    have e : (decide ("dict" = "dict") && ((#[] : Array (Option Value)).isEmpty && !(A == sysModules))) = true := by
      rw [kd.low]; rfl
    have h2' : (match (decide ("dict" = "dict") && ((#[] : Array (Option Value)).isEmpty && !(A == sysModules))) with
      | true => some (es.toList.map He.keyOf)
      | false => none) = some (He.keysIn w.params (tb.map (·.1))) := h2
    rw [e] at h2'
    exact Option.some.inj h2'
  refine ⟨A, es, n, h1, kd, fun z hz => ?_, fun z d hz => ?_, hk⟩
  · refine keys_miss kd.at_ hk fun hm => ?_
    obtain ⟨q, hq, e⟩ := List.mem_map.mp hm
    have : ∀ l : List (Str × D), l.lookup z = none → ∀ q ∈ l, q.1 ≠ z := fun l => by
      induction l with
      | nil => intro _ q hq; cases hq
      | cons y l ih =>
        intro h q hq
        obtain ⟨y1, y2⟩ := y
        rw [List.lookup_cons] at h
        cases c : z == y1 with
        | true => rw [c] at h; cases h
        | false =>
          rw [c] at h
          rcases List.mem_cons.mp hq with e | hq
          · rw [e]
            exact fun e2 => by
              have e2' : y1 = z := e2
              rw [e2'] at c; simp at c
          · exact ih h q hq
    exact this tb hz q hq e
  · have hm : (z, d) ∈ tb := by
      have : ∀ l : List (Str × D), l.lookup z = some d → (z, d) ∈ l := fun l => by
        induction l with
        | nil => intro h; cases h
        | cons y l ih =>
          intro h
          obtain ⟨y1, y2⟩ := y
          rw [List.lookup_cons] at h
          cases c : z == y1 with
          | true =>
            rw [c] at h
            cases h
            rw [eq_of_beq c]; simp
          | false => rw [c] at h; exact List.mem_cons_of_mem _ (ih h)
      exact this tb hz
    have h4 := List.all_eq_true.mp h3 (z, d) hm
    cases q : PySem.W.nsIn K A z with
    | none => rw [q] at h4; cases h4
    | some r =>
      rw [q] at h4
      cases r with
      | none => cases h4
      | some u =>
        obtain ⟨v, r1, r2⟩ := relD_ok h4
        exact ⟨u, v, rfl, r1, r2⟩
end DI
end

section
set_option Elab.async false
set_option linter.all false
set_option maxRecDepth 100000
/-! DIErr: errors that are held as values; a clause that asks of which class its error is. -/
namespace DI
open PySem PySem.Spec L2
open PyProof.Rows hiding St
/-! ### rules by values -/
/-- C(e, ..) of an error's class: the new error -/
def tMkV (C : Addr) (sp : Sp) (dvs : List V) (ta : TA) : TE := fun σ H Q => ta σ H fun vs H1 => vs.length ≤ 1000 ∧ ∀ b, H1 b = none → sp (.ref b :: (vs ++ dvs)) (upd H1 b (exo b C none)) (fun v H2 => v = .non ∧ Q (.ref b) H2) (fun _ _ _ => False)
/-- what isinstance asks of an error's class -/
structure IsC (K : PySem.W.Frag) (C : Addr) : Prop where
  xf : XfC K C
  cl : (PySem.W.clsIn K C).isSome = true
  cla : PySem.W.findIn K (.ref C) "__class__" = some (some (.builtin "object.__class__"))
  gs : PySem.W.specialIn K (.builtin "object.__class__") "__get__" = some (some (.builtin "getset_descriptor.__get__"))
  tk : PySem.W.takesIn K (.builtin "object.__class__") = some true
  mo : PySem.W.mroIn K C (.type "object") = some true
def rIsO (K : PySem.W.Frag) : List V → Hp → VK → Prop := fun xs H Q => ∃ (a C dx : Addr) (fs : List (Str × V)) (c : V) (cv : Value) (b : Bool), xs = [.ref a, c] ∧ H a = some (exo a C (some dx)) ∧ H dx = some (exd dx fs) ∧ (∀ u, RelV c u → u = cv) ∧ IsC K C ∧ PySem.W.kitOne K (.ref C) cv = some b ∧ Q (.bl b) H
/-- the same of the error that a suite holds -/
def rIsS (K : PySem.W.Frag) (a C dx : Addr) : List V → Hp → VK → Prop := fun xs H Q => ∃ (fs : List (Str × V)) (c : V) (cv : Value) (b : Bool), xs = [.ref a, c] ∧ H dx = some (.xd fs) ∧ (∀ u, RelV c u → u = cv) ∧ IsC K C ∧ PySem.W.kitOne K (.ref C) cv = some b ∧ Q (.bl b) H
def tXo (K : PySem.W.Frag) (f : Str) (te : TE) : TE := fun σ H Q => te σ H fun x H1 => ∃ (a C dx : Addr) (fs : List (Str × V)) (v : V), x = .ref a ∧ H1 a = some (exo a C (some dx)) ∧ H1 dx = some (exd dx fs) ∧ XfC K C ∧ PySem.W.findIn K (.ref C) f = some none ∧ fs.lookup f = some v ∧ Q v H1
section
variable {X : Cx} {e : Expr} {es : List Expr} {ta : TA} {te : TE} {pos p : Pos}
theorem pe_oex {cx : CXT} {x : Str} {C fI : Addr} {k : Nat} {fd : FuncData} {ps : List Str} {sp : Sp} {dsv : List Value} {dvs : List V} (T : OexC X.K C) (iC : PySem.W.findIn X.K (.ref C) "__init__" = some (some (.ref fI))) (tI : PySem.W.typeIn X.K (.ref fI) = some (.type "function"))
    (FO : FnOk X.prog X.w X.K X.mg X.base cx k fI fd ps sp) (room : Room (k + 1) X.A) (bi : Binds X.K fd ps dsv) (dv : Vals dvs dsv) (px : Passes cx X (fun _ _ _ => False)) (gx : Gl X x) (mx : X.mg x = some (.ref C)) (args : PA X (e :: es) ta)
    (dbg : (x == ("__debug__" : Str)) = false) (se : starEach (e :: es) X.env = (false, eval e X.env) :: starEach es X.env) (np : (backTo pos (starEach es X.env)).any (·.1) = false) :
    PE X (.Call (.Name x p) (e :: es) [] pos) (tMkV C sp dvs ta) := by
  refine ⟨fun pins s σ H Q I h => ?_⟩
  obtain ⟨nm, q, N, bs, bm, sn, sub, ab, col, dd, k0, k1, k2, k3, k5, kC, kbm⟩ := T.cls
  refine wpAny_Call_Name_kw (ld_glob I gx mx ?_ dbg)
  refine PySem.W.callWith_K (h₀ := X.base) I.ok.mod.kin T.kC (thn (args.run pos pins s σ H _ I h) fun us s1 ⟨vs, H1, J1, rel, sz, hsp⟩ => ⟨J1.kIn, ?_⟩) se np
  show wpAny _ _ (call (.ref C) us) _ _ _
  obtain ⟨hp, gn, drw, tok, osS⟩ := s1
  have le1 : hp.objs.size ≤ hp.objs.size + 1 := Nat.le_succ _
  have nob : H1 (hp.objs.size + 1) = none := J1.hok.fresh le1
  have hsp1 := hsp (hp.objs.size + 1) nob
  have keep : ∀ b o, hp.get? b = some o → ((hp.push (PySem.W.kdv_tup us)).push (PySem.HandSPX.excO C hp.objs.size)).get? b = some o := fun b o z => Heap.get?_push_of_some _ (Heap.get?_push_of_some _ z)
  have new : ((hp.push (PySem.W.kdv_tup us)).push (PySem.HandSPX.excO C hp.objs.size)).get? (hp.objs.size + 1) = some (PySem.HandSPX.excO C hp.objs.size) := by heap_get
  have J2 : Inv X pins σ (upd H1 (hp.objs.size + 1) (exo (hp.objs.size + 1) C none)) ⟨(hp.push (PySem.W.kdv_tup us)).push (PySem.HandSPX.excO C hp.objs.size), gn, drw, tok, osS⟩ :=
    J1.laid (t' := tok) (a := hp.objs.size + 1) (o := exo (hp.objs.size + 1) C none) (h' := (hp.push (PySem.W.kdv_tup us)).push (PySem.HandSPX.excO C hp.objs.size)) keep le1 (exo_ok new)
  have rel2 : Vals (V.ref (hp.objs.size + 1) :: (vs ++ dvs)) (Value.ref (hp.objs.size + 1) :: (us ++ dsv)) := .cons rfl (rel.append dv)
  have len2 : (Value.ref (hp.objs.size + 1) :: us ++ dsv).length = ps.length := by
    have z := rel2.length
    rw [FO.len _ _ _ _ hsp1] at z
    exact z.symm
  have lus : us.length ≤ sizeLine := by
    rw [← Paired.length rel, sizeLine_eq]
    omega
  refine wpAny_call (PySem.HandSPX.call_own F.excBase_ValueError (fun Y => PySem.HandSPX.refsVE_contains Y bm kbm) (J1.kIn _ _ kC) (PySem.W.looks_findIn J1.kIn iC) (fun self => PySem.W.bind_fn J1.kIn self tI) lus
    (codeAny_mono (FO.run _ X.stack _ _ ⟨Value.ref (hp.objs.size + 1) :: us, []⟩ (Value.ref (hp.objs.size + 1) :: (us ++ dsv)) _ _ (fun _ _ _ => False) (room.make C us []) (J2.env0.make C us []) (bi _ (Value.ref (hp.objs.size + 1) :: us) J2.kIn len2) rel2 hsp1) fun r s' out => ?_))
  cases r with
  | error er => exact px pins σ _ _ er s' J2 out
  | ok fl =>
    cases fl with
    | ret u =>
      obtain ⟨v, H', J3, rv, ev, q3⟩ := J2.after out
      subst ev
      exact ⟨rv, ⟨V.ref (hp.objs.size + 1), H', J3, rfl, q3⟩⟩
    | next => exact False.elim out
    | brk => exact False.elim out
    | cont => exact False.elim out
theorem call_isO : CallR X (.builtin "isinstance") (rIsO X.K) := by
  intro pins s σ H xs us Q I r h
  obtain ⟨a, C, dx, fs, c, cv, b, rfl, ha, hd, hcv, T, hk, q⟩ := h
  cases r with
  | cons rx rr =>
    cases rr with
    | cons rt rr =>
      cases rr
      cases rx
      have ec := hcv _ rt
      subst ec
      obtain ⟨t1, ho⟩ := exo_at I.hok ha
      obtain ⟨mA, hns, _⟩ := exd_at I.hok hd
      obtain ⟨od, _, _, hod, _⟩ := hns
      have J : PySem.W.InstAt s.heap a { cls := .ref C, dict := some dx, data := .fields #[.ref t1, .none, .none, .none, .bool false, .none] } C (some od) := ⟨ho, rfl, rfl, hod⟩
      exact PySem.W.kia_one (PySem.W.kitx_exc T.cl T.xf.ga T.xf.gg T.xf.exC T.cla T.gs T.tk T.mo) I.kIn J hk (fun z => nomatch z) fun tk => ⟨.bl b, H, I.kept (t' := tk) fun _ _ z => z, rfl, q⟩
theorem call_isS {a C dx : Addr} {oe : Obj} {pn : List (Addr × Obj)} (hz : Zc (.ref C) (some dx) oe) (hf : ∃ vs, oe.data = .fields vs) : CallR (X.suite a ((a, oe) :: pn)) (.builtin "isinstance") (rIsS X.K a C dx) := by
  intro pins s σ H xs us Q I r h
  obtain ⟨fs, c, cv, b, rfl, hd, hcv, T, hk, q⟩ := h
  cases r with
  | cons rx rr =>
    cases rr with
    | cons rt rr =>
      cases rr
      cases rx
      have ec := hcv _ rt
      subst ec
      obtain ⟨hget, _⟩ := I.pin (a, oe) (List.mem_append_left _ List.mem_cons_self)
      obtain ⟨vs, hv⟩ := hf
      have hxd : ObjOk X.prog X.w H s.heap dx (.xd fs) := I.hok dx _ hd
      obtain ⟨mA, hns, _⟩ := hxd
      obtain ⟨od, hod, _⟩ := lookIn_ns hns
      have J : PySem.W.InstAt s.heap a oe C (some od) := ⟨hget, hz.1, by unfold PySem.W.notCls; rw [hv] <;> rfl, by rw [hz.2]; exact hod⟩
      exact PySem.W.kia_one (PySem.W.kitx_exc T.cl T.xf.ga T.xf.gg T.xf.exC T.cla T.gs T.tk T.mo) I.kIn J hk (fun z => nomatch z) fun tk => ⟨.bl b, H, I.kept (t' := tk) fun _ _ z => z, rfl, q⟩
theorem pe_xo {n : Str} (he : PE X e te) (hb : attributeBase e n X.env (eval e X.env) = eval e X.env) : PE X (.Attribute e n pos) (tXo X.K n te) := by
  refine ⟨fun pins s σ H Q I h => ?_⟩
  refine attr_of hb (thn (he.run pins s σ H _ I h) fun u s1 hh => ?_)
  obtain ⟨x, H1, I1, rx, a, C, dx, fs, v, rfl, ha, hd, T, hno, l, q⟩ := hh
  obtain rfl : u = Value.ref a := rx
  obtain ⟨t1, ho⟩ := exo_at I1.hok ha
  obtain ⟨mA, hns, hr⟩ := exd_at I1.hok hd
  obtain ⟨od, hod, hl⟩ := lookIn_ns hns
  obtain ⟨y, hu, ru⟩ := RelO.some_of (v := v) (o := mA n) (by rw [← l]; exact hr n)
  have J : PySem.W.InstAt s1.heap a { cls := .ref C, dict := some dx, data := .fields #[.ref t1, .none, .none, .none, .bool false, .none] } C (some od) := ⟨ho, rfl, rfl, hod⟩
  exact HandSPX.exc_get I1.kIn J T.ga T.gg T.exC (PySem.W.findObj_own T.hdC hno rfl (by rw [hl, hu])) (handed_of ru) ⟨v, H1, I1.tok _, ru, q⟩
end
/-! ### the words -/
def icV (M : Nm) (k : Nat) : V := if k = 999 then .ty "ValueError" else .ref (M.ca k)
def icW (M : Nm) (k : Nat) : Value := if k = 999 then .type "ValueError" else .ref (M.ca k)
theorem icV_rel (M : Nm) (k : Nat) (u : Value) (h : RelV (icV M k) u) : u = icW M k := by
  unfold icV at h
  unfold icW
  split at h
  · rename_i z; rw [if_pos z]; exact h
  · rename_i z; rw [if_neg z]; exact h
/-- what is asked of the errors' classes, where isinstance asks of them -/
structure ErrF (K : PySem.W.Frag) (M : Nm) (G : Gx) : Prop where
  cl : ∀ c k, G.exc.contains c = true → G.icl.contains k = true → (PySem.W.clsIn K (M.ca c)).isSome = true ∧ PySem.W.findIn K (.ref (M.ca c)) "__class__" = some (some (.builtin "object.__class__")) ∧ PySem.W.mroIn K (M.ca c) (.type "object") = some true
  kit : ∀ c k, G.exc.contains c = true → G.icl.contains k = true → PySem.W.kitOne K (.ref (M.ca c)) (icW M k) = some (G.isub c k)
section
variable {U : Uv} {X : Cx} {M : Nm} {G : Gx} {e : Expr} {pos p p2 : Pos} {cal : Nat → List D → Store → Res D} {a : CE}
theorem isc_of (xf : ExcF U M G) (f : IsiF U.K M G) (ef : ErrF U.K M G) {c k : Nat} (h1 : G.exc.contains c = true) (h2 : G.icl.contains k = true) : IsC U.K (M.ca c) := by
  obtain ⟨e1, e2, e3⟩ := ef.cl c k h1 h2
  exact ⟨(xf.xa c h1).1, e1, e2, f.hn, f.htk, e3⟩
theorem se_mkE {c : Nat} {x : Str} (iu : Inn U X) (xf : ExcF U M G) (hc : G.exc.contains c = true) (hr : Room 2 X.A) (hg : Gl X x) (hm : U.mg x = some (.ref (M.ca c))) (hdb : (x == ("__debug__" : Str)) = false) (hs : starB e = false)
    (he : SE X M G e (ev G cal a)) : SE X M G (.Call (.Name x p) [e] [] p2) (ev G cal (.mkE c a)) := by
  rw [← iu.mg] at hm
  obtain ⟨h1, h2, h3⟩ := xf.xa c hc
  obtain ⟨fI, fd, ps, h4, h5, h6, h7⟩ := xf.init c hc
  rw [← iu.K] at h2 h3 h4 h5
  refine ⟨fun pins s σ H Q I h => ?_⟩
  obtain ⟨E, S, ρ, σd, xt, gd, er, h⟩ := h
  have FO := iu.fn h6
  have pn : Passes (CX U.P U.w) X (fun _ _ _ => False) := by
    rw [← iu.prog, ← iu.w]
    exact passes_call xt fun _ _ _ _ z => z.elim
  refine (pe_oex h3 h4 h5 FO hr (iu.bi h7) .nil pn hg hm (pa_cons he pa_nil (star_no hs)) hdb (star_no hs) (by rfl)).run pins s σ H Q I ?_
  unfold ev at h
  refine oneD xt gd er h fun d y S2 ρ2 H2 n2 g2 hy h2' => ?_
  rw [if_pos hc] at h2'
  refine ⟨by show 1 ≤ 1000; decide, fun b hb => ⟨b, _, y, rfl, by rw [← iu.K]; exact h3, by rw [← iu.K]; exact h2, upd_same, fun dx hd hne => ⟨rfl, ?_⟩⟩⟩
  rw [upd_ne hne] at hd
  have e : upd (upd (upd H2 b (exo b (M.ca c) none)) dx (exd dx [(M.an (G.xattr c), y)])) b (exo b (M.ca c) (some dx)) = upd (upd H2 dx (exd dx [(M.an (G.xattr c), y)])) b (exo b (M.ca c) (some dx)) := by
    funext z
    by_cases q : z = b
    · subst q; rw [upd_same, upd_same]
    · rw [upd_ne q, upd_ne q]
      by_cases q2 : z = dx
      · subst q2; rw [upd_same, upd_same]
      · rw [upd_ne q2, upd_ne q2, upd_ne q]
  rw [e]
  have hb' : (upd H2 dx (exd dx [(M.an (G.xattr c), y)])) b = none := by rw [upd_ne (Ne.symm hne)]; exact hb
  have g3 := g2.alloc (o := exd dx [(M.an (G.xattr c), y)]) hd
  have g4 := g3.alloc (o := exo b (M.ca c) (some dx)) hb'
  have n3 := (Nx.alloc (o := exd dx [(M.an (G.xattr c), y)]) g2 hd).trans g2 g3 (Nx.alloc (o := exo b (M.ca c) (some dx)) g3 hb')
  refine h2' _ _ n3 g4 _ (.val (.err upd_same (fun z => g2.fresh hb z.mem) (by rw [upd_ne hne]; exact upd_same) (fun z => g2.fresh hd z.mem) (hy.nx n3 g2)))
theorem se_isE {k : Nat} {x : Str} {p3 : Pos} (iu : Inn U X) (xf : ExcF U M G) (f : IsiF U.K M G) (ef : ErrF U.K M G) (hg : Gl X "isinstance") (hm : U.mg "isinstance" = none) (hs : starB e = false) (ha : SE X M G e (ev G cal a)) (hx : PE X (.Name x p2) (tC (icV M k))) :
    SE X M G (.Call (.Name "isinstance" p) [e, .Name x p2] [] p3) (ev G cal (.isE a k)) := by
  rw [← iu.mg] at hm
  have hpa : PA X [e, .Name x p2] (tCons (tEv X M G (ev G cal a)) (tCons (tC (icV M k)) tNil)) := pa_cons ha (pa_cons hx pa_nil) (star_no hs)
  refine ⟨fun pins s σ H Q I h => (pe_callB call_isO hg hm PyProof.Rows.boot_isinstance hpa (by decide) (by decide) (star_no hs) (by rfl)).run pins s σ H Q I ?_⟩
  obtain ⟨E, S, ρ, σd, xt, gd, er, h⟩ := h
  unfold ev at h
  refine one xt gd er h fun p x S2 ρ2 H2 n2 g2 hx h2 => ?_
  split at h2
  · split at h2
    · rename_i c g d hc
      cases hx with
      | val hx =>
        cases hx with
        | err h3 hl h4 hl2 r =>
          refine ⟨_, _, _, _, icV M k, icW M k, G.isub c k, rfl, h3, h4, icV_rel M k, ?_, ?_, h2.here g2 _ (.val (.bl _))⟩
          · rw [iu.K]; exact isc_of xf f ef hc.1 hc.2
          · rw [iu.K]; exact ef.kit c k hc.1 hc.2
    · exact h2.elim
  · exact h2.elim
theorem se_xat {f : Nat} {x : Str} (iu : Inn U X) (xf : ExcF U M G) (he : SE X M G e (ev G cal a)) (hx : M.an f = x) (hb : attributeBase e x X.env (eval e X.env) = eval e X.env) : SE X M G (.Attribute e x pos) (ev G cal (.xat a f)) := by
  subst hx
  refine ⟨fun pins s σ H Q I h => (pe_xo he hb).run pins s σ H Q I ?_⟩
  obtain ⟨E, S, ρ, σd, xt, gd, er, h⟩ := h
  unfold ev at h
  refine one xt gd er h fun p x S2 ρ2 H2 n2 g2 hx h2 => ?_
  split at h2
  · split at h2
    · rename_i c g d hc
      obtain ⟨hc1, rfl, rfl⟩ := hc
      cases hx with
      | val hx =>
        cases hx with
        | err h3 hl h4 hl2 r =>
          obtain ⟨x1, x2, _⟩ := xf.xa c hc1
          refine ⟨_, _, _, _, _, rfl, h3, h4, by rw [iu.K]; exact x1, by rw [iu.K]; exact x2, by simp, h2.here g2 _ (.val r)⟩
    · exact h2.elim
  · exact h2.elim
/-! ### the clause -/
def tsI (K : PySem.W.Frag) (M : Nm) (G : Gx) (i k f : Nat) (a : Addr) (kl : Value) (dx : Option Addr) : TS := fun D σ H => ∃ c b, G.exc.contains c = true ∧ kl = .ref (M.ca c) ∧ dx = some b ∧ G.xattr c = f ∧
  tRet (tAndV (fun σ H Q => tCons (tVar i) (tCons (tC (icV M k)) tNil) σ H fun vs H1 => rIsS K a (M.ca c) b vs H1 Q) (tOp (rEqD K) (tXf a kl dx (M.ca c) (M.an f) (tVar i)) (tTup tNil))) D σ H
theorem i_suite {i k f h : Nat} {nm x y : Str} {p1 p2 p3 p4 p5 p6 p7 p8 p9 pa pb pc : Pos} {n : Nat} (iu : Inn U X) (xf : ExcF U M G) (hi : X.N[i]? = some nm) (hln : X.env.kindOf nm = some .local) (hdb : (nm == ("__debug__" : Str)) = false) (hcd : (nm == ("__classdict__" : Str)) = false)
    (hc : Names X x (.ref (M.ca h))) (hu : X.A.units + 65 < cLine) (hg : Gl X "isinstance") (hm : U.mg "isinstance" = none) (hy : ∀ (a : Addr) (ob : Obj) (pn : List (Addr × Obj)), PE (X.suite a ((a, ob) :: pn)) (.Name y p4) (tC (icV M k))) :
    HdsAs X i nm [.ExceptHandler (some (.Name x p1)) (some nm) [.Return (some (.BoolOp .And [.Call (.Name "isinstance" p2) [.Name nm p3, .Name y p4] [] p5, .Compare (.Attribute (.Name nm p6) (M.an f) p7) [.Eq] [.Tuple [] n p8] p9] pa)) pb] pc] [(.ref (M.ca h), tsI U.K M G i k f)] := by
  rw [← iu.mg] at hm
  have var : ∀ (a : Addr) (ob : Obj) (pn : List (Addr × Obj)) (p : Pos), PE (X.suite a ((a, ob) :: pn)) (.Name nm p) (tVar i) := fun a ob pn p => pe_var (X := X.suite a ((a, ob) :: pn)) hi (.inl hln) hdb hcd
  refine .cons hc (fun a ob kl d pn hz hf => ?_) .nil
  refine ⟨fun pins s σ H D I h => ?_⟩
  obtain ⟨c, b, h1, rfl, rfl, h3, h4⟩ := h
  obtain ⟨x1, x2, x3⟩ := xf.xa c h1
  rw [h3] at x2
  rw [← iu.K] at x1 x2
  rw [← iu.K] at h4
  have isi := pe_callB (X := X.suite a ((a, ob) :: pn)) (pos := p5) (p := p2) (call_isS (X := X) hz hf) hg hm PyProof.Rows.boot_isinstance (pa_cons (var a ob pn p3) (pa_cons (hy a ob pn) pa_nil)) (by decide) (by decide) (by rfl) (by rfl)
  have cmp := pe_cmpR (X := X.suite a ((a, ob) :: pn)) (pos := p9) (op_eqD (X := X.suite a ((a, ob) :: pn)) (show X.A.units + _ < cLine by omega)) (pe_xf x1 x2 hz hf (var a ob pn p6) (by rfl) (pos := p7)) (pe_tup (x1 := n) (pos := p8) pa_nil) (by rfl)
  exact (pss_one (ps_ret (pos := pb) (pe_and (pos := pa) isi (pe_one cmp)))).run pins s σ H D I h4
theorem handleI_ok {K : PySem.W.Frag} {n i h k f : Nat} {E : XK} {S S1 : Store} {ρ ρ1 : List Addr} {H H1 : Hp} {D : Ends} {c : Nat} {d : DI.D} {v : V} {dx : Addr} (hK : K = U.K) (hin : i < n) (xf : ExcF U M G) (isf : IsiF U.K M G) (ef : ErrF U.K M G) (hh : G.hcl.contains h = true)
    (gd : Good M S ρ H) (n1 : Nx S ρ H S1 ρ1 H1) (g1 : Good M S1 ρ1 H1) (rv : VR M S1 ρ1 H1 v d) (hd : H1 dx = some (.xd [(M.an (G.xattr c), v)]))
    (hp : PostS M G E S ρ H (handleI G c d S1 h k f) D) (σ : L2.St) : wAM K n i (fun c d _ H => E c d H) D [(.ref (M.ca h), tsI U.K M G i k f)] (.ref (M.ca c)) (some dx) σ H1 := by
  unfold handleI at hp
  split at hp
  · rename_i hexc
    refine ⟨G.sub c h, by rw [hK]; exact xf.exm c h hexc hh, fun hb hl a ha => ?_, fun hb => ?_⟩
    · rw [if_pos hb] at hp
      split at hp
      · rename_i hat
        refine ⟨c, dx, hexc, rfl, rfl, hat.1, ?_⟩
        have hv : (σ.set i (some (.ref a)))[i]? = some (some (.ref a)) := List.getElem?_set_self (by rw [hl]; exact hin)
        refine ⟨_, hv, _, icV M k, icW M k, G.isub c k, rfl, hd, icV_rel M k, isc_of xf isf ef hexc hat.2, ef.kit c k hexc hat.2, G.isub c k, rfl, ?_⟩
        split at hp
        · rename_i hs
          rw [if_pos hs]
          split at hp
          · rename_i y hy
            refine ⟨_, hv, rfl, rfl, dx, _, v, rfl, hd, by rw [hat.1]; simp, by show 0 ≤ sizeLine; exact Nat.zero_le _, fun q hq => ?_⟩
            have g2 := g1.alloc (o := .tup []) hq
            have n2 : Nx S1 ρ1 H1 S1 ρ1 (upd H1 q (.tup [])) := Nx.alloc g1 hq
            refine ok_eq H1 S1 ρ1 (upd H1 q (.tup [])) v (.ref q) (.val d) (.val (.tup [])) (PyData.eqv y (.tuple [])) _ g2 (.val (rv.nx n2 g1)) (.val (.tup upd_same (Nat.zero_le _) .nil)) ?_ ?_
            · simp only [cmpD, pyQ, hy]; rfl
            · exact hp _ _ _ (n1.trans gd g1 n2) g2 (.bl _)
          · exact hp.elim
        · rename_i hs
          rw [if_neg hs]
          exact hp _ _ _ n1 g1 (.bl false)
      · exact hp.elim
    · rw [if_neg (by rw [hb]; decide)] at hp
      exact hp _ _ v dx n1 g1 rv hd
  · exact hp.elim
theorem ss_tryI {b : CSs} {body : List Stmt} {i k f h : Nat} {nm x y : Str} {p1 p2 p3 p4 p5 p6 p7 p8 p9 pa pb pc : Pos} {n : Nat} (iu : Inn U X) (xf : ExcF U M G) (isf : IsiF U.K M G) (ef : ErrF U.K M G) (hst : X.stack = X.env :: X.outer) (hf : X.env.frame = some X.env.locals) (hNd : X.N.Nodup) (hi : X.N[i]? = some nm) (hln : X.env.kindOf nm = some .local)
    (hdb : (nm == ("__debug__" : Str)) = false) (hcd : (nm == ("__classdict__" : Str)) = false) (hh : G.hcl.contains h = true) (hc : Names X x (.ref (M.ca h))) (hu : X.A.units + 65 < cLine) (hg : Gl X "isinstance") (hm : U.mg "isinstance" = none)
    (hy : ∀ (a : Addr) (ob : Obj) (pn : List (Addr × Obj)), PE (X.suite a ((a, ob) :: pn)) (.Name y p4) (tC (icV M k)))
    (hb : ∀ (pn : List (Addr × Obj)) (xe : Value → Shared → Prop), PassesOwn (model X.prog X.w) X.A X.env xe → SSs (X.tr pn xe) M G body (execs G cal b)) :
    SS X M G (.Try body [.ExceptHandler (some (.Name x p1)) (some nm) [.Return (some (.BoolOp .And [.Call (.Name "isinstance" p2) [.Name nm p3, .Name y p4] [] p5, .Compare (.Attribute (.Name nm p6) (M.an f) p7) [.Eq] [.Tuple [] n p8] p9] pa)) pb] pc] [] [] pos) (exec G cal (.tryI b h k f)) := by
  refine ⟨fun pins s σ H D I hw => ?_⟩
  obtain ⟨E, S, ρ, σd, xt, gd, er, hw⟩ := hw
  refine (ps_tryAs (tb := fun W D σ H => ∃ E S ρ σd, (∀ c d σ H, E c d H → W c d σ H) ∧ Good M S ρ H ∧ ER M S ρ H σ σd ∧ PostS M G E S ρ H (execs G cal b σd S) D) (Wout := fun c d _ H => E c d H) hst hf hNd hi hln xt (fun W pn xe tk pw => PSs.imp (hb pn xe pw) fun D σ H ⟨E, S, ρ, σd, h1, h2, h3, h4⟩ =>
    ⟨E, S, ρ, σd, tk.imp h1, h2, h3, h4⟩) (i_suite iu xf hi hln hdb hcd hc hu hg hm hy)).run pins s σ H D I ?_
  refine ⟨fun c d H => ∀ σ, wAM X.K X.N.length i (fun c d _ H => E c d H) D [(.ref (M.ca h), tsI U.K M G i k f)] c d σ H, S, ρ, σd, fun c d σ H z => z σ, gd, er, ?_⟩
  unfold exec at hw
  cases q : execs G cal b σd S with
  | ex c d S1 =>
    rw [q] at hw
    exact fun ρ' H' v dx n1 g1 rv hd => handleI_ok iu.K (List.getElem?_eq_some_iff.mp hi).1 xf isf ef hh gd n1 g1 rv hd hw
  | _ => rw [q] at hw; exact hw
end
end DI
end

section
set_option Elab.async false
set_option linter.all false
set_option maxRecDepth 100000
/-! DIChk: whether an expression of the text is that of the small language. -/
namespace DI
open PySem PySem.Spec L2
open PyProof.Rows hiding St
/-- a block: its names, its scope, what it owns -/
structure Tab where
  N : List Str
  sc : Scope
  own : Option Scope
/-- what the text calls things -/
structure Glb where
  an : Nat → Str
  fn : Nat → Option Str
  has : Nat → Bool
  cn : Nat → Option Str
  mks : List (Nat × Nat)
  mt : List (Nat × Nat × Str)
  eq : List (Nat × Nat)
  peq : List Nat
  neq : List Nat
  gint : List (Str × Int)
  blt : List Str
  gcd : Bool
  tn : Nat → Option Str
def fnOf : Option Scope → Str → Bool
  | none => fun _ => true
  | some s => fun x => s.names.lookup x == some .cell
def visB (T : Tab) (x : Str) : Bool := match T.sc.names.lookup x with
  | some .local => true
  | some .cell => true
  | some .free => true
  | _ => false
def glB (T : Tab) (x : Str) : Bool := match T.sc.names.lookup x with
  | some .globalImplicit => true
  | _ => false
def loclB (T : Tab) (x : Str) : Bool := match T.sc.names.lookup x with
  | some .local => true
  | _ => false
def dbgB (x : Str) : Bool := (x == ("__debug__" : Str)) == false
def cldB (x : Str) : Bool := (x == ("__classdict__" : Str)) == false
def slB (T : Tab) (i : Nat) (x : Str) : Bool := decide (T.N[i]? = some x) && match T.sc.names.lookup x with
  | some .local => true
  | some .cell => fnOf T.own x
  | _ => false
def tgB (T : Tab) : Tg → Expr → Bool
  | .one i, .Name x _ => slB T i x
  | .two i j, .Tuple [.Name x _, .Name y _] _ _ => slB T i x && slB T j y
  | _, _ => false
def tgsB (T : Tab) : List Tg → List Expr → Bool
  | [], [] => true
  | t :: ts, e :: es => tgB T t e && tgsB T ts es
  | _, _ => false
def tgOwn : Tg → Expr → List (Str × Nat)
  | .one i, .Name x _ => [(x, i)]
  | .two i j, .Tuple [.Name x _, .Name y _] _ _ => [(x, i), (y, j)]
  | _, _ => []
def isSliceE : Expr → Bool
  | .Slice _ _ _ _ => true
  | _ => false
/-- what zip and enumerate hand out is taken apart at once -/
def tgZ : CIt → Expr → Bool
  | .zip _ _, .Tuple _ _ _ => true
  | .enum _, .Tuple _ _ _ => true
  | .zip _ _, _ => false
  | .enum _, _ => false
  | _, _ => true
/-- may stand as a test -/
def tB : CE → Bool
  | .notT a => tB a
  | .andV a b => tB a && tB b
  | .orV a b => tB a && tB b
  | .ite _ _ _ => false
  | .tin _ _ _ => false
  | _ => true
def tyNm (L : Glb) : Ty → Option Str
  | .int => some "int" | .bool => some "bool" | .str => some "str" | .tuple => some "tuple" | .list => some "list" | .own c => L.cn c
def tyB (L : Glb) (G : Gx) (T : Tab) (t : Ty) (x : Str) : Bool := decide (tyNm L t = some x) && glB T x && dbgB x && tyOk G t && match t with
  | .own _ => true
  | _ => L.blt.contains x
def bltB (L : Glb) (T : Tab) (x : Str) : Bool := glB T x && L.blt.contains x
/-- a class that isinstance asks an error of -/
def icB (L : Glb) (T : Tab) (k : Nat) (x : Str) : Bool := glB T x && dbgB x && (if k = 999 then decide (x = "ValueError") && L.blt.contains x else decide (L.cn k = some x))
mutual
def cE (L : Glb) (G : Gx) (T : Tab) : CE → Expr → Bool
  | .var i, ex => match ex with
    | .Name x _ => decide (T.N[i]? = some x) && visB T x && dbgB x && cldB x
    | _ => false
  | .cn d, ex => match d, ex with
    | .int i, .Constant (.int j) _ _ => decide (i = j)
    | .bl i, .Constant (.bool j) _ _ => decide (i = j)
    | .non, .Constant .none _ _ => true
    | .str s, .Constant (.str t) _ _ => decide (s = t)
    | _, _ => false
  | .gint _ i, ex => match ex with
    | .Name x _ => decide (L.gint.lookup x = some i) && glB T x && dbgB x
    | _ => false
  | .bin o a b, ex => match ex with
    | .BinOp x o2 y _ => decide (biOp o = o2) && cE L G T a x && cE L G T b y
    | _ => false
  | .neg a, ex => match ex with
    | .UnaryOp .USub x _ => cE L G T a x
    | _ => false
  | .notT a, ex => match ex with
    | .UnaryOp .Not x _ => cE L G T a x
    | _ => false
  | .andV a b, ex => match ex with
    | .BoolOp .And (x :: y :: []) _ => cE L G T a x && cE L G T b y
    | .BoolOp .And (x :: y :: z :: r) p => cE L G T a x && cE L G T b (.BoolOp .And (y :: z :: r) p)
    | _ => false
  | .orV a b, ex => match ex with
    | .BoolOp .Or (x :: y :: []) _ => cE L G T a x && cE L G T b y
    | .BoolOp .Or (x :: y :: z :: r) p => cE L G T a x && cE L G T b (.BoolOp .Or (y :: z :: r) p)
    | _ => false
  | .cmp o a b, ex => match ex with
    | .Compare x [o2] [y] _ => decide (cmOp o = o2) && !behindInMarks o2 y && cE L G T a x && cE L G T b y
    | _ => false
  | .eqo c f a b, ex => match ex with
    | .Compare x [.Eq] [y] _ => L.eq.contains (c, f) && L.has f && !behindInMarks .Eq y && cE L G T a x && cE L G T b y
    | _ => false
  | .neo c f a b, ex => match ex with
    | .Compare x [.NotEq] [y] _ => L.eq.contains (c, f) && L.neq.contains c && L.has f && !behindInMarks .NotEq y && cE L G T a x && cE L G T b y
    | _ => false
  | .eqi c a b, ex => match ex with
    | .Compare x [.Eq] [y] _ => L.peq.contains c && !behindInMarks .Eq y && cE L G T a x && cE L G T b y
    | _ => false
  | .chain o p a b c, ex => match ex with
    | .Compare x [o2, p2] [y, z] _ => decide (cmOp o = o2) && decide (cmOp p = p2) && !lastMarks [o2, p2] [y, z] && cE L G T a x && cE L G T b y && cE L G T c z
    | _ => false
  | .ite t a b, ex => match ex with
    | .IfExp x y z _ => tB t && cE L G T t x && cE L G T a y && cE L G T b z
    | _ => false
  | .tup es, ex => match ex with
    | .Tuple xs _ _ => cEs L G T es xs
    | _ => false
  | .lst es, ex => match ex with
    | .List xs _ => cEs L G T es xs
    | _ => false
  | .idx a i, ex => match ex with
    | .Subscript x y _ => !isSliceE y && cE L G T a x && cE L G T i y
    | _ => false
  | .slc .no a _ _, ex => match ex with
    | .Subscript x (.Slice none none none _) _ => cE L G T a x
    | _ => false
  | .slc .hi a _ h, ex => match ex with
    | .Subscript x (.Slice none (some y) none _) _ => cE L G T a x && cE L G T h y
    | _ => false
  | .slc .lo a l _, ex => match ex with
    | .Subscript x (.Slice (some y) none none _) _ => cE L G T a x && cE L G T l y
    | _ => false
  | .slc .both a l h, ex => match ex with
    | .Subscript x (.Slice (some y) (some z) none _) _ => cE L G T a x && cE L G T l y && cE L G T h z
    | _ => false
  | .rev a, ex => match ex with
    | .Subscript x (.Slice none none (some (.UnaryOp .USub (.Constant (.int 1) _ _) _)) _) _ => cE L G T a x
    | _ => false
  | .attr a f, ex => match ex with
    | .Attribute x n _ => decide (L.an f = n) && !bareCall x && cE L G T a x
    | _ => false
  | .call f es, ex => match ex with
    | .Call (.Name x _) xs [] _ => decide (L.fn f = some x) && L.has f && glB T x && dbgB x && plainEs xs && cEs L G T es xs
    | _ => false
  | .mk c f _ es, ex => match ex with
    | .Call (.Name x _) xs [] _ => decide (L.cn c = some x) && L.mks.contains (c, f) && L.has f && glB T x && dbgB x && plainEs xs && cEs L G T es xs
    | _ => false
  | .meth a c f es, ex => match ex with
    | .Call (.Attribute x m apos) xs [] pos => L.mt.contains (c, f, m) && L.has f && plainEs xs && !bareCall x && decide (xs.length < 30) && apos.endLine == pos.line && cE L G T a x && cEs L G T es xs
    | _ => false
  | .b1 b a, ex => match ex with
    | .Call (.Name x _) [y] [] _ => decide (b1Name b = x) && b1Plain b && bltB L T x && !starB y && cE L G T a y
    | .Call (.Name x _) [y] [⟨some z, .Constant (.bool true) _ _, _⟩] _ => decide (x = Str.ofString "sorted") && decide (z = Str.ofString "reverse") && isRev b && bltB L T x && !starB y && cE L G T a y
    | _ => false
  | .b2 b a c, ex => match ex with
    | .Call (.Name x _) [y, z] [] _ => decide (b2Name b = x) && glB T x && (match b with
      | .gcd => L.gcd
      | _ => L.blt.contains x) && !starB y && !starB z && cE L G T a y && cE L G T c z
    | _ => false
  | .bm .append a es, ex => match ex with
    | .Call (.Attribute x m apos) (y :: ys) [] pos => decide (m = "append") && plainEs (y :: ys) && !bareCall x && decide ((y :: ys).length < 30) && apos.endLine == pos.line && cE L G T a x && cEs L G T es (y :: ys)
    | _ => false
  | .bm .insert a es, ex => match ex with
    | .Call (.Attribute x m apos) (y :: ys) [] pos => decide (m = "insert") && plainEs (y :: ys) && !bareCall x && decide ((y :: ys).length < 30) && apos.endLine == pos.line && cE L G T a x && cEs L G T es (y :: ys)
    | _ => false
  | .bm .index a es, ex => match ex with
    | .Call (.Attribute x m apos) (y :: ys) [] pos => decide (m = "index") && plainEs (y :: ys) && !bareCall x && decide ((y :: ys).length < 30) && apos.endLine == pos.line && cE L G T a x && cEs L G T es (y :: ys)
    | _ => false
  | .bm .tindex a es, ex => match ex with
    | .Call (.Attribute x m apos) (y :: ys) [] pos => decide (m = "index") && plainEs (y :: ys) && !bareCall x && decide ((y :: ys).length < 30) && apos.endLine == pos.line && cE L G T a x && cEs L G T es (y :: ys)
    | _ => false
  | .bm .extend a (.cons b .nil), ex => match ex with
    | .Call (.Attribute x m apos) [y] [] pos => decide (m = "extend") && !starB y && plainEs [y] && !bareCall x && apos.endLine == pos.line && cE L G T a x && cE L G T b y
    | _ => false
  | .bm .pop a .nil, ex => match ex with
    | .Call (.Attribute x m apos) [] [] pos => decide (m = "pop") && !bareCall x && apos.endLine == pos.line && cE L G T a x
    | _ => false
  | .isi a ts, ex => match ts, ex with
    | [t], .Call (.Name f _) [y, .Name x _] [] _ => decide (f = "isinstance") && bltB L T f && !starB y && tyB L G T t x && cE L G T a y
    | [t, u], .Call (.Name f _) [y, .Tuple [.Name x _, .Name z _] _ _] [] _ => decide (f = "isinstance") && bltB L T f && !starB y && tyB L G T t x && tyB L G T u z && cE L G T a y
    | _, _ => false
  | .tin ng x a, ex => match ex with
    | .Compare y [.In] [.Name nm p] _ => !ng && decide (L.tn x = some nm) && glB T nm && dbgB nm && !behindInMarks .In (.Name nm p) && cE L G T a y
    | _ => false
  | .tget x a, ex => match ex with
    | .Subscript (.Name nm _) y _ => decide (L.tn x = some nm) && glB T nm && dbgB nm && !isSliceE y && cE L G T a y
    | _ => false
  | .tkeys x, ex => match ex with
    | .Call (.Name f _) [.Name nm _] [] _ => decide (f = Str.ofString "list") && bltB L T f && decide (L.tn x = some nm) && glB T nm && dbgB nm
    | _ => false
  | .lrng a, ex => match ex with
    | .Call (.Name f _) [.Call (.Name g _) [y] [] _] [] _ => decide (f = Str.ofString "list") && bltB L T f && decide (g = Str.ofString "range") && bltB L T g && !starB y && cE L G T a y
    | _ => false
  | .lc tg it hasIf c e, ex => match ex with
    | .ListComp elt [⟨tgx, iter, ifs, asy⟩] scope _ => 
      decide (asy = 0 ∧ tgZ it tgx = true) && blkC T.N T.sc scope (tgOwn tg tgx) && !isSetE iter && cIt L G T it iter && tgB ⟨T.N, relS scope T.sc, some scope⟩ tg tgx && cE L G ⟨T.N, relS scope T.sc, some scope⟩ e elt &&
        (match ifs with
          | [] => !hasIf
          | [x] => hasIf && tB c && cE L G ⟨T.N, relS scope T.sc, some scope⟩ c x
          | _ => false)
    | _ => false
  | .mkE c a, ex => match ex with
    | .Call (.Name x _) [y] [] _ => decide (L.cn c = some x) && G.exc.contains c && glB T x && dbgB x && !starB y && cE L G T a y
    | _ => false
  | .isE a k, ex => match ex with
    | .Call (.Name f _) [y, .Name x _] [] _ => decide (f = "isinstance") && bltB L T f && !starB y && icB L T k x && cE L G T a y
    | _ => false
  | .xat a f, ex => match ex with
    | .Attribute x n _ => decide (L.an f = n) && !bareCall x && cE L G T a x
    | _ => false
  | _, _ => false
def cEs (L : Glb) (G : Gx) (T : Tab) : CEs → List Expr → Bool
  | .nil, [] => true
  | .cons e es, x :: xs => !starB x && cE L G T e x && cEs L G T es xs
  | .star e es, .Starred x _ :: xs => cE L G T e x && cEs L G T es xs
  | _, _ => false
def cIt (L : Glb) (G : Gx) (T : Tab) : CIt → Expr → Bool
  | .e a, x => cE L G T a x
  | .rng1 a, ex => match ex with
    | .Call (.Name f _) [x] [] _ => decide (f = "range") && bltB L T f && !starB x && cE L G T a x
    | _ => false
  | .rng2 a b, ex => match ex with
    | .Call (.Name f _) [x, y] [] _ => decide (f = "range") && bltB L T f && !starB x && !starB y && cE L G T a x && cE L G T b y
    | _ => false
  | .rng3 a b d, ex => match ex with
    | .Call (.Name f _) [x, y, z] [] _ => decide (f = "range") && bltB L T f && !starB x && !starB y && !starB z && cE L G T a x && cE L G T b y && cE L G T d z
    | _ => false
  | .zip a b, ex => match ex with
    | .Call (.Name f _) [x, y] [] _ => decide (f = "zip") && bltB L T f && !starB x && !starB y && cE L G T a x && cE L G T b y
    | _ => false
  | .enum a, ex => match ex with
    | .Call (.Name f _) [x] [] _ => decide (f = "enumerate") && bltB L T f && !starB x && cE L G T a x
    | _ => false
end
/-- what is known of a context -/
structure XOk (U : Uv) (T : Tab) (k : Nat) (X : Cx) : Prop where
  inn : Inn U X
  N : X.N = T.N
  sc : X.env.scope = T.sc
  fn : X.fn = fnOf T.own
  calm : X.calm = true
  room : Room (k + 1) X.A
  nd : T.N.Nodup
  kind : T.sc.kind = .function
/-- what is known of the program -/
structure Facts (U : Uv) (M : Nm) (G : Gx) (P : Nat → Option CDef) (fa : Nat → Addr) (L : Glb) : Prop where
  an : L.an = M.an
  cf : ClsF U M G
  isf : IsiF U.K M G
  exf : ExcF U M G
  has : ∀ f, L.has f = true → (P f).isSome = true
  gfn : ∀ f x, L.fn f = some x → U.mg x = some (.ref (fa f)) ∧ PySem.W.keepIn U.K (.ref (fa f)) = true
  gcl : ∀ c x, L.cn c = some x → U.mg x = some (.ref (M.ca c))
  mks : ∀ c f, L.mks.contains (c, f) = true → Mk U.K (M.ca c) (fa f)
  mt : ∀ c f m, L.mt.contains (c, f, m) = true → Cls U.K (M.ca c) ∧ Meth U.K (M.ca c) m (fa f) ∧ ∀ i, i < M.n → M.an i ≠ m
  eq : ∀ c f, L.eq.contains (c, f) = true → PySem.W.findIn U.K (.ref (M.ca c)) "__eq__" = some (some (.ref (fa f))) ∧ PySem.W.isFn U.K (.ref (fa f)) = true ∧ PySem.W.subIn U.K (.type "tuple") (.ref (M.ca c)) = some false
  peq : ∀ c, L.peq.contains c = true → PySem.W.mroIn U.K (M.ca c) (.type "object") = some true ∧ PySem.W.findIn U.K (.ref (M.ca c)) "__eq__" = some (some (.builtin "object.__eq__"))
  neq : ∀ c, L.neq.contains c = true → PySem.W.mroIn U.K (M.ca c) (.type "object") = some true ∧ PySem.W.findIn U.K (.ref (M.ca c)) "__ne__" = some (some (.builtin "object.__ne__"))
  gin : ∀ x i, L.gint.lookup x = some i → ∃ u, U.mg x = some u ∧ RelV (.int i) u
  blt : ∀ x, L.blt.contains x = true → U.mg x = none
  gcd : L.gcd = true → U.mg "gcd" = some (.builtin "math.gcd")
  tab : ∀ x nm, L.tn x = some nm → TabF U.K U.w U.mg nm (G.tab x)
  erf : ErrF U.K M G
structure EOk (X : Cx) (M : Nm) (G : Gx) (c : CE) (e : Expr) (m : Env → Store → Res Sq) : Prop where
  se : SE X M G e m
  st : tB c = true → ST X M G e (tr m)
  sw : tB c = true → (∃ op es p, e = .BoolOp op es p) → SW X M G e (tr m)
section
variable {U : Uv} {X : Cx} {M : Nm} {G : Gx} {P : Nat → Option CDef} {fa : Nat → Addr} {L : Glb} {T : Tab} {k : Nat} {cal : Nat → List D → Store → Res D}
theorem XOk.gl (o : XOk U T k X) {x : Str} (h : glB T x = true) : Gl X x := by
  unfold glB at h
  show X.env.scope.names.lookup x = _
  rw [o.sc]
  split at h
  · assumption
  · cases h
theorem XOk.vis (o : XOk U T k X) {x : Str} (h : visB T x = true) : Vis X.env.scope x := by
  unfold visB at h
  rw [o.sc]
  split at h
  · exact .inl (by assumption)
  · exact .inr (.inl (by assumption))
  · exact .inr (.inr (by assumption))
  · cases h
theorem XOk.sl (o : XOk U T k X) {x : Str} {i : Nat} (h : slB T i x = true) : Sl X i x := by
  unfold slB at h
  obtain ⟨h1, h2⟩ := Bool.and_eq_true_iff.mp h
  have h1 := of_decide_eq_true h1
  refine ⟨by rw [o.N]; exact h1, ?_, ?_⟩
  · rw [o.sc]
    split at h2
    · exact .inl (by assumption)
    · exact .inr (by assumption)
    · cases h2
  · rw [o.sc, o.fn]
    split at h2
    · exact .inr (by assumption)
    · exact .inl h2
    · cases h2
theorem dbg_ok {x : Str} (h : dbgB x = true) : (x == ("__debug__" : Str)) = false := beq_iff_eq.mp h
theorem cld_ok {x : Str} (h : cldB x = true) : (x == ("__classdict__" : Str)) = false := beq_iff_eq.mp h
theorem XOk.tg (o : XOk U T k X) {t : Tg} {e : Expr} (h : tgB T t e = true) : TgOk X t e := by
  unfold tgB at h
  split at h
  · exact .one (o.sl h)
  · obtain ⟨h1, h2⟩ := Bool.and_eq_true_iff.mp h
    exact .two (o.sl h1) (o.sl h2)
  · cases h
theorem XOk.hu (o : XOk U T k X) : X.A.units + 65 < cLine := by have := o.room.un; omega
theorem XOk.blt (o : XOk U T k X) (F : Facts U M G P fa L) {x : Str} (h : bltB L T x = true) : Gl X x ∧ X.mg x = none := by
  obtain ⟨h1, h2⟩ := Bool.and_eq_true_iff.mp h
  exact ⟨o.gl h1, by rw [o.inn.mg]; exact F.blt x h2⟩
/-- an expression whose test is its value's truth -/
def plainT : Expr → Bool
  | .UnaryOp .Not _ _ => false
  | .BoolOp _ _ _ => false
  | .IfExp _ _ _ _ => false
  | .Compare _ _ _ _ => false
  | _ => true
theorem plain_is {e : Expr} {env : PySem.Env} (h : plainT e = true) (whole : Sem Value) : isTrue e env whole = (do let v ← whole; standAt e.pos; holding [v] (truthy v)) := by
  cases e with
  | UnaryOp op a p => cases op <;> first | rfl | cases h
  | BoolOp => cases h
  | IfExp => cases h
  | Compare => cases h
  | _ => rfl
theorem EOk.plain {c : CE} {e : Expr} {m : Env → Store → Res Sq} (h : SE X M G e m) (hp : plainT e = true) : EOk X M G c e m :=
  ⟨h, fun _ => st_plain h (plain_is hp), fun _ ⟨op, es, p, q⟩ => by subst q; cases hp⟩
theorem ty_pe (o : XOk U T k X) (F : Facts U M G P fa L) {t : Ty} {x : Str} {p : Pos} (h : tyB L G T t x = true) : PE X (.Name x p) (tC (tyT M t)) ∧ tyOk G t = true := by
  unfold tyB at h
  simp only [Bool.and_eq_true, decide_eq_true_eq] at h
  obtain ⟨⟨⟨⟨h1, h2⟩, h3⟩, h4⟩, h5⟩ := h
  refine ⟨?_, h4⟩
  have b : ∀ n : String, tyNm L t = some x → L.blt.contains x = true → bootBuiltins x = some (.type n) → x ≠ "__name__" → PE X (.Name x p) (tC (.ty n)) := fun n _ hb hv hn =>
    pe_bltn (o.gl h2) (by rw [o.inn.mg]; exact F.blt x hb) hv rfl hn (dbg_ok h3)
  cases t with
  | own c => exact pe_glob (o.gl h2) (by rw [o.inn.mg]; exact F.gcl c x h1) rfl (dbg_ok h3)
  | int => cases h1; exact b "int" rfl h5 (by rfl) (by decide)
  | bool => cases h1; exact b "bool" rfl h5 (by rfl) (by decide)
  | str => cases h1; exact b "str" rfl h5 (by rfl) (by decide)
  | tuple => cases h1; exact b "tuple" rfl h5 (by rfl) (by decide)
  | list => cases h1; exact b "list" rfl h5 (by rfl) (by decide)
theorem ic_pe (o : XOk U T k X) (F : Facts U M G P fa L) {X' : Cx} {k : Nat} {x : Str} {p : Pos} (h : icB L T k x = true) (hX : ∀ x, Gl X x → Gl X' x) (hm : X'.mg = X.mg) : PE X' (.Name x p) (tC (icV M k)) := by
  unfold icB at h
  simp only [Bool.and_eq_true] at h
  obtain ⟨⟨h2, h3⟩, h5⟩ := h
  unfold icV
  split at h5
  · rename_i hk
    rw [if_pos hk]
    simp only [Bool.and_eq_true, decide_eq_true_eq] at h5
    obtain ⟨rfl, h6⟩ := h5
    exact pe_bltn (hX _ (o.gl h2)) (by rw [hm, o.inn.mg]; exact F.blt _ h6) PyProof.Rows.Boot.«ValueError» rfl (by decide) (dbg_ok h3)
  · rename_i hk
    rw [if_neg hk]
    exact pe_glob (hX _ (o.gl h2)) (by rw [hm, o.inn.mg]; exact F.gcl _ x (of_decide_eq_true h5)) rfl (dbg_ok h3)
end
end DI
end

section
set_option Elab.async false
set_option linter.all false
set_option maxRecDepth 100000
/-! DISnd: what the checker tells of expressions. -/
namespace DI
open PySem PySem.Spec L2
open PyProof.Rows hiding St
section
variable {G : Gx} {cal : Nat → List D → Store → Res D} {a b c : CE}
theorem tr_not (σ : Env) (S : Store) : tr (ev G cal (.notT a)) σ S = (tr (ev G cal a) σ S).bind fun k S1 => .ok (!k) S1 := by
  simp only [tr]
  conv => lhs; unfold ev
  simp only [Res.bind_assoc, Res.bind_ok, truth_bl]
theorem tr_and (σ : Env) (S : Store) : tr (ev G cal (.andV a b)) σ S = andB (tr (ev G cal a)) (tr (ev G cal b)) σ S := by
  simp only [tr, andB]
  conv => lhs; unfold ev
  simp only [Res.bind_assoc]
  congr 1
  funext p S1
  cases h : truthQ S1 p with
  | none => rfl
  | some k =>
    cases k with
    | true => simp
    | false => simp [h]
theorem tr_or (σ : Env) (S : Store) : tr (ev G cal (.orV a b)) σ S = orB (tr (ev G cal a)) (tr (ev G cal b)) σ S := by
  simp only [tr, orB]
  conv => lhs; unfold ev
  simp only [Res.bind_assoc]
  congr 1
  funext p S1
  cases h : truthQ S1 p with
  | none => rfl
  | some k =>
    cases k with
    | true => simp [h]
    | false => simp
end
section
variable {U : Uv} {X : Cx} {M : Nm} {G : Gx} {P : Nat → Option CDef} {fa : Nat → Addr} {L : Glb} {T : Tab} {k : Nat} {cal : Nat → List D → Store → Res D} {e o : Expr} {pos : Pos} {a b : CE}
theorem eqo_bl {c f : Nat} {σ : Env} {S S' : Store} {q : Sq} (h : ev G cal (.eqo c f a b) σ S = .ok q S') : ∃ k, q = .val (.bl k) := by
  unfold ev at h
  cases h1 : ev G cal a σ S with
  | ok p S1 =>
    rw [h1] at h
    simp only [Res.bind_ok] at h
    cases h2 : ev G cal b σ S1 with
    | ok q2 S2 =>
      rw [h2] at h
      simp only [Res.bind_ok] at h
      split at h
      · split at h
        · rename_i d e hc
          cases h3 : cal f [d, e] S2 with
          | ok r S3 =>
            rw [h3] at h
            simp only [Res.bind_ok] at h
            split at h
            · cases h; exact ⟨_, rfl⟩
            · cases h
          | _ => rw [h3] at h; cases h
        · cases h
      · cases h
    | _ => rw [h2] at h; cases h
  | _ => rw [h1] at h; cases h
theorem st_eqo {c f : Nat} {cd : CDef} (iu : Inn U X) (co : CallsOk U M G P fa cal k) (hf : P f = some cd) (hr : Room k X.A) (ha : SE X M G e (ev G cal a)) (hb : SE X M G o (ev G cal b))
    (hs : PySem.W.findIn U.K (.ref (M.ca c)) "__eq__" = some (some (.ref (fa f)))) (hfn : PySem.W.isFn U.K (.ref (fa f)) = true) (ht : PySem.W.subIn U.K (.type "tuple") (.ref (M.ca c)) = some false) (hm : behindInMarks .Eq o = false) :
    ST X M G (.Compare e [.Eq] [o] pos) (tr (ev G cal (.eqo c f a b))) := by
  rw [← iu.K] at hs hfn ht
  refine ⟨fun pins s σ H Q I h => ?_⟩
  obtain ⟨E, S, ρ, σd, xt, gd, er, h⟩ := h
  obtain ⟨fd, ps, F, B⟩ := co.ok f cd hf
  refine (pt_cmpR (op_eqO (iu.fn F) hr hs hfn ht (iu.bi B) (passes_e iu xt)) ha hb hm).run pins s σ H Q I ?_
  refine eqo_read co hf xt gd er ?_
  have key : ∀ q S', ev G cal (.eqo c f a b) σd S = .ok q S' → ∃ k, q = .val (.bl k) := fun q S' => eqo_bl
  cases hq : ev G cal (.eqo c f a b) σd S with
  | ok q S' =>
    obtain ⟨r, rfl⟩ := key q S' hq
    simp only [tr, hq] at h
    exact fun ρ' H' n g v hv => by
      cases hv with
      | val hv =>
        cases hv
        exact ⟨r, rfl, h ρ' H' n g⟩
  | exc c d S' => simp only [tr, hq] at h; exact h
  | bad => simp only [tr, hq] at h; exact h
end
end DI
end

section
set_option Elab.async false
set_option linter.all false
set_option maxRecDepth 100000
/-! DIEqi: == of two instances whose class has no == of its own: whether they are the same. -/
namespace HN
open PySem PySem.Spec PyProof.Rows PySem.SeqAt
section
variable {M : Model} {prog : Program} {w : World} {A : Around} {E : Value → Shared → Prop} {s : Shared} {K : PySem.W.Frag} {x y C : Addr} {ox oy : Obj} {od oe : Option Obj}
theorem call_objEqR {v : Value} {Q : Value → Shared → Prop} (X : K.In s.heap) (I : PySem.W.InstAt s.heap x ox C od) (hm : PySem.W.mroIn K C (.type "object") = some true)
    (r : Value) (hq : ∀ (P : Fin → Shared → Prop) (B : Around) (F : Value → Shared → Prop), P (.done (.ret r)) s → wpAny (model prog w) B (Builtin.«object.__eq__» ⟨[.ref x, v], []⟩) P F s) (q : Q r s) :
    wpAny (model prog w) A (call (.builtin "object.__eq__") [.ref x, v]) Q E s :=
  wpAny_call (codeAny_call_builtin F.cmp_object.eq.plain F.cmpEntry_eq (PySem.W.check_slot F.cmpKind_eq F.cmpSplit_eq (I.type.andThen (PySem.W.looks_mroIn X hm)) (F.cmpArgs_eq _ _) (hq _ _ _ q)))
theorem try_same {Q : Option Value → Shared → Prop} (X : K.In s.heap) (I : PySem.W.InstAt s.heap x ox C od) (hm : PySem.W.mroIn K C (.type "object") = some true) (hs : PySem.W.findIn K (.ref C) "__eq__" = some (some (.builtin "object.__eq__")))
    (hq : Q (some (.bool true)) s) : wpAny (model prog w) A (tryCompare (.ref x) "__eq__" (.ref x)) Q E s := by
  unfold tryCompare
  exact wpAny_bind (ifBound_objEq X I hs (call_objEqR X I hm (.bool true) (fun _ _ _ z => objEq_entry_same z) (wpAny_pure hq)))
theorem try_other {Q : Option Value → Shared → Prop} (X : K.In s.heap) (I : PySem.W.InstAt s.heap x ox C od) (J : PySem.W.InstAt s.heap y oy C oe) (hxy : x ≠ y) (hm : PySem.W.mroIn K C (.type "object") = some true)
    (hs : PySem.W.findIn K (.ref C) "__eq__" = some (some (.builtin "object.__eq__"))) (hq : Q none s) : wpAny (model prog w) A (tryCompare (.ref x) "__eq__" (.ref y)) Q E s := by
  unfold tryCompare
  exact wpAny_bind (ifBound_objEq X I hs (call_objEqR X I hm .notImplemented (fun _ _ _ z => objEq_entry_other hxy I.at_ J.at_ (by rw [I.cls]; nofun) z) (wpAny_pure hq)))
theorem rc_insts {Q : Value → Shared → Prop} (hu : A.units < cLine) (X : K.In s.heap) (I : PySem.W.InstAt s.heap x ox C od) (J : PySem.W.InstAt s.heap y oy C oe) (hm : PySem.W.mroIn K C (.type "object") = some true)
    (hs : PySem.W.findIn K (.ref C) "__eq__" = some (some (.builtin "object.__eq__"))) (h : Q (.bool (decide (x = y))) s) : wpAny (model prog w) A (richCompare .Eq (.ref x) (.ref y)) Q E s := by
  simp only [richCompare, cmpInfo_Eq, oneThing_ref]
  refine wpAny_holding (wpAny_bind (wpAny_cRoomFor hu ?_))
  refine wpAny_bind (I.type.here ?_)
  refine wpAny_bind (J.type.here ?_)
  split
  · rename_i q
    exact absurd q (by simp)
  · by_cases hxy : x = y
    · subst hxy
      refine wpAny_bind (wpAny_pure ?_)
      simp only [Bool.false_eq_true, if_false, Bool.not_false, if_true]
      refine wpAny_bind (m := tryCompare (.ref x) _ (.ref x)) (try_same X I hm hs ?_)
      refine wpAny_pure ?_
      simpa using h
    · refine wpAny_bind (wpAny_pure ?_)
      simp only [Bool.false_eq_true, if_false, Bool.not_false, if_true]
      refine wpAny_bind (m := tryCompare (.ref x) _ (.ref y)) (try_other X I J hxy hm hs ?_)
      refine wpAny_bind (m := tryCompare (.ref y) _ (.ref x)) (try_other X J I (Ne.symm hxy) hm hs ?_)
      refine wpAny_bind (wpAny_rule (wpAny_bind (wpAny_isSame_ref_other hxy I.at_ J.at_ (by rw [I.cls]; nofun) (wpAny_pure ?_))))
      simpa [hxy] using h
end
end HN

namespace DI
open PySem PySem.Spec L2
open PyProof.Rows hiding St
section
variable {U : Uv} {X : Cx} {M : Nm} {G : Gx} {e o : Expr} {pos : Pos} {cal : Nat → List D → Store → Res D} {a b : CE}
/-- the same object -/
def rEqI (C : Addr) : R2 := fun x y H Q => ∃ a dx fs b dy gs, x = .ref a ∧ y = .ref b ∧ H a = some (.ins C dx fs) ∧ H b = some (.ins C dy gs) ∧ Q (.bl (decide (a = b))) H
theorem op_eqI {C : Addr} (hu : X.A.units < cLine) (hm : PySem.W.mroIn X.K C (.type "object") = some true) (hs : PySem.W.findIn X.K (.ref C) "__eq__" = some (some (.builtin "object.__eq__"))) : OpR X (compareOp .Eq) (rEqI C) := by
  intro pins s σ H x y v u Q I rx ry h
  obtain ⟨a, dx, fs, b, dy, gs, rfl, rfl, ha, hb, hq⟩ := h
  cases rx
  cases ry
  show wpAny (model X.prog X.w) X.A (richCompare .Eq (.ref a) (.ref b)) (EP X pins σ Q) X.xe s
  obtain ⟨mA, J, _⟩ := ins_get I.hok ha
  obtain ⟨od, J, _⟩ := J.look
  obtain ⟨mB, J', _⟩ := ins_get I.hok hb
  obtain ⟨od', J', _⟩ := J'.look
  exact HN.rc_insts hu I.kIn J J' hm hs ⟨.bl (decide (a = b)), H, I, rfl, hq⟩
theorem eqi_read {c : Nat} {E : XK} {S : Store} {ρ : List Addr} {H : Hp} {σ : L2.St} {σd : Env} {Q : VK} (xt : XT X E) (gd : Good M S ρ H) (er : ER M S ρ H σ σd) (h : PostG M G E S ρ H (ev G cal (.eqi c a b) σd S) (KE M H Q)) :
    tOp (rEqI (M.ca c)) (tEv X M G (ev G cal a)) (tEv X M G (ev G cal b)) σ H Q := by
  unfold ev at h
  refine two xt gd er h fun p q x y S2 ρ2 H2 n2 g2 hx hy h2 => ?_
  split at h2
  · split at h2
    · rename_i i j hcl
      cases hx with
      | val hx =>
      cases hy with
      | val hy =>
      obtain ⟨fl, hfs⟩ := cls_fs hcl.1
      obtain ⟨b1, dx, fs, rfl, hb1, _⟩ := fs_rep g2 hx hfs
      obtain ⟨fl2, hfs2⟩ := cls_fs hcl.2
      obtain ⟨b2, dy, gs, rfl, hb2, _⟩ := fs_rep g2 hy hfs2
      cases hx with
      | loc hi =>
      cases hy with
      | loc hj =>
      refine ⟨b1, dx, fs, b2, dy, gs, rfl, rfl, hb1, hb2, ?_⟩
      have e : decide (b1 = b2) = decide (i = j) := by
        refine decide_eq_decide.mpr ⟨fun z => ?_, fun z => ?_⟩
        · subst z
          have l1 := (List.getElem?_eq_some_iff.mp hi)
          have l2 := (List.getElem?_eq_some_iff.mp hj)
          exact (List.getElem_inj g2.nd).mp (l1.2.trans l2.2.symm)
        · subst z
          rw [hi] at hj
          exact Option.some.inj hj
      rw [e]
      exact h2.here g2 _ (.val (.bl _))
    · exact h2.elim
  · exact h2.elim
theorem eqi_bl {c : Nat} {σ : Env} {S S' : Store} {q : Sq} (h : ev G cal (.eqi c a b) σ S = .ok q S') : ∃ k, q = .val (.bl k) := by
  unfold ev at h
  cases h1 : ev G cal a σ S with
  | ok p S1 =>
    rw [h1] at h
    simp only [Res.bind_ok] at h
    cases h2 : ev G cal b σ S1 with
    | ok q2 S2 =>
      rw [h2] at h
      simp only [Res.bind_ok] at h
      split at h
      · split at h
        · cases h; exact ⟨_, rfl⟩
        · cases h
      · cases h
    | _ => rw [h2] at h; cases h
  | _ => rw [h1] at h; cases h
theorem se_eqi {c : Nat} (iu : Inn U X) (hu : X.A.units < cLine) (ha : SE X M G e (ev G cal a)) (hb : SE X M G o (ev G cal b)) (hm' : PySem.W.mroIn U.K (M.ca c) (.type "object") = some true)
    (hs : PySem.W.findIn U.K (.ref (M.ca c)) "__eq__" = some (some (.builtin "object.__eq__"))) (hm : behindInMarks .Eq o = false) :
    SE X M G (.Compare e [.Eq] [o] pos) (ev G cal (.eqi c a b)) := by
  rw [← iu.K] at hs hm'
  refine ⟨fun pins s σ H Q I h => ?_⟩
  obtain ⟨E, S, ρ, σd, xt, gd, er, h⟩ := h
  refine (pe_cmpR (op_eqI hu hm' hs) ha hb hm).run pins s σ H Q I ?_
  exact eqi_read xt gd er h
theorem st_eqi {c : Nat} (iu : Inn U X) (hu : X.A.units < cLine) (ha : SE X M G e (ev G cal a)) (hb : SE X M G o (ev G cal b)) (hm' : PySem.W.mroIn U.K (M.ca c) (.type "object") = some true)
    (hs : PySem.W.findIn U.K (.ref (M.ca c)) "__eq__" = some (some (.builtin "object.__eq__"))) (hm : behindInMarks .Eq o = false) :
    ST X M G (.Compare e [.Eq] [o] pos) (tr (ev G cal (.eqi c a b))) := by
  rw [← iu.K] at hs hm'
  refine ⟨fun pins s σ H Q I h => ?_⟩
  obtain ⟨E, S, ρ, σd, xt, gd, er, h⟩ := h
  refine (pt_cmpR (op_eqI hu hm' hs) ha hb hm).run pins s σ H Q I ?_
  refine eqi_read xt gd er ?_
  have key : ∀ q S', ev G cal (.eqi c a b) σd S = .ok q S' → ∃ k, q = .val (.bl k) := fun q S' => eqi_bl
  cases hq : ev G cal (.eqi c a b) σd S with
  | ok q S' =>
    obtain ⟨r, rfl⟩ := key q S' hq
    simp only [tr, hq] at h
    exact fun ρ' H' n g v hv => by
      cases hv with
      | val hv =>
        cases hv
        exact ⟨r, rfl, h ρ' H' n g⟩
  | exc c d S' => simp only [tr, hq] at h; exact h
  | bad => simp only [tr, hq] at h; exact h
end
end DI
end

section
set_option Elab.async false
set_option linter.all false
set_option maxRecDepth 100000
/-! DINeo: != of instances whose class has a == of its own. -/
namespace HN
open PySem PySem.Spec PyProof.Rows PySem.SeqAt
section
variable {M : Model} {prog : Program} {w : World} {A : Around} {E : Value → Shared → Prop} {s : Shared} {K : PySem.W.Frag} {x y C f : Addr} {ox oy : Obj} {od oe : Option Obj} {b tb : Value}
theorem ifBound_objNe {args : List Value} {Q : Option Value → Shared → Prop} (X : K.In s.heap) (I : PySem.W.InstAt s.heap x ox C od) (hs : PySem.W.findIn K (.ref C) "__ne__" = some (some (.builtin "object.__ne__")))
    (h : wpAny M A (call (.builtin "object.__ne__") (.ref x :: args)) (fun v => Q (some v)) E s) : wpAny M A (callSpecialIfBound? (.ref x) "__ne__" args) Q E s := by
  simp only [callSpecialIfBound?, bindSpecialIfBound?]
  refine wpAny_holding (wpAny_bind (wpAny_bind (wpAny_bind (I.type.here ((PySem.W.looks_findIn X hs).here ?_)))))
  refine wpAny_bind (wpAny_askSetting (wpAny_ite ?_))
  have fin : wpAny M A (call (.builtin "object.__ne__") ([.ref x] ++ args) >>= fun v => pure (some v)) Q E s := wpAny_bind (wpAny_mono h (fun v s' h' => wpAny_pure h') fun _ _ h' => h')
  split
  · exact wpAny_bind (wpAny_of_eq (F.cmp_object.ne.bind _) (wpAny_pure (by exact fin)))
  · exact wpAny_tryCatch (wpAny_bind (wpAny_of_eq (F.cmp_object.ne.bind _) (wpAny_pure (by exact fin))))
/-- the own == said whether; != is the other -/
def NeB (Q : Value → Shared → Prop) (v : Value) (s' : Shared) : Prop := ∃ k, v = .bool k ∧ Q (.bool (!k)) s'
theorem ne_entry {Q : Fin → Shared → Prop} (hu : A.units < cLine) (X : K.In s.heap) (I : PySem.W.InstAt s.heap x ox C od) (hs : PySem.W.findIn K (.ref C) "__eq__" = some (some (.ref f))) (hf : PySem.W.isFn K (.ref f) = true)
    (h : wpAny M A (call (.ref f) [.ref x, b]) (NeB fun v s' => Q (.done (.ret v)) s') E s) : wpAny M A (Builtin.«object.__ne__» ⟨[.ref x, b], []⟩) Q E s := by
  unfold Builtin.«object.__ne__»
  repeat (first | with_reducible refine wpAny_cRoomFor hu ?_ | (with_reducible refine PySem.W.ifBound_K X I hs hf (wpAny_mono h (fun v s' z => ?_) fun _ _ z => z)) | wp_step)
  obtain ⟨k, rfl, hq⟩ := z
  repeat wp_step
  exact hq
theorem ne_first {Q : Value → Shared → Prop} (hu : A.units + 1 < cLine) (X : K.In s.heap) (I : PySem.W.InstAt s.heap x ox C od) (hb : PySem.W.Looks (model prog w) s.heap (typeOf b) tb) (hn : PySem.W.notFirst K C tb = true)
    (hm : PySem.W.mroIn K C (.type "object") = some true) (hne : PySem.W.findIn K (.ref C) "__ne__" = some (some (.builtin "object.__ne__"))) (hs : PySem.W.findIn K (.ref C) "__eq__" = some (some (.ref f))) (hf : PySem.W.isFn K (.ref f) = true)
    (h : wpAny (model prog w) A.in1 (call (.ref f) [.ref x, b]) (NeB Q) E s) : wpAny (model prog w) A (richCompare .NotEq (.ref x) b) Q E s := by
  have one : wpAny (model prog w) A (tryCompare (.ref x) "__ne__" b) (fun r s' => ∃ v, r = some v ∧ Q v s') E s := by
    unfold tryCompare
    refine wpAny_bind (ifBound_objNe X I hne ?_)
    refine wpAny_call (codeAny_call_builtin F.cmp_object.ne.plain F.cmpEntry_ne (PySem.W.check_slot F.cmpKind_ne F.cmpSplit_ne (I.type.andThen (PySem.W.looks_mroIn X hm)) (F.cmpArgs_ne _ _)
      (ne_entry (show A.in1.units < cLine from hu) X I hs hf (wpAny_mono h (fun v s' z => ?_) fun _ _ z => z))))
    obtain ⟨k, rfl, hq⟩ := z
    exact ⟨k, rfl, wpAny_pure ⟨_, rfl, hq⟩⟩
  simp only [richCompare, cmpInfo_NotEq, oneThing_ref]
  refine wpAny_holding (wpAny_bind (wpAny_cRoomFor (by omega) ?_))
  refine wpAny_bind (I.type.here (wpAny_bind (hb.here ?_)))
  split
  · rename_i q
    have e : PySem.W.subIn K tb (.ref C) = some false := by
      rcases Bool.or_eq_true_iff.mp hn with e | e
      · rw [beq_iff_eq.mp e] at q; simp at q
      · exact beq_iff_eq.mp e
    refine wpAny_bind ((PySem.W.looks_subIn X e).here ?_)
    simp only [Bool.false_eq_true, if_false]
    refine wpAny_bind (wpAny_mono one (fun r s' z => ?_) fun _ _ e => e)
    obtain ⟨v, rfl, hq⟩ := z
    exact wpAny_pure hq
  · refine wpAny_bind (wpAny_pure ?_)
    simp only [Bool.false_eq_true, if_false]
    refine wpAny_bind (wpAny_mono one (fun r s' z => ?_) fun _ _ e => e)
    obtain ⟨v, rfl, hq⟩ := z
    exact wpAny_pure hq
end
end HN
namespace DI
open PySem PySem.Spec L2
open PyProof.Rows hiding St
section
variable {U : Uv} {X : Cx} {M : Nm} {G : Gx} {e o : Expr} {pos : Pos} {cal : Nat → List D → Store → Res D} {a b : CE} {P : Nat → Option CDef} {fa : Nat → Addr} {k : Nat}
/-- .. of two instances -/
def rNeO (K : PySem.W.Frag) (C : Addr) (sp : Sp) (E : XK) : R2 := fun x y H Q => ∃ a dx fs b dy gs, x = .ref a ∧ y = .ref b ∧ H a = some (.ins C dx fs) ∧ H b = some (.ins C dy gs) ∧
  sp [x, y] H (fun v H' => ∃ r, v = .bl r ∧ Q (.bl (!r)) H') E
theorem op_neO {CX : CXT} {C f : Addr} {fd : FuncData} {ps : List Str} {sp : Sp} {E : XK} (F : FnOk X.prog X.w X.K X.mg X.base CX k f fd ps sp) (hr : Room (k + 1) X.A) (hm : PySem.W.mroIn X.K C (.type "object") = some true)
    (hne : PySem.W.findIn X.K (.ref C) "__ne__" = some (some (.builtin "object.__ne__"))) (hs : PySem.W.findIn X.K (.ref C) "__eq__" = some (some (.ref f))) (hf : PySem.W.isFn X.K (.ref f) = true) (hb : Binds X.K fd ps []) (hx : Passes CX X E) :
    OpR X (compareOp .NotEq) (rNeO X.K C sp E) := by
  intro pins s σ H x y v u Q I rx ry h
  obtain ⟨a, dx, fs, b, dy, gs, rfl, rfl, ha, hb', hsp⟩ := h
  cases rx
  cases ry
  show wpAny (model X.prog X.w) X.A (richCompare .NotEq (.ref a) (.ref b)) (EP X pins σ Q) X.xe s
  obtain ⟨mA, J, _⟩ := ins_get I.hok ha
  obtain ⟨od, J, _⟩ := J.look
  obtain ⟨mB, J', _⟩ := ins_get I.hok hb'
  obtain ⟨od', J', _⟩ := J'.look
  refine HN.ne_first (tb := .ref C) (by have := hr.un; omega) I.kIn J J'.type (by simp [PySem.W.notFirst]) hm hne hs hf ?_
  have e0 : Env0 X.prog X.w X.K X.mg X.base X.A.in1 X.stack s H := by
    have e := I.env0
    exact ⟨e.frames, e.mod, e.bs, e.bsz, e.funs, e.frf, e.hok, e.bare⟩
  have hl := F.len _ _ _ _ hsp
  have r2 : Vals [V.ref a, V.ref b] [Value.ref a, Value.ref b] := .cons rfl (.cons rfl .nil)
  refine wpAny_call (codeAny_mono (F.run X.A.in1 X.stack s H ⟨[.ref a, .ref b], []⟩ [.ref a, .ref b] [.ref a, .ref b] _ E hr.in1 e0 (by
    have := hb s [.ref a, .ref b] I.kIn (by simpa using hl)
    simpa using this) r2 hsp) fun r s' hq => ?_)
  cases r with
  | error e => exact hx pins σ H s e s' I hq
  | ok fl =>
    cases fl with
    | ret w =>
      obtain ⟨z, H', I', rz, r, ez, q⟩ := I.after hq
      subst ez
      cases rz
      exact ⟨r, rfl, .bl (!r), H', I', rfl, q⟩
    | next => exact False.elim hq
    | brk => exact False.elim hq
    | cont => exact False.elim hq
theorem neo_read {c f : Nat} {cd : CDef} {E : XK} {S : Store} {ρ : List Addr} {H : Hp} {σ : L2.St} {σd : Env} {Q : VK} (co : CallsOk U M G P fa cal k) (hf : P f = some cd) (xt : XT X E) (gd : Good M S ρ H) (er : ER M S ρ H σ σd) (h : PostG M G E S ρ H (ev G cal (.neo c f a b) σd S) (KE M H Q)) :
    tOp (rNeO X.K (M.ca c) (spF M G cd.np (cal f)) E) (tEv X M G (ev G cal a)) (tEv X M G (ev G cal b)) σ H Q := by
  unfold ev at h
  refine two xt gd er h fun p q x y S2 ρ2 H2 n2 g2 hx hy h2 => ?_
  split at h2
  · split at h2
    · rename_i d e' hcl
      cases hx with
      | val hx =>
      cases hy with
      | val hy =>
      obtain ⟨fl, hfs⟩ := cls_fs hcl.1
      obtain ⟨b1, dx, fs, rfl, hb1, fr⟩ := fs_rep g2 hx hfs
      have hl : ∃ cd', P f = some cd' ∧ ([d, e'] : List D).length = cd'.np := co.np f _ S2 (PostG.bind g2 h2).ne_bad
      obtain ⟨cd', e3, e4⟩ := hl
      rw [hf] at e3
      cases e3
      obtain ⟨fl2, hfs2⟩ := cls_fs hcl.2
      obtain ⟨b2, dy, gs, rfl, hb2, _⟩ := fs_rep g2 hy hfs2
      refine ⟨b1, dx, fs, b2, dy, gs, rfl, rfl, hb1, hb2, S2, ρ2, [d, e'], g2, .cons hx (.cons hy .nil), e4, (PostG.bind g2 h2).imp fun r S3 ρ3 H3 e5 n3 g3 h3 v rv => ?_⟩
      split at h3
      · cases rv
        exact ⟨_, rfl, h3.here g3 _ (.val (.bl _))⟩
      · exact h3.elim
    · exact h2.elim
  · exact h2.elim
theorem neo_bl {c f : Nat} {σ : Env} {S S' : Store} {q : Sq} (h : ev G cal (.neo c f a b) σ S = .ok q S') : ∃ k, q = .val (.bl k) := by
  unfold ev at h
  cases h1 : ev G cal a σ S with
  | ok p S1 =>
    rw [h1] at h
    simp only [Res.bind_ok] at h
    cases h2 : ev G cal b σ S1 with
    | ok q2 S2 =>
      rw [h2] at h
      simp only [Res.bind_ok] at h
      split at h
      · split at h
        · rename_i d e hc
          cases h3 : cal f [d, e] S2 with
          | ok r S3 =>
            rw [h3] at h
            simp only [Res.bind_ok] at h
            split at h
            · cases h; exact ⟨_, rfl⟩
            · cases h
          | _ => rw [h3] at h; cases h
        · cases h
      · cases h
    | _ => rw [h2] at h; cases h
  | _ => rw [h1] at h; cases h
section
variable {c f : Nat} {cd : CDef} (iu : Inn U X) (co : CallsOk U M G P fa cal k) (hf : P f = some cd) (hr : Room (k + 1) X.A) (ha : SE X M G e (ev G cal a)) (hb : SE X M G o (ev G cal b))
    (hs : PySem.W.findIn U.K (.ref (M.ca c)) "__eq__" = some (some (.ref (fa f)))) (hfn : PySem.W.isFn U.K (.ref (fa f)) = true) (hmr : PySem.W.mroIn U.K (M.ca c) (.type "object") = some true)
    (hne : PySem.W.findIn U.K (.ref (M.ca c)) "__ne__" = some (some (.builtin "object.__ne__"))) (hm : behindInMarks .NotEq o = false)
include iu co hf hr ha hb hs hfn hmr hne hm
theorem se_neo : SE X M G (.Compare e [.NotEq] [o] pos) (ev G cal (.neo c f a b)) := by
  rw [← iu.K] at hs hfn hmr hne
  refine ⟨fun pins s σ H Q I h => ?_⟩
  obtain ⟨E, S, ρ, σd, xt, gd, er, h⟩ := h
  obtain ⟨fd, ps, F, B⟩ := co.ok f cd hf
  refine (pe_cmpR (op_neO (iu.fn F) hr hmr hne hs hfn (iu.bi B) (passes_e iu xt)) ha hb hm).run pins s σ H Q I ?_
  exact neo_read co hf xt gd er h
theorem st_neo : ST X M G (.Compare e [.NotEq] [o] pos) (tr (ev G cal (.neo c f a b))) := by
  rw [← iu.K] at hs hfn hmr hne
  refine ⟨fun pins s σ H Q I h => ?_⟩
  obtain ⟨E, S, ρ, σd, xt, gd, er, h⟩ := h
  obtain ⟨fd, ps, F, B⟩ := co.ok f cd hf
  refine (pt_cmpR (op_neO (iu.fn F) hr hmr hne hs hfn (iu.bi B) (passes_e iu xt)) ha hb hm).run pins s σ H Q I ?_
  refine neo_read co hf xt gd er ?_
  have key : ∀ q S', ev G cal (.neo c f a b) σd S = .ok q S' → ∃ k, q = .val (.bl k) := fun q S' => neo_bl
  cases hq : ev G cal (.neo c f a b) σd S with
  | ok q S' =>
    obtain ⟨r, rfl⟩ := key q S' hq
    simp only [tr, hq] at h
    exact fun ρ' H' n g v hv => by
      cases hv with
      | val hv =>
        cases hv
        exact ⟨r, rfl, h ρ' H' n g⟩
  | exc c d S' => simp only [tr, hq] at h; exact h
  | bad => simp only [tr, hq] at h; exact h
end
end
end DI
end

section
set_option Elab.async false
set_option linter.all false
set_option maxRecDepth 100000
/-! DIAll: what the checker has looked at holds. -/
namespace DI
open PySem PySem.Spec L2
open PyProof.Rows hiding St
section
variable {U : Uv} {M : Nm} {G : Gx} {P : Nat → Option CDef} {fa : Nat → Addr} {L : Glb} {k : Nat} {cal : Nat → List D → Store → Res D}
theorem not_slice {e : Expr} (h : isSliceE e = false) : ∀ lo hi st p, e ≠ .Slice lo hi st p := by
  rintro lo hi st p rfl
  cases h
theorem no_set {e : Expr} {env : PySem.Env} (h : isSetE e = false) (x : Value) : foldedSetIterable e env x = pure x := by
  cases e <;> first | rfl | cases h
theorem tg_own {T : Tab} {t : Tg} {e : Expr} (h : tgB T t e = true) : (tgOwn t e).map (·.2) = tgIxs t := by
  unfold tgB at h
  split at h
  · rfl
  · rfl
  · cases h
theorem XOk.blk {X : Cx} {T : Tab} (o : XOk U T k X) {scope : Scope} (hk : scope.kind = .function) (s : Shared) (H : Hp) (C : Addr) (cl : List (Str × Addr)) (fp : List Addr) :
    XOk U ⟨T.N, relS scope T.sc, some scope⟩ k (X.blk s H scope (compEnvC scope cl C X.env) fp) := by
  refine ⟨⟨o.inn.prog, o.inn.w, o.inn.K, o.inn.mg, o.inn.base⟩, o.N, ?_, rfl, o.calm, o.room, o.nd, hk⟩
  show relabel scope X.env = relS scope T.sc
  rw [← o.sc]
  rfl
theorem has_cd (F : Facts U M G P fa L) {f : Nat} (h : L.has f = true) : ∃ cd, P f = some cd := Option.isSome_iff_exists.mp (F.has f h)
theorem SA.of' {X : Cx} {es : List Expr} {ma mb : Env → Store → Res (List D)} (h : SA X M G es ma) (e : ∀ σ S, mb σ S = ma σ S) : SA X M G es mb := by
  have : mb = ma := by funext σ S; exact e σ S
  rw [this]; exact h
mutual
theorem cE_ok (F : Facts U M G P fa L) (co : CallsOk U M G P fa cal k) : ∀ (c : CE) (T : Tab) (X : Cx) (e : Expr), XOk U T k X → cE L G T c e = true → EOk X M G c e (ev G cal c)
  | .var i, T, X, e, o, h => by
    simp only [cE] at h
    split at h
    · simp only [Bool.and_eq_true, decide_eq_true_eq] at h
      obtain ⟨⟨⟨h1, h2⟩, h3⟩, h4⟩ := h
      exact .plain (se_var (by rw [o.N]; exact h1) (o.vis h2) (dbg_ok h3) (cld_ok h4)) rfl
    · cases h
  | .cn d, T, X, e, o, h => by
    simp only [cE] at h
    split at h
    · cases of_decide_eq_true h; exact .plain se_int rfl
    · cases of_decide_eq_true h; exact .plain se_bl rfl
    · exact .plain se_non rfl
    · cases of_decide_eq_true h; exact .plain se_str rfl
    · cases h
  | .gint x i, T, X, e, o, h => by
    simp only [cE] at h
    split at h
    · simp only [Bool.and_eq_true, decide_eq_true_eq] at h
      obtain ⟨⟨h1, h2⟩, h3⟩ := h
      obtain ⟨u, h4, h5⟩ := F.gin _ _ h1
      exact .plain (se_gint (o.gl h2) (by rw [o.inn.mg]; exact h4) h5 (dbg_ok h3)) rfl
    · cases h
  | .bin b x y, T, X, e, o, h => by
    simp only [cE] at h
    split at h
    · simp only [Bool.and_eq_true, decide_eq_true_eq] at h
      obtain ⟨⟨rfl, h2⟩, h3⟩ := h
      exact .plain (.of (se_bino (cE_ok F co x T X _ o h2).se (cE_ok F co y T X _ o h3).se) fun σ S => by (conv => lhs; unfold ev) <;> rfl) rfl
    · cases h
  | .neg x, T, X, e, o, h => by
    simp only [cE] at h
    split at h
    · exact .plain (.of (se_neg (cE_ok F co x T X _ o h).se) fun σ S => by (conv => lhs; unfold ev) <;> rfl) rfl
    · cases h
  | .notT x, T, X, e, o, h => by
    simp only [cE] at h
    split at h
    · have r := cE_ok F co x T X _ o h
      exact ⟨.of (se_not r.se) fun σ S => by ((conv => lhs; unfold ev) <;> rfl), fun ht => .of (st_not (r.st ht)) fun σ S => tr_not σ S, fun _ ⟨_, _, _, q⟩ => by cases q⟩
    · cases h
  | .andV x y, T, X, e, o, h => by
    simp only [cE] at h
    split at h
    · rename_i u v p
      simp only [Bool.and_eq_true] at h
      have r1 := cE_ok F co x T X _ o h.1
      have r2 := cE_ok F co y T X _ o h.2
      have sw : tB (.andV x y) = true → SW X M G (.BoolOp .And [u, v] p) (tr (ev G cal (.andV x y))) := fun ht => by
        simp only [tB, Bool.and_eq_true] at ht
        have e : tr (ev G cal (.andV x y)) = andB (tr (ev G cal x)) (tr (ev G cal y)) := by funext σ S; exact tr_and σ S
        rw [e]
        exact sw_and (r1.st ht.1) (sw_and1 (r2.st ht.2))
      exact ⟨.of (se_and r1.se (se_one r2.se)) fun σ S => by ((conv => lhs; unfold ev) <;> rfl), fun ht => (sw ht).pt, fun ht _ => sw ht⟩
    · simp only [Bool.and_eq_true] at h
      have r1 := cE_ok F co x T X _ o h.1
      have r2 := cE_ok F co y T X _ o h.2
      have sw : tB (.andV x y) = true → SW X M G _ (tr (ev G cal (.andV x y))) := fun ht => by
        simp only [tB, Bool.and_eq_true] at ht
        have e : tr (ev G cal (.andV x y)) = andB (tr (ev G cal x)) (tr (ev G cal y)) := by funext σ S; exact tr_and σ S
        rw [e]
        exact sw_and (r1.st ht.1) (r2.sw ht.2 ⟨_, _, _, rfl⟩)
      exact ⟨.of (se_and r1.se r2.se) fun σ S => by ((conv => lhs; unfold ev) <;> rfl), fun ht => (sw ht).pt, fun ht _ => sw ht⟩
    · cases h
  | .orV x y, T, X, e, o, h => by
    simp only [cE] at h
    split at h
    · rename_i u v p
      simp only [Bool.and_eq_true] at h
      have r1 := cE_ok F co x T X _ o h.1
      have r2 := cE_ok F co y T X _ o h.2
      have sw : tB (.orV x y) = true → SW X M G (.BoolOp .Or [u, v] p) (tr (ev G cal (.orV x y))) := fun ht => by
        simp only [tB, Bool.and_eq_true] at ht
        have e : tr (ev G cal (.orV x y)) = orB (tr (ev G cal x)) (tr (ev G cal y)) := by funext σ S; exact tr_or σ S
        rw [e]
        exact sw_or (r1.st ht.1) (sw_or1 (r2.st ht.2))
      exact ⟨.of (se_or r1.se (se_one r2.se)) fun σ S => by ((conv => lhs; unfold ev) <;> rfl), fun ht => (sw ht).pt, fun ht _ => sw ht⟩
    · simp only [Bool.and_eq_true] at h
      have r1 := cE_ok F co x T X _ o h.1
      have r2 := cE_ok F co y T X _ o h.2
      have sw : tB (.orV x y) = true → SW X M G _ (tr (ev G cal (.orV x y))) := fun ht => by
        simp only [tB, Bool.and_eq_true] at ht
        have e : tr (ev G cal (.orV x y)) = orB (tr (ev G cal x)) (tr (ev G cal y)) := by funext σ S; exact tr_or σ S
        rw [e]
        exact sw_or (r1.st ht.1) (r2.sw ht.2 ⟨_, _, _, rfl⟩)
      exact ⟨.of (se_or r1.se r2.se) fun σ S => by ((conv => lhs; unfold ev) <;> rfl), fun ht => (sw ht).pt, fun ht _ => sw ht⟩
    · cases h
  | .cmp q x y, T, X, e, o, h => by
    simp only [cE] at h
    split at h
    · simp only [Bool.and_eq_true, decide_eq_true_eq, Bool.not_eq_true'] at h
      obtain ⟨⟨⟨rfl, h1⟩, h2⟩, h3⟩ := h
      have r1 := cE_ok F co x T X _ o h2
      have r2 := cE_ok F co y T X _ o h3
      refine ⟨.of (se_cmp o.hu h1 r1.se r2.se) fun σ S => by ((conv => lhs; unfold ev) <;> rfl), fun _ => .of (st_cmp o.hu h1 r1.se r2.se) fun σ S => ?_, fun _ ⟨_, _, _, q⟩ => by cases q⟩
      simp only [tr]
      conv => lhs; unfold ev
      simp only [Res.bind_assoc, Res.bind_ok, truth_bl]
      congr 1; funext p S1; congr 1; funext q' S2
      cases cmpD q S2 p q' <;> rfl
    · cases h
  | .eqo c f x y, T, X, e, o, h => by
    simp only [cE] at h
    split at h
    · simp only [Bool.and_eq_true, Bool.not_eq_true'] at h
      obtain ⟨⟨⟨⟨h0, h1⟩, h2⟩, h3⟩, h4⟩ := h
      obtain ⟨g1, g2, g3⟩ := F.eq _ _ h0
      obtain ⟨cd, hf⟩ := has_cd F h1
      have r1 := cE_ok F co x T X _ o h3
      have r2 := cE_ok F co y T X _ o h4
      exact ⟨se_eqo o.inn co hf (o.room.mono (Nat.le_succ _)) r1.se r2.se g1 g2 g3 h2, fun _ => st_eqo o.inn co hf (o.room.mono (Nat.le_succ _)) r1.se r2.se g1 g2 g3 h2, fun _ ⟨_, _, _, q⟩ => by cases q⟩
    · cases h
  | .neo c f x y, T, X, e, o, h => by
    simp only [cE] at h
    split at h
    · simp only [Bool.and_eq_true, Bool.not_eq_true'] at h
      obtain ⟨⟨⟨⟨⟨h0, h5⟩, h1⟩, h2⟩, h3⟩, h4⟩ := h
      obtain ⟨g1, g2, _⟩ := F.eq _ _ h0
      obtain ⟨g4, g5⟩ := F.neq _ h5
      obtain ⟨cd, hf⟩ := has_cd F h1
      have r1 := cE_ok F co x T X _ o h3
      have r2 := cE_ok F co y T X _ o h4
      exact ⟨se_neo o.inn co hf o.room r1.se r2.se g1 g2 g4 g5 h2, fun _ => st_neo o.inn co hf o.room r1.se r2.se g1 g2 g4 g5 h2, fun _ ⟨_, _, _, q⟩ => by cases q⟩
    · cases h
  | .eqi c x y, T, X, e, o, h => by
    simp only [cE] at h
    split at h
    · simp only [Bool.and_eq_true, Bool.not_eq_true'] at h
      obtain ⟨⟨⟨h0, h2⟩, h3⟩, h4⟩ := h
      obtain ⟨g1, g2⟩ := F.peq _ h0
      have r1 := cE_ok F co x T X _ o h3
      have r2 := cE_ok F co y T X _ o h4
      exact ⟨se_eqi o.inn (by have := o.hu; omega) r1.se r2.se g1 g2 h2, fun _ => st_eqi o.inn (by have := o.hu; omega) r1.se r2.se g1 g2 h2, fun _ ⟨_, _, _, q⟩ => by cases q⟩
    · cases h
  | .chain q p x y z, T, X, e, o, h => by
    simp only [cE] at h
    split at h
    · simp only [Bool.and_eq_true, decide_eq_true_eq, Bool.not_eq_true'] at h
      obtain ⟨⟨⟨⟨⟨rfl, rfl⟩, h1⟩, h2⟩, h3⟩, h4⟩ := h
      have r1 := cE_ok F co x T X _ o h2
      have r2 := cE_ok F co y T X _ o h3
      have r3 := cE_ok F co z T X _ o h4
      have key : ∀ σ S, ev G cal (.chain q p x y z) σ S = (chainB q p (ev G cal x) (ev G cal y) (ev G cal z) σ S).bind fun k S1 => .ok (.val (.bl k)) S1 := fun σ S => by
        conv => lhs; unfold ev
        simp only [chainB, Res.bind_assoc]
        congr 1; funext p' S1; congr 1; funext q' S2
        cases cmpD q S2 p' q' with
        | none => rfl
        | some b => cases b <;> simp [Res.bind_assoc]
      refine ⟨.of (se_chain o.hu h1 r1.se r2.se r3.se) key, fun _ => .of (st_chain o.hu h1 r1.se r2.se r3.se) fun σ S => ?_, fun _ ⟨_, _, _, q⟩ => by cases q⟩
      simp only [tr]
      rw [key]
      cases chainB q p (ev G cal x) (ev G cal y) (ev G cal z) σ S <;> rfl
    · cases h
  | .ite t x y, T, X, e, o, h => by
    simp only [cE] at h
    split at h
    · simp only [Bool.and_eq_true] at h
      obtain ⟨⟨⟨h1, h2⟩, h3⟩, h4⟩ := h
      refine ⟨.of (se_ite ((cE_ok F co t T X _ o h2).st h1) (cE_ok F co x T X _ o h3).se (cE_ok F co y T X _ o h4).se) fun σ S => ?_, (fun ht => by cases ht), (fun ht => by cases ht)⟩
      conv => lhs; unfold ev
      simp only [tr, Res.bind_assoc]
    · cases h
  | .tup es, T, X, e, o, h => by
    simp only [cE] at h
    split at h
    · exact .plain (.of (se_tup (cEs_ok F co es T X _ o h)) fun σ S => by (conv => lhs; unfold ev) <;> rfl) rfl
    · cases h
  | .lst es, T, X, e, o, h => by
    simp only [cE] at h
    split at h
    · exact .plain (.of (se_lst (cEs_ok F co es T X _ o h)) fun σ S => by (conv => lhs; unfold ev) <;> rfl) rfl
    · cases h
  | .idx x y, T, X, e, o, h => by
    simp only [cE] at h
    split at h
    · simp only [Bool.and_eq_true, Bool.not_eq_true'] at h
      obtain ⟨⟨h1, h2⟩, h3⟩ := h
      exact .plain (.of (se_idx (not_slice h1) (cE_ok F co x T X _ o h2).se (cE_ok F co y T X _ o h3).se) fun σ S => by (conv => lhs; unfold ev) <;> rfl) rfl
    · cases h
  | .slc .no x _ _, T, X, e, o, h => by
    simp only [cE] at h
    split at h
    · exact .plain (.of (se_slc0 (cE_ok F co x T X _ o h).se) fun σ S => by (conv => lhs; unfold ev) <;> rfl) rfl
    · cases h
  | .slc .hi x _ y, T, X, e, o, h => by
    simp only [cE] at h
    split at h
    · simp only [Bool.and_eq_true] at h
      exact .plain (.of (se_slcH (cE_ok F co x T X _ o h.1).se (cE_ok F co y T X _ o h.2).se) fun σ S => by (conv => lhs; unfold ev) <;> rfl) rfl
    · cases h
  | .slc .lo x y _, T, X, e, o, h => by
    simp only [cE] at h
    split at h
    · simp only [Bool.and_eq_true] at h
      exact .plain (.of (se_slcL (cE_ok F co x T X _ o h.1).se (cE_ok F co y T X _ o h.2).se) fun σ S => by (conv => lhs; unfold ev) <;> rfl) rfl
    · cases h
  | .slc .both x y z, T, X, e, o, h => by
    simp only [cE] at h
    split at h
    · simp only [Bool.and_eq_true] at h
      exact .plain (.of (se_slcB (cE_ok F co x T X _ o h.1.1).se (cE_ok F co y T X _ o h.1.2).se (cE_ok F co z T X _ o h.2).se) fun σ S => by (conv => lhs; unfold ev) <;> rfl) rfl
    · cases h
  | .rev x, T, X, e, o, h => by
    simp only [cE] at h
    split at h
    · exact .plain (.of (se_rev (cE_ok F co x T X _ o h).se) fun σ S => by (conv => lhs; unfold ev) <;> rfl) rfl
    · cases h
  | .attr x f, T, X, e, o, h => by
    simp only [cE] at h
    split at h
    · simp only [Bool.and_eq_true, decide_eq_true_eq, Bool.not_eq_true'] at h
      obtain ⟨⟨h1, h2⟩, h3⟩ := h
      exact .plain (se_attr o.inn F.cf (cE_ok F co x T X _ o h3).se (by rw [← F.an]; exact h1) (base_of h2)) rfl
    · cases h
  | .call f es, T, X, e, o, h => by
    simp only [cE] at h
    split at h
    · rename_i xs _
      simp only [Bool.and_eq_true, decide_eq_true_eq] at h
      obtain ⟨⟨⟨⟨⟨h1, h2⟩, h3⟩, h4⟩, h5⟩, h6⟩ := h
      obtain ⟨g1, g2⟩ := F.gfn _ _ h1
      obtain ⟨cd, hf⟩ := has_cd F h2
      cases xs with
      | nil =>
        cases es with
        | nil => exact .plain (se_call0 o.inn co hf (o.room.mono (Nat.le_succ _)) (o.gl h3) g1 g2 (dbg_ok h4)) rfl
        | _ => simp [cEs] at h6
      | cons y ys => exact .plain (se_call o.inn co hf (o.room.mono (Nat.le_succ _)) (cEs_ok F co es T X _ o h6) (o.gl h3) g1 g2 h5 (dbg_ok h4)) rfl
    · cases h
  | .mk c f imm es, T, X, e, o, h => by
    simp only [cE] at h
    split at h
    · rename_i xs _
      simp only [Bool.and_eq_true, decide_eq_true_eq] at h
      obtain ⟨⟨⟨⟨⟨⟨h1, h0⟩, h2⟩, h3⟩, h4⟩, h5⟩, h6⟩ := h
      have g1 := F.gcl _ _ h1
      have g2 := F.mks _ _ h0
      obtain ⟨cd, hf⟩ := has_cd F h2
      cases xs with
      | nil =>
        cases es with
        | nil => exact .plain (se_mk0 o.inn co hf o.room (o.gl h3) g1 g2 (dbg_ok h4)) rfl
        | _ => simp [cEs] at h6
      | cons y ys => exact .plain (se_mk o.inn co hf o.room (cEs_ok F co es T X _ o h6) (o.gl h3) g1 g2 h5 (dbg_ok h4)) rfl
    · cases h
  | .meth x c f es, T, X, e, o, h => by
    simp only [cE] at h
    split at h
    · rename_i xs _
      simp only [Bool.and_eq_true, decide_eq_true_eq, Bool.not_eq_true'] at h
      obtain ⟨⟨⟨⟨⟨⟨⟨h1, h2⟩, h3⟩, h4⟩, h5⟩, h6⟩, h7⟩, h8⟩ := h
      obtain ⟨g1, g2, g3⟩ := F.mt _ _ _ h1
      obtain ⟨cd, hf⟩ := has_cd F h2
      have r := cE_ok F co x T X _ o h7
      cases xs with
      | nil =>
        cases es with
        | nil => exact .plain (se_meth0 o.inn co hf (o.room.mono (Nat.le_succ _)) r.se g1 g2 g3 h4 h6) rfl
        | _ => simp [cEs] at h8
      | cons y ys => exact .plain (se_meth o.inn co hf (o.room.mono (Nat.le_succ _)) r.se (cEs_ok F co es T X _ o h8) g1 g2 g3 h3 h4 h5 h6) rfl
    · cases h
  | .b1 b x, T, X, e, o, h => by
    simp only [cE] at h
    split at h
    · simp only [Bool.and_eq_true, decide_eq_true_eq, Bool.not_eq_true'] at h
      obtain ⟨⟨⟨⟨rfl, h2⟩, h3⟩, h4⟩, h5⟩ := h
      obtain ⟨g1, g2⟩ := o.blt F h3
      exact .plain (.of (se_b1 o.calm h2 g1 g2 h4 (cE_ok F co x T X _ o h5).se) fun σ S => by (conv => lhs; unfold ev) <;> rfl) rfl
    · simp only [Bool.and_eq_true, decide_eq_true_eq, Bool.not_eq_true'] at h
      obtain ⟨⟨⟨⟨⟨rfl, rfl⟩, h2⟩, h3⟩, h4⟩, h5⟩ := h
      obtain ⟨g1, g2⟩ := o.blt F h3
      cases b <;> first | exact absurd h2 Bool.false_ne_true | skip
      exact .plain (.of (se_sortRev g1 g2 h4 (cE_ok F co x T X _ o h5).se) fun σ S => by (conv => lhs; unfold ev) <;> rfl) rfl
    · cases h
  | .b2 b x y, T, X, e, o, h => by
    simp only [cE] at h
    split at h
    · simp only [Bool.and_eq_true, decide_eq_true_eq, Bool.not_eq_true'] at h
      obtain ⟨⟨⟨⟨⟨⟨rfl, h2⟩, h3⟩, h4⟩, h5⟩, h6⟩, h7⟩ := h
      refine .plain (se_b2 o.inn o.calm (o.gl h2) ?_ h4 h5 (cE_ok F co x T X _ o h6).se (cE_ok F co y T X _ o h7).se) rfl
      cases b with
      | gcd => exact F.gcd h3
      | max => exact F.blt _ h3
      | min => exact F.blt _ h3
    · cases h
  | .bm .append x es, T, X, e, o, h => by
    simp only [cE] at h
    split at h
    · simp only [Bool.and_eq_true, decide_eq_true_eq, Bool.not_eq_true'] at h
      obtain ⟨⟨⟨⟨⟨⟨rfl, h1⟩, h2⟩, h3⟩, h4⟩, h5⟩, h6⟩ := h
      exact .plain (se_append (cE_ok F co x T X _ o h5).se (cEs_ok F co es T X _ o h6) h1 h2 h3 h4) rfl
    · cases h
  | .bm .insert x es, T, X, e, o, h => by
    simp only [cE] at h
    split at h
    · simp only [Bool.and_eq_true, decide_eq_true_eq, Bool.not_eq_true'] at h
      obtain ⟨⟨⟨⟨⟨⟨rfl, h1⟩, h2⟩, h3⟩, h4⟩, h5⟩, h6⟩ := h
      exact .plain (se_insert (cE_ok F co x T X _ o h5).se (cEs_ok F co es T X _ o h6) h1 h2 h3 h4) rfl
    · cases h
  | .bm .pop x es, T, X, e, o, h => by
    cases es with
    | nil =>
      simp only [cE] at h
      split at h
      · simp only [Bool.and_eq_true, decide_eq_true_eq, Bool.not_eq_true'] at h
        obtain ⟨⟨⟨rfl, h1⟩, h2⟩, h3⟩ := h
        exact .plain (se_pop (cE_ok F co x T X _ o h3).se h1 h2) rfl
      · cases h
    | _ => simp [cE] at h
  | .bm .extend x es, T, X, e, o, h => by
    cases es with
    | cons b r =>
      cases r with
      | nil =>
        simp only [cE] at h
        split at h
        · simp only [Bool.and_eq_true, decide_eq_true_eq, Bool.not_eq_true'] at h
          obtain ⟨⟨⟨⟨⟨⟨rfl, h1⟩, h0⟩, h2⟩, h3⟩, h4⟩, h5⟩ := h
          exact .plain (se_extend (cE_ok F co x T X _ o h4).se (cE_ok F co b T X _ o h5).se h1 h0 h2 h3) rfl
        · cases h
      | _ => simp [cE] at h
    | _ => simp [cE] at h
  | .bm .index x es, T, X, e, o, h => by
    simp only [cE] at h
    split at h
    · simp only [Bool.and_eq_true, decide_eq_true_eq, Bool.not_eq_true'] at h
      obtain ⟨⟨⟨⟨⟨⟨rfl, h1⟩, h2⟩, h3⟩, h4⟩, h5⟩, h6⟩ := h
      exact .plain (se_index (cE_ok F co x T X _ o h5).se (cEs_ok F co es T X _ o h6) h1 h2 h3 h4) rfl
    · cases h
  | .bm .tindex x es, T, X, e, o, h => by
    simp only [cE] at h
    split at h
    · simp only [Bool.and_eq_true, decide_eq_true_eq, Bool.not_eq_true'] at h
      obtain ⟨⟨⟨⟨⟨⟨rfl, h1⟩, h2⟩, h3⟩, h4⟩, h5⟩, h6⟩ := h
      exact .plain (se_tindex (cE_ok F co x T X _ o h5).se (cEs_ok F co es T X _ o h6) h1 h2 h3 h4) rfl
    · cases h
  | .isi x ts, T, X, e, o, h => by
    simp only [cE] at h
    split at h
    · simp only [Bool.and_eq_true, decide_eq_true_eq, Bool.not_eq_true'] at h
      obtain ⟨⟨⟨⟨rfl, h1⟩, h2⟩, h3⟩, h4⟩ := h
      obtain ⟨g1, g2⟩ := o.blt F h1
      obtain ⟨g3, g4⟩ := ty_pe o F h3
      exact .plain (se_isi o.inn F.isf g1 (by rw [← o.inn.mg]; exact g2) g4 h2 (cE_ok F co x T X _ o h4).se g3) rfl
    · simp only [Bool.and_eq_true, decide_eq_true_eq, Bool.not_eq_true'] at h
      obtain ⟨⟨⟨⟨⟨rfl, h1⟩, h2⟩, h3⟩, h3'⟩, h4⟩ := h
      obtain ⟨g1, g2⟩ := o.blt F h1
      obtain ⟨g3, g4⟩ := ty_pe o F h3
      obtain ⟨g5, g6⟩ := ty_pe o F h3'
      exact .plain (se_isi2 o.inn F.isf g1 (by rw [← o.inn.mg]; exact g2) g4 g6 h2 (cE_ok F co x T X _ o h4).se g3 g5) rfl
    · cases h
  | .lc tg it hasIf c b, T, X, e, o, h => by
    simp only [cE] at h
    split at h
    · rename_i elt tgx iter ifs asy scope p
      simp only [Bool.and_eq_true, decide_eq_true_eq, Bool.not_eq_true'] at h
      obtain ⟨⟨⟨⟨⟨⟨⟨rfl, h0⟩, h1⟩, h2⟩, h3⟩, h4⟩, h5⟩, h6⟩ := h
      have bk := blkOk_by h1
      have bo := o.blk bk.kind
      have own := tg_own h4
      refine .plain (se_lc (own := tgOwn tg tgx) ⟨o.calm, by rw [o.N]; exact o.nd, cIt_ok F co it T X tgx iter o h0 h3, by rw [o.N, o.sc]; exact bk, fun s H C cl fp => (bo s H C cl fp).tg h4, ?_, fun s H C cl fp => (cE_ok F co b _ _ _ (bo s H C cl fp) h5).se, ?_, ?_, no_set h2⟩) rfl
      · intro s H C cl fp
        cases hasIf with
        | false =>
          cases ifs with
          | nil => exact pts_nil
          | cons y ys => cases ys <;> simp at h6
        | true =>
          cases ifs with
          | nil => simp at h6
          | cons y ys =>
            cases ys with
            | nil =>
              simp only [Bool.true_and, Bool.and_eq_true] at h6
              exact pts_one (tt_blk ((cE_ok F co c _ _ _ (bo s H C cl fp) h6.2).st h6.1))
            | cons => simp at h6
      · intro i hi
        rw [own] at hi; exact hi
      · intro i hi
        rw [own]; exact hi
    · cases h
  | .tin ng x a, T, X, e, o, h => by
    simp only [cE] at h
    split at h
    · simp only [Bool.and_eq_true, decide_eq_true_eq, Bool.not_eq_true'] at h
      obtain ⟨⟨⟨⟨⟨rfl, h1⟩, h2⟩, h3⟩, h4⟩, h5⟩ := h
      exact ⟨se_tin o.inn (F.tab _ _ h1) (o.gl h2) (dbg_ok h3) (cE_ok F co a T X _ o h5).se h4, (fun ht => by cases ht), (fun ht => by cases ht)⟩
    · cases h
  | .tget x a, T, X, e, o, h => by
    simp only [cE] at h
    split at h
    · simp only [Bool.and_eq_true, decide_eq_true_eq, Bool.not_eq_true'] at h
      obtain ⟨⟨⟨⟨h1, h2⟩, h3⟩, h4⟩, h5⟩ := h
      exact .plain (se_tget o.inn (F.tab _ _ h1) (o.gl h2) (dbg_ok h3) (not_slice h4) (cE_ok F co a T X _ o h5).se) rfl
    · cases h
  | .tkeys x, T, X, e, o, h => by
    simp only [cE] at h
    split at h
    · simp only [Bool.and_eq_true, decide_eq_true_eq, Bool.not_eq_true'] at h
      obtain ⟨⟨⟨⟨rfl, h1⟩, h2⟩, h3⟩, h4⟩ := h
      obtain ⟨g1, g2⟩ := o.blt F h1
      exact .plain (se_tkeys o.inn o.calm (F.tab _ _ h2) (o.gl h3) (dbg_ok h4) g1 g2) rfl
    · cases h
  | .lrng a, T, X, e, o, h => by
    simp only [cE] at h
    split at h
    · simp only [Bool.and_eq_true, decide_eq_true_eq, Bool.not_eq_true'] at h
      obtain ⟨⟨⟨⟨⟨rfl, h1⟩, rfl⟩, h2⟩, h3⟩, h4⟩ := h
      obtain ⟨g1, g2⟩ := o.blt F h1
      obtain ⟨g3, g4⟩ := o.blt F h2
      exact .plain (se_lrng o.calm g1 g2 g3 g4 h3 (cE_ok F co a T X _ o h4).se) rfl
    · cases h
  | .mkE c a, T, X, e, o, h => by
    simp only [cE] at h
    split at h
    · simp only [Bool.and_eq_true, decide_eq_true_eq, Bool.not_eq_true'] at h
      obtain ⟨⟨⟨⟨⟨h1, h2⟩, h3⟩, h4⟩, h5⟩, h6⟩ := h
      exact .plain (se_mkE o.inn F.exf h2 (o.room.mono (by have := co.pos; omega)) (o.gl h3) (F.gcl _ _ h1) (dbg_ok h4) h5 (cE_ok F co a T X _ o h6).se) rfl
    · cases h
  | .isE a k, T, X, e, o, h => by
    simp only [cE] at h
    split at h
    · simp only [Bool.and_eq_true, decide_eq_true_eq, Bool.not_eq_true'] at h
      obtain ⟨⟨⟨⟨rfl, h1⟩, h2⟩, h3⟩, h4⟩ := h
      obtain ⟨g1, g2⟩ := o.blt F h1
      exact .plain (se_isE o.inn F.exf F.isf F.erf g1 (by rw [← o.inn.mg]; exact g2) h2 (cE_ok F co a T X _ o h4).se (ic_pe o F h3 (fun _ z => z) rfl)) rfl
    · cases h
  | .xat a f, T, X, e, o, h => by
    simp only [cE] at h
    split at h
    · simp only [Bool.and_eq_true, decide_eq_true_eq, Bool.not_eq_true'] at h
      obtain ⟨⟨h1, h2⟩, h3⟩ := h
      exact .plain (se_xat o.inn F.exf (cE_ok F co a T X _ o h3).se (by rw [← F.an]; exact h1) (base_of h2)) rfl
    · cases h
theorem cEs_ok (F : Facts U M G P fa L) (co : CallsOk U M G P fa cal k) : ∀ (c : CEs) (T : Tab) (X : Cx) (e : List Expr), XOk U T k X → cEs L G T c e = true → SA X M G e (evs G cal c)
  | .nil, T, X, e, o, h => by
    cases e with
    | nil => exact sa_nil
    | cons => simp [cEs] at h
  | .cons c cs, T, X, e, o, h => by
    cases e with
    | nil => simp [cEs] at h
    | cons x xs =>
      simp only [cEs, Bool.and_eq_true, Bool.not_eq_true'] at h
      exact SA.of' (sa_cons h.1.1 (cE_ok F co c T X _ o h.1.2).se (cEs_ok F co cs T X _ o h.2)) fun σ S => by (conv => lhs; unfold evs) <;> rfl
  | .star c cs, T, X, e, o, h => by
    cases e with
    | nil => simp [cEs] at h
    | cons x xs =>
      cases x with
      | Starred y p =>
        simp only [cEs, Bool.and_eq_true] at h
        exact SA.of' (sa_star (cE_ok F co c T X _ o h.1).se (cEs_ok F co cs T X _ o h.2)) fun σ S => by (conv => lhs; unfold evs) <;> rfl
      | _ => simp [cEs] at h
theorem cIt_ok (F : Facts U M G P fa L) (co : CallsOk U M G P fa cal k) : ∀ (c : CIt) (T : Tab) (X : Cx) (tg e : Expr), XOk U T k X → tgZ c tg = true → cIt L G T c e = true → SI X M G tg e (evIt G cal c)
  | .e a, T, X, tg, e, o, _, h => by
    simp only [cIt] at h
    exact si_e (cE_ok F co a T X _ o h).se
  | .rng1 a, T, X, tg, e, o, _, h => by
    simp only [cIt] at h
    split at h
    · simp only [Bool.and_eq_true, decide_eq_true_eq, Bool.not_eq_true'] at h
      obtain ⟨⟨⟨rfl, h1⟩, h2⟩, h3⟩ := h
      obtain ⟨g1, g2⟩ := o.blt F h1
      exact si_rng1 g1 g2 h2 (cE_ok F co a T X _ o h3).se
    · cases h
  | .rng2 a b, T, X, tg, e, o, _, h => by
    simp only [cIt] at h
    split at h
    · simp only [Bool.and_eq_true, decide_eq_true_eq, Bool.not_eq_true'] at h
      obtain ⟨⟨⟨⟨⟨rfl, h1⟩, h2⟩, h3⟩, h4⟩, h5⟩ := h
      obtain ⟨g1, g2⟩ := o.blt F h1
      exact si_rng2 g1 g2 h2 h3 (cE_ok F co a T X _ o h4).se (cE_ok F co b T X _ o h5).se
    · cases h
  | .rng3 a b d, T, X, tg, e, o, _, h => by
    simp only [cIt] at h
    split at h
    · simp only [Bool.and_eq_true, decide_eq_true_eq, Bool.not_eq_true'] at h
      obtain ⟨⟨⟨⟨⟨⟨⟨rfl, h1⟩, h2⟩, h3⟩, h4⟩, h5⟩, h6⟩, h7⟩ := h
      obtain ⟨g1, g2⟩ := o.blt F h1
      exact si_rng3 g1 g2 h2 h3 h4 (cE_ok F co a T X _ o h5).se (cE_ok F co b T X _ o h6).se (cE_ok F co d T X _ o h7).se
    · cases h
  | .zip a b, T, X, tg, e, o, hz, h => by
    simp only [cIt] at h
    split at h
    · simp only [Bool.and_eq_true, decide_eq_true_eq, Bool.not_eq_true'] at h
      obtain ⟨⟨⟨⟨⟨rfl, h1⟩, h2⟩, h3⟩, h4⟩, h5⟩ := h
      obtain ⟨g1, g2⟩ := o.blt F h1
      cases tg with
      | Tuple elts kk tpos => exact si_zip g1 g2 h2 h3 (cE_ok F co a T X _ o h4).se (cE_ok F co b T X _ o h5).se
      | _ => cases hz
    · cases h
  | .enum a, T, X, tg, e, o, hz, h => by
    simp only [cIt] at h
    split at h
    · simp only [Bool.and_eq_true, decide_eq_true_eq, Bool.not_eq_true'] at h
      obtain ⟨⟨⟨rfl, h1⟩, h2⟩, h3⟩ := h
      obtain ⟨g1, g2⟩ := o.blt F h1
      cases tg with
      | Tuple elts kk tpos => exact si_enum g1 g2 h2 (cE_ok F co a T X _ o h3).se
      | _ => cases hz
    · cases h
end
end
end DI
end

section
set_option Elab.async false
set_option linter.all false
set_option maxRecDepth 100000
/-! DIStk: the same of statements. -/
namespace DI
open PySem PySem.Spec L2
open PyProof.Rows hiding St
/-- name = [..]: whether the new list is stored by the block itself -/
def swapB (T : Tab) (x : Str) (p cp : Pos) (scope : Scope) : Bool := loclB T x && p.line == cp.line && !(scope.names.any fun (n, k) => n == x && (k == .local || k == .cell))
def noSwapB (T : Tab) (x : Str) (p cp : Pos) (scope : Scope) : Bool := !(loclB T x && p.line == cp.line && !(scope.names.any fun (n, k) => n == x && (k == .local || k == .cell)))
/-- a, b = x, y by swapped stores -/
def parB (T : Tab) (x y : Str) (p1 p2 : Pos) (u v : Expr) : Bool := loclB T x && loclB T y && p2.line == p1.line && decide (x ≠ y) && !(foldedForSure 8 u && foldedForSure 8 v) && !(constantsAlone 8 u && constantsAlone 8 v)
/-- three so -/
def par3B (T : Tab) (x y z : Str) (p1 p2 p3 : Pos) (u v w : Expr) : Bool := loclB T x && loclB T y && loclB T z && p2.line == p1.line && p3.line == p1.line && decide (x ≠ y) && decide (x ≠ z) && decide (y ≠ z) && !(foldedForSure 8 u && (foldedForSure 8 v && foldedForSure 8 w)) && !(constantsAlone 8 u && (constantsAlone 8 v && constantsAlone 8 w))
/-- .. by plain ones -/
def par0B (T : Tab) (x y : Str) (p1 p2 : Pos) (u v : Expr) : Bool := !(loclB T x && loclB T y && p2.line == p1.line && decide (x ≠ y)) || (foldedForSure 8 u && foldedForSure 8 v)
def setB (T : Tab) (x : Str) (p : Pos) (v : Expr) : Bool := match v with
  | .ListComp _ _ scope cp => true
  | _ => !isComp v
def hdB (L : Glb) (G : Gx) (T : Tab) (nm : Str) (h : Hd) (eh : ExceptHandler) : Bool := match eh with
  | .ExceptHandler (some (.Name x _)) (some n) [.Return (some r) _] _ => decide (n = nm) && decide (L.cn h.cls = some x) && glB T x && dbgB x && G.hcl.contains h.cls && (match h.tag, r with
    | some t, .Tuple [.Constant (.str s) _ _, .Attribute (.Name m _) f _] _ _ => decide (s = t) && decide (m = nm) && decide (f = L.an h.attr)
    | none, .Attribute (.Name m _) f _ => decide (m = nm) && decide (f = L.an h.attr)
    | _, _ => false)
  | _ => false
def hdsB (L : Glb) (G : Gx) (T : Tab) (nm : Str) : List Hd → List ExceptHandler → Bool
  | [], [] => true
  | h :: hs, e :: es => hdB L G T nm h e && hdsB L G T nm hs es
  | _, _ => false
def hdName : List ExceptHandler → Str
  | .ExceptHandler _ (some n) _ _ :: _ => n
  | _ => ""
mutual
def cS (L : Glb) (G : Gx) (T : Tab) : CS → Stmt → Bool
  | .set i c, st => match st with
    | .Assign [.Name x p] v _ => slB T i x && setB T x p v && cE L G T c v
    | _ => false
  | .setT ts c, st => match st with
    | .Assign [.Tuple es _ _] v _ => tgsB T ts es && !isComp v && !isTuple v && cE L G T c v
    | _ => false
  | .par i j a b, st => match st with
    | .Assign [.Tuple [.Name x p1, .Name y p2] _ _] (.Tuple [u, v] _ _) _ => decide (T.N[i]? = some x) && decide (T.N[j]? = some y) && slB T i x && slB T j y && decide (i ≠ j) && !starB u && !starB v && (parB T x y p1 p2 u v || par0B T x y p1 p2 u v) && cE L G T a u && cE L G T b v
    | _ => false
  | .par3 i j l a b c, st => match st with
    | .Assign [.Tuple [.Name x p1, .Name y p2, .Name z p4] _ _] (.Tuple [u, v, w] _ _) _ => decide (T.N[i]? = some x) && decide (T.N[j]? = some y) && decide (T.N[l]? = some z) && decide (i ≠ j) && decide (i ≠ l) && decide (j ≠ l) && !starB u && !starB v && !starB w && par3B T x y z p1 p2 p4 u v w && cE L G T a u && cE L G T b v && cE L G T c w
    | _ => false
  | .setI a b c, st => match st with
    | .Assign [.Subscript x y _] v _ => !isComp v && !isSliceE y && cE L G T c v && cE L G T a x && cE L G T b y
    | _ => false
  | .setA a f c, st => match st with
    | .Assign [.Attribute x n _] v _ => decide (L.an f = n) && !isComp v && cE L G T c v && cE L G T a x
    | _ => false
  | .aug i c, st => match st with
    | .AugAssign (.Name x _) .Add v _ => slB T i x && cE L G T c v
    | _ => false
  | .ex c, st => match st with
    | .Expr v _ => !isComp v && cE L G T c v
    | _ => false
  | .ifS t a b, st => match st with
    | .If x as bs _ => tB t && cE L G T t x && cSs L G T a as && cSs L G T b bs
    | _ => false
  | .forS tg it b, st => match st with
    | .For tgx iter body [] _ => tgB T tg tgx && !isSetE iter && tgZ it tgx && cIt L G T it iter && cSs L G T b body
    | _ => false
  | .whileS t b, st => match st with
    | .While x body [] _ => tB t && cE L G T t x && cSs L G T b body
    | _ => false
  | .ret c, st => match st with
    | .Return (some v) _ => cE L G T c v
    | _ => false
  | .retN, st => match st with
    | .Return none _ => true
    | _ => false
  | .brk, st => match st with
    | .Break _ => true
    | _ => false
  | .cont, st => match st with
    | .Continue _ => true
    | _ => false
  | .pass_, st => match st with
    | .Pass _ => true
    | _ => false
  | .bad_, _ => true
  | .raise c a, st => match st with
    | .Raise (some (.Call (.Name x _) [v] [] _)) none _ => decide (L.cn c = some x) && G.exc.contains c && glB T x && dbgB x && !starB v && cE L G T a v
    | _ => false
  | .tryS b hs, st => match st with
    | .Try body (e :: es) [] [] _ => hdsB L G T (hdName (e :: es)) hs (e :: es) && (T.N.contains (hdName (e :: es)) && loclB T (hdName (e :: es)) && dbgB (hdName (e :: es)) && cldB (hdName (e :: es))) && cSs L G T b body
    | _ => false
  | .tryI b h k f, st => match st with
    | .Try body [.ExceptHandler (some (.Name x _)) (some nm) [.Return (some (.BoolOp .And [.Call (.Name fn _) [.Name m1 _, .Name y _] [] _, .Compare (.Attribute (.Name m2 _) at_ _) [.Eq] [.Tuple [] _ _] _] _)) _] _] [] [] _ =>
      (decide (fn = "isinstance") && bltB L T fn && decide (m1 = nm) && decide (m2 = nm) && decide (L.an f = at_) && decide (L.cn h = some x) && glB T x && dbgB x && G.hcl.contains h && icB L T k y && (T.N.contains nm && loclB T nm && dbgB nm && cldB nm)) && cSs L G T b body
    | _ => false
def cSs (L : Glb) (G : Gx) (T : Tab) : CSs → List Stmt → Bool
  | .nil, [] => true
  | .cons c cs, s :: ss => cS L G T c s && cSs L G T cs ss
  | _, _ => false
end
/-- the context of statements -/
structure SOk (U : Uv) (T : Tab) (k : Nat) (X : Cx) : Prop extends XOk U T k X where
  pw : PassesOwn (model X.prog X.w) X.A X.env X.xe
  stk : X.stack = X.env :: X.outer
  frm : X.env.frame = some X.env.locals
  two : 1 ≤ k
section
variable {U : Uv} {M : Nm} {G : Gx} {P : Nat → Option CDef} {fa : Nat → Addr} {L : Glb} {k : Nat} {cal : Nat → List D → Store → Res D} {X : Cx} {T : Tab}
theorem locl_ok {x : Str} (h : loclB T x = true) : T.sc.names.lookup x = some .local := by
  unfold loclB at h
  split at h
  · assumption
  · cases h
theorem locl_eq {x : Str} : (T.sc.names.lookup x == some .local) = loclB T x := by
  unfold loclB
  split
  · rename_i q; rw [q]; rfl
  · rename_i q
    cases q2 : T.sc.names.lookup x with
    | none => rfl
    | some k => cases k <;> first | rfl | exact absurd q2 q
theorem XOk.block (o : XOk U T k X) : X.env.blockKind = .function := by
  unfold Env.blockKind
  rw [o.sc, o.kind]
  rfl
theorem swap_is (o : XOk U T k X) {elt : Expr} {gs : List Comprehension} {scope : Scope} {cp p : Pos} {x : Str} {l : Nat} : swapsWith (.ListComp elt gs scope cp) (some (.Name x p)) l X.env = pure (swapB T x p cp scope) := by
  have e : (X.env.kindOf x == some .local) = loclB T x := by
    show (X.env.scope.names.lookup x == some .local) = _
    rw [o.sc, locl_eq]
  unfold swapsWith swapB
  simp only [o.block, e, Expr.pos]
  rfl
theorem tgs_ok (o : XOk U T k X) : ∀ {ts : List Tg} {es : List Expr}, tgsB T ts es = true → TgsOk X ts es
  | [], [], _ => .nil
  | t :: ts, e :: es, h => by
    simp only [tgsB, Bool.and_eq_true] at h
    exact .cons (o.tg h.1) (tgs_ok o h.2)
  | [], _ :: _, h => by cases h
  | _ :: _, [], h => by cases h
theorem lc_ok (F : Facts U M G P fa L) (co : CallsOk U M G P fa cal k) (o : XOk U T k X) {tg : Tg} {it : CIt} {hasIf : Bool} {c b : CE} {elt : Expr} {gs : List Comprehension} {scope : Scope} {p : Pos} (h : cE L G T (.lc tg it hasIf c b) (.ListComp elt gs scope p) = true) :
    ∃ tgx iter ifs, gs = [⟨tgx, iter, ifs, 0⟩] ∧ LcOk X M G cal it c b tg hasIf tgx iter elt ifs scope (tgOwn tg tgx) := by
  simp only [cE] at h
  split at h
  · rename_i elt tgx iter ifs asy scope p q
    cases q
    simp only [Bool.and_eq_true, decide_eq_true_eq, Bool.not_eq_true'] at h
    obtain ⟨⟨⟨⟨⟨⟨⟨rfl, h0⟩, h1⟩, h2⟩, h3⟩, h4⟩, h5⟩, h6⟩ := h
    have bk := blkOk_by h1
    have bo := o.blk bk.kind
    have own := tg_own h4
    refine ⟨tgx, iter, ifs, rfl, o.calm, by rw [o.N]; exact o.nd, cIt_ok F co it T X tgx iter o h0 h3, by rw [o.N, o.sc]; exact bk, fun s H C cl fp => (bo s H C cl fp).tg h4, ?_, fun s H C cl fp => (cE_ok F co b _ _ _ (bo s H C cl fp) h5).se, ?_, ?_, no_set h2⟩
    · intro s H C cl fp
      cases hasIf with
      | false =>
        cases ifs with
        | nil => exact pts_nil
        | cons y ys => cases ys <;> simp at h6
      | true =>
        cases ifs with
        | nil => simp at h6
        | cons y ys =>
          cases ys with
          | nil =>
            simp only [Bool.true_and, Bool.and_eq_true] at h6
            exact pts_one (tt_blk ((cE_ok F co c _ _ _ (bo s H C cl fp) h6.2).st h6.1))
          | cons => simp at h6
    · intro i hi
      rw [own] at hi; exact hi
    · intro i hi
      rw [own]; exact hi
  · cases h
/-- a = e -/
theorem set_ok (F : Facts U M G P fa L) (co : CallsOk U M G P fa cal k) (o : XOk U T k X) {i : Nat} {x : Str} {p pos : Pos} {v : Expr} {c : CE} (h1 : slB T i x = true) (h2 : setB T x p v = true) (h3 : cE L G T c v = true) : SS X M G (.Assign [.Name x p] v pos) (exec G cal (.set i c)) := by
  unfold setB at h2
  split at h2
  · rename_i elt gs scope cp
    cases c with
    | lc tg it hasIf c b =>
      obtain ⟨tgx, iter, ifs, rfl, l⟩ := lc_ok F co o h3
      cases q : swapB T x p cp scope with
      | true =>
        have hl : loclB T x = true := by
          unfold swapB at q
          simp only [Bool.and_eq_true] at q
          exact q.1.1
        exact ss_setLc l (o.sl h1) (by rw [o.sc]; exact locl_ok hl) (by rw [swap_is o, q])
      | false => exact ss_setLc0 l (o.sl h1) (by rw [swap_is o, q])
    | slc q _ _ _ => cases q <;> simp [cE] at h3
    | bm q _ es => cases q <;> first | (simp [cE] at h3; done) | (cases es <;> first | (simp [cE] at h3; done) | (rename_i r; cases r <;> simp [cE] at h3))
    | cn d => cases d <;> simp [cE] at h3
    | isi _ ts => cases ts <;> simp [cE] at h3
    | _ => simp [cE] at h3
  · exact ss_set (by rw [o.N]; exact o.nd) (o.sl h1) (by simpa using h2) (cE_ok F co c T X _ o h3).se
theorem star_any {u v : Expr} (h1 : starB u = false) (h2 : starB v = false) : ([u, v].any fun | .Starred .. => true | _ => false) = false := by
  have e : ∀ w : Expr, starB w = false → (match w with | .Starred .. => true | _ => false) = false := fun w h => by cases w <;> first | rfl | cases h
  simp only [List.any_cons, List.any_nil, Bool.or_false]
  rw [e u h1, e v h2]; rfl
theorem loc_is (o : XOk U T k X) {x : Str} : (X.env.kindOf x == some .local) = loclB T x := by
  show (X.env.scope.names.lookup x == some .local) = _
  rw [o.sc, locl_eq]
theorem two_dups {x y : Str} (h : x ≠ y) : [x, y].eraseDups.length = 2 := by
  have h1 : (y == x) = false := by simpa using fun e => h e.symm
  simp [List.eraseDups_cons, h1]
theorem one_dups {x : Str} : [x, x].eraseDups.length = 1 := by
  simp [List.eraseDups_cons]
theorem swapped_yes (o : XOk U T k X) {x y : Str} {p1 p2 p p3 : Pos} {u v : Expr} {n m : Nat} (s1 : starB u = false) (s2 : starB v = false) (h : parB T x y p1 p2 u v = true) :
    swappedStores [.Tuple [.Name x p1, .Name y p2] n p] (.Tuple [u, v] m p3) X.env = pure (some [x, y]) := by
  unfold parB at h
  simp only [Bool.and_eq_true, decide_eq_true_eq, Bool.not_eq_true'] at h
  obtain ⟨⟨⟨⟨⟨h1, h2⟩, h3⟩, h4⟩, h5⟩, h6⟩ := h
  have e1 := loc_is o (x := x)
  have e2 := loc_is o (x := y)
  rw [h1] at e1
  rw [h2] at e2
  have hb := o.block
  have hs := star_any s1 s2
  have hd := two_dups h4
  unfold swappedStores
  simp only [hb, List.length_cons, List.length_nil, List.filterMap_cons, List.filterMap_nil, e1, e2, List.head?_cons, Option.map_some, Option.getD_some, Expr.pos, beq_self_eq_true, h3, Bool.and_self, if_true, hs, hd]
  simp [h5, h6]
  intro hh
  rcases hh with hh | hh
  · cases u <;> first | (cases hh; done) | (cases s1; done)
  · cases v <;> first | (cases hh; done) | (cases s2; done)
theorem three_dups {x y z : Str} (h : x ≠ y) (h2 : x ≠ z) (h3 : y ≠ z) : [x, y, z].eraseDups.length = 3 := by
  have e1 : (y == x) = false := by simpa using fun e => h e.symm
  have e2 : (z == x) = false := by simpa using fun e => h2 e.symm
  have e3 : (z == y) = false := by simpa using fun e => h3 e.symm
  simp [List.eraseDups_cons, e1, e2, e3]
theorem star_any3 {u v w : Expr} (h1 : starB u = false) (h2 : starB v = false) (h3 : starB w = false) : ([u, v, w].any fun | .Starred .. => true | _ => false) = false := by
  have e : ∀ w : Expr, starB w = false → (match w with | .Starred .. => true | _ => false) = false := fun w h => by cases w <;> first | rfl | cases h
  simp only [List.any_cons, List.any_nil, Bool.or_false]
  rw [e u h1, e v h2, e w h3]; rfl
theorem swapped_yes3 (o : XOk U T k X) {x y z : Str} {p1 p2 p4 p p3 : Pos} {u v w : Expr} {n m : Nat} (s1 : starB u = false) (s2 : starB v = false) (s3 : starB w = false) (h : par3B T x y z p1 p2 p4 u v w = true) :
    swappedStores [.Tuple [.Name x p1, .Name y p2, .Name z p4] n p] (.Tuple [u, v, w] m p3) X.env = pure (some [x, y, z]) := by
  unfold par3B at h
  simp only [Bool.and_eq_true, decide_eq_true_eq, Bool.not_eq_true'] at h
  obtain ⟨⟨⟨⟨⟨⟨⟨⟨⟨h1, h2⟩, h7⟩, h3⟩, h8⟩, h4⟩, h9⟩, h10⟩, h5⟩, h6⟩ := h
  have e1 := loc_is o (x := x)
  have e2 := loc_is o (x := y)
  have e3 := loc_is o (x := z)
  rw [h1] at e1
  rw [h2] at e2
  rw [h7] at e3
  have hb := o.block
  have hs := star_any3 s1 s2 s3
  have hd := three_dups h4 h9 h10
  unfold swappedStores
  simp only [hb, List.length_cons, List.length_nil, List.filterMap_cons, List.filterMap_nil, e1, e2, e3, List.head?_cons, Option.map_some, Option.getD_some, Expr.pos, beq_self_eq_true, h3, h8, Bool.and_self, if_true, hs, hd]
  simp [h5, h6]
  intro hh
  rcases hh with hh | hh | hh
  · cases u <;> first | (cases hh; done) | (cases s1; done)
  · cases v <;> first | (cases hh; done) | (cases s2; done)
  · cases w <;> first | (cases hh; done) | (cases s3; done)
theorem swapped_no (o : XOk U T k X) {x y : Str} {p1 p2 p p3 : Pos} {u v : Expr} {n m : Nat} (s1 : starB u = false) (s2 : starB v = false) (h : par0B T x y p1 p2 u v = true) :
    swappedStores [.Tuple [.Name x p1, .Name y p2] n p] (.Tuple [u, v] m p3) X.env = pure none := by
  have e1 := loc_is o (x := x)
  have e2 := loc_is o (x := y)
  have hb := o.block
  have hs := star_any s1 s2
  unfold swappedStores
  unfold par0B at h
  simp only [hb, List.length_cons, List.length_nil, List.filterMap_cons, List.filterMap_nil, e1, e2, List.head?_cons, Option.map_some, Option.getD_some, Expr.pos, beq_self_eq_true, hs]
  cases q1 : loclB T x <;> cases q2 : loclB T y <;> cases q3 : (p2.line == p1.line) <;> simp [q1, q2, q3] at h ⊢
  by_cases q : x = y
  · subst q
    simp [one_dups]
  · have hd := two_dups q
    simp [q] at h
    simp [h, hd]
theorem ss_par0 {e e2 : Expr} {a b : CE} {i j : Nat} {x y : Str} {n m : Nat} {p p1 p2 p3 pos : Pos} (hcl : X.calm = true) (hN : X.N.Nodup) (hi : Sl X i x) (hj : Sl X j y)
    (s1 : starB e = false) (s2 : starB e2 = false) (ha : SE X M G e (ev G cal a)) (hb : SE X M G e2 (ev G cal b))
    (hw : swappedStores [.Tuple [.Name x p1, .Name y p2] n p] (.Tuple [e, e2] m p3) X.env = pure none) :
    SS X M G (.Assign [.Tuple [.Name x p1, .Name y p2] n p] (.Tuple [e, e2] m p3) pos) (exec G cal (.par i j a b)) :=
  PS.imp (ps_asg (pe_tup (pa_cons ha (pa_cons hb pa_nil (star_no s2)) (star_no s1))) (pg_tup (n := 2) hcl (pgs_cons (pg_name hN hi.at_ hi.loc hi.fn) (pgs_cons (pg_name hN hj.at_ hj.loc hj.fn) pgs_nil))) (by rfl) hw (by rfl)) fun D σ H h => by
    obtain ⟨E, S, ρ, σd, xt, gd, er, h⟩ := h
    unfold exec at h
    refine oneS xt gd er h fun d x S2 ρ2 H2 n2 g2 hx h2 => ?_
    refine oneS xt g2 (er.nx n2 gd) h2 fun d3 x3 S3 ρ3 H3 n3 g3 hx3 h3 => ?_
    refine ⟨by show 2 ≤ sizeLine; decide, fun q hq => ⟨q, _, rfl, .inl (.inl upd_same), rfl, _, _, rfl, _, _, rfl, rfl, ?_⟩⟩
    have n4 : Nx S3 ρ3 H3 S3 ρ3 (upd H3 q (.tup [x, x3])) := Nx.alloc g3 hq
    exact h3 _ _ _ n4 (g3.alloc hq) (((((er.nx n2 gd).nx n3 g2).nx n4 g3).set i ((hx.nx n3 g2).nx n4 g3)).set j (hx3.nx n4 g3))
theorem hds_ok (F : Facts U M G P fa L) (o : XOk U T k X) {nm : Str} : ∀ {hs : List Hd} {es : List ExceptHandler}, hdsB L G T nm hs es = true → HdsOk2 X M nm hs es ∧ ∀ h ∈ hs, G.hcl.contains h.cls = true
  | [], [], _ => ⟨.nil, fun h hh => by cases hh⟩
  | h :: hs, e :: es, hb => by
    simp only [hdsB, Bool.and_eq_true] at hb
    obtain ⟨h1, h2⟩ := hb
    obtain ⟨r1, r2⟩ := hds_ok F o h2
    unfold hdB at h1
    split at h1
    · rename_i x np n r p5 p6
      simp only [Bool.and_eq_true, decide_eq_true_eq] at h1
      obtain ⟨⟨⟨⟨⟨rfl, h3⟩, h4⟩, h5⟩, h6⟩, h7⟩ := h1
      have nms : Names X x (.ref (M.ca h.cls)) := ⟨o.gl h4, dbg_ok h5, .inl (by rw [o.inn.mg]; exact F.gcl _ _ h3)⟩
      refine ⟨.cons ?_ r1, fun h' hh => by
        rcases List.mem_cons.mp hh with q | q
        · rw [q]; exact h6
        · exact r2 h' q⟩
      obtain ⟨cls, slot, tag, at_⟩ := h
      split at h7
      · rename_i t s _ _ m _ f _ _ _ q
        simp only [Bool.and_eq_true, decide_eq_true_eq] at h7
        obtain ⟨⟨h8, h9⟩, h10⟩ := h7
        dsimp only at q
        subst q h8 h9
        rw [h10, F.an]
        exact .tag nms
      · rename_i m _ f _ q
        simp only [Bool.and_eq_true, decide_eq_true_eq] at h7
        dsimp only at q
        obtain ⟨h9, h10⟩ := h7
        subst q h9
        rw [h10, F.an]
        exact .one nms
      · cases h7
    · cases h1
  | [], _ :: _, h => by cases h
  | _ :: _, [], h => by cases h
theorem SOk.tr_ (o : SOk U T k X) (pn : List (Addr × Obj)) (xe : Value → Shared → Prop) (pw : PassesOwn (model X.prog X.w) X.A X.env xe) : SOk U T k (X.tr pn xe) :=
  ⟨⟨⟨o.inn.prog, o.inn.w, o.inn.K, o.inn.mg, o.inn.base⟩, o.N, o.sc, o.fn, o.calm, o.room, o.nd, o.kind⟩, pw, o.stk, o.frm, o.two⟩
mutual
theorem cS_ok (F : Facts U M G P fa L) (co : CallsOk U M G P fa cal k) : ∀ (c : CS) (X : Cx) (s : Stmt), SOk U T k X → cS L G T c s = true → SS X M G s (exec G cal c)
  | .set i c, X, s, o, h => by
    simp only [cS] at h
    split at h
    · simp only [Bool.and_eq_true] at h
      exact set_ok F co o.toXOk h.1.1 h.1.2 h.2
    · cases h
  | .setT ts c, X, s, o, h => by
    simp only [cS] at h
    split at h
    · simp only [Bool.and_eq_true, Bool.not_eq_true'] at h
      obtain ⟨⟨⟨h1, h2⟩, h3⟩, h4⟩ := h
      exact ss_setT o.calm (by rw [o.N]; exact o.nd) (tgs_ok o.toXOk h1) h2 (no_swapped h3) (cE_ok F co c T X _ o.toXOk h4).se
    · cases h
  | .par i j a b, X, s, o, h => by
    simp only [cS] at h
    split at h
    · simp only [Bool.and_eq_true, decide_eq_true_eq, Bool.not_eq_true'] at h
      obtain ⟨⟨⟨⟨⟨⟨⟨⟨⟨h1, h2⟩, h3⟩, h4⟩, h5⟩, h6⟩, h7⟩, h8⟩, h9⟩, h10⟩ := h
      have r1 := (cE_ok F co a T X _ o.toXOk h9).se
      have r2 := (cE_ok F co b T X _ o.toXOk h10).se
      rcases Bool.or_eq_true_iff.mp h8 with h8 | h8
      · have hl := h8
        unfold parB at hl
        simp only [Bool.and_eq_true] at hl
        exact ss_par (p4 := ⟨0, 0, 0, 0⟩) o.calm (by rw [o.N]; exact o.nd) (by rw [o.N]; exact h1) (by rw [o.N]; exact h2) h5 (by rw [o.sc]; exact locl_ok hl.1.1.1.1.1) (by rw [o.sc]; exact locl_ok hl.1.1.1.1.2) h6 h7 r1 r2 (swapped_yes o.toXOk h6 h7 h8)
      · exact ss_par0 o.calm (by rw [o.N]; exact o.nd) (o.toXOk.sl h3) (o.toXOk.sl h4) h6 h7 r1 r2 (swapped_no o.toXOk h6 h7 h8)
    · cases h
  | .par3 i j l a b c, X, s, o, h => by
    simp only [cS] at h
    split at h
    · simp only [Bool.and_eq_true, decide_eq_true_eq, Bool.not_eq_true'] at h
      obtain ⟨⟨⟨⟨⟨⟨⟨⟨⟨⟨⟨⟨h1, h2⟩, h3⟩, h4⟩, h5⟩, h6⟩, h7⟩, h8⟩, h9⟩, h10⟩, h11⟩, h12⟩, h13⟩ := h
      have r1 := (cE_ok F co a T X _ o.toXOk h11).se
      have r2 := (cE_ok F co b T X _ o.toXOk h12).se
      have r3 := (cE_ok F co c T X _ o.toXOk h13).se
      have hl := h10
      unfold par3B at hl
      simp only [Bool.and_eq_true] at hl
      exact ss_par3 o.calm (by rw [o.N]; exact o.nd) (by rw [o.N]; exact h1) (by rw [o.N]; exact h2) (by rw [o.N]; exact h3) h4 h5 h6 (by rw [o.sc]; exact locl_ok hl.1.1.1.1.1.1.1.1.1) (by rw [o.sc]; exact locl_ok hl.1.1.1.1.1.1.1.1.2) (by rw [o.sc]; exact locl_ok hl.1.1.1.1.1.1.1.2)
        h7 h8 h9 r1 r2 r3 (swapped_yes3 o.toXOk h7 h8 h9 h10)
    · cases h
  | .setI a b c, X, s, o, h => by
    simp only [cS] at h
    split at h
    · simp only [Bool.and_eq_true, Bool.not_eq_true'] at h
      obtain ⟨⟨⟨⟨h1, h2⟩, h3⟩, h4⟩, h5⟩ := h
      exact ss_setI h1 (not_slice h2) (cE_ok F co c T X _ o.toXOk h3).se (cE_ok F co a T X _ o.toXOk h4).se (cE_ok F co b T X _ o.toXOk h5).se
    · cases h
  | .setA a f c, X, s, o, h => by
    simp only [cS] at h
    split at h
    · simp only [Bool.and_eq_true, Bool.not_eq_true', decide_eq_true_eq] at h
      obtain ⟨⟨⟨h1, h2⟩, h3⟩, h4⟩ := h
      exact ss_setA o.inn F.cf (by rw [← F.an]; exact h1) h2 (cE_ok F co c T X _ o.toXOk h3).se (cE_ok F co a T X _ o.toXOk h4).se
    · cases h
  | .aug i c, X, s, o, h => by
    simp only [cS] at h
    split at h
    · simp only [Bool.and_eq_true] at h
      exact ss_aug (by rw [o.N]; exact o.nd) (o.toXOk.sl h.1) (cE_ok F co c T X _ o.toXOk h.2).se
    · cases h
  | .ex c, X, s, o, h => by
    simp only [cS] at h
    split at h
    · simp only [Bool.and_eq_true, Bool.not_eq_true'] at h
      exact ss_ex h.1 (cE_ok F co c T X _ o.toXOk h.2).se
    · cases h
  | .ifS t a b, X, s, o, h => by
    simp only [cS] at h
    split at h
    · simp only [Bool.and_eq_true] at h
      obtain ⟨⟨⟨h1, h2⟩, h3⟩, h4⟩ := h
      exact ss_if ((cE_ok F co t T X _ o.toXOk h2).st h1) (cSs_ok F co a X _ o h3) (cSs_ok F co b X _ o h4)
    · cases h
  | .forS tg it b, X, s, o, h => by
    simp only [cS] at h
    split at h
    · simp only [Bool.and_eq_true, Bool.not_eq_true'] at h
      obtain ⟨⟨⟨⟨h1, h2⟩, h0⟩, h3⟩, h4⟩ := h
      exact ss_for o.pw o.calm (by rw [o.N]; exact o.nd) (o.toXOk.tg h1) (cIt_ok F co it T X _ _ o.toXOk h0 h3) (cSs_ok F co b X _ o h4) (no_set h2)
    · cases h
  | .whileS t b, X, s, o, h => by
    simp only [cS] at h
    split at h
    · simp only [Bool.and_eq_true] at h
      obtain ⟨⟨h1, h2⟩, h3⟩ := h
      exact ss_while o.pw ((cE_ok F co t T X _ o.toXOk h2).st h1) (cSs_ok F co b X _ o h3)
    · cases h
  | .ret c, X, s, o, h => by
    simp only [cS] at h
    split at h
    · exact ss_ret (cE_ok F co c T X _ o.toXOk h).se
    · cases h
  | .retN, X, s, o, h => by
    simp only [cS] at h
    split at h
    · exact ss_retN
    · cases h
  | .brk, X, s, o, h => by
    simp only [cS] at h
    split at h
    · exact ss_brk
    · cases h
  | .cont, X, s, o, h => by
    simp only [cS] at h
    split at h
    · exact ss_cont
    · cases h
  | .pass_, X, s, o, h => by
    simp only [cS] at h
    split at h
    · exact ss_pass
    · cases h
  | .bad_, X, s, o, h => ss_bad
  | .raise c a, X, s, o, h => by
    simp only [cS] at h
    split at h
    · simp only [Bool.and_eq_true, Bool.not_eq_true', decide_eq_true_eq] at h
      obtain ⟨⟨⟨⟨⟨h1, h2⟩, h3⟩, h4⟩, h5⟩, h6⟩ := h
      have := o.two
      exact ss_raise o.inn F.exf o.calm h2 (o.room.mono (by omega)) (o.toXOk.gl h3) (F.gcl _ _ h1) (dbg_ok h4) h5 (cE_ok F co a T X _ o.toXOk h6).se
    · cases h
  | .tryS b hs, X, s, o, h => by
    simp only [cS] at h
    split at h
    · simp only [Bool.and_eq_true] at h
      obtain ⟨⟨h1, ⟨⟨⟨h2, h3⟩, h4⟩, h5⟩⟩, h6⟩ := h
      obtain ⟨r1, r2⟩ := hds_ok F o.toXOk h1
      obtain ⟨i, hi, e⟩ := List.mem_iff_getElem.mp (List.contains_iff_mem.mp h2)
      exact ss_try (i := i) o.inn F.exf o.stk o.frm (by rw [o.N]; exact o.nd) (by rw [o.N, List.getElem?_eq_getElem hi, e]) (by show X.env.scope.names.lookup _ = _; rw [o.sc]; exact locl_ok h3) (dbg_ok h4) (cld_ok h5) r2 r1 fun pn xe pw => cSs_ok F co b _ _ (o.tr_ pn xe pw) h6
    · cases h
  | .tryI b h k f, X, s, o, hh => by
    simp only [cS] at hh
    split at hh
    · simp only [Bool.and_eq_true, decide_eq_true_eq] at hh
      obtain ⟨⟨⟨⟨⟨⟨⟨⟨⟨⟨⟨rfl, h1⟩, rfl⟩, rfl⟩, h2⟩, h3⟩, h4⟩, h5⟩, h6⟩, h7⟩, ⟨⟨⟨h8, h9⟩, h10⟩, h11⟩⟩, h12⟩ := hh
      obtain ⟨g1, g2⟩ := o.toXOk.blt F h1
      rw [F.an] at h2
      subst h2
      obtain ⟨i, hi, e⟩ := List.mem_iff_getElem.mp (List.contains_iff_mem.mp h8)
      exact ss_tryI (i := i) o.inn F.exf F.isf F.erf o.stk o.frm (by rw [o.N]; exact o.nd) (by rw [o.N, List.getElem?_eq_getElem hi, e]) (by show X.env.scope.names.lookup _ = _; rw [o.sc]; exact locl_ok h9) (dbg_ok h10) (cld_ok h11) h6
        ⟨o.toXOk.gl h4, dbg_ok h5, .inl (by rw [o.inn.mg]; exact F.gcl _ _ h3)⟩ o.toXOk.hu g1 (by rw [← o.inn.mg]; exact g2) (fun a ob pn => ic_pe o.toXOk F h7 (fun _ z => z) rfl) fun pn xe pw => cSs_ok F co b _ _ (o.tr_ pn xe pw) h12
    · cases hh
theorem cSs_ok (F : Facts U M G P fa L) (co : CallsOk U M G P fa cal k) : ∀ (c : CSs) (X : Cx) (s : List Stmt), SOk U T k X → cSs L G T c s = true → SSs X M G s (execs G cal c)
  | .nil, X, s, o, h => by
    cases s with
    | nil => exact sss_nil
    | cons => simp [cSs] at h
  | .cons c cs, X, s, o, h => by
    cases s with
    | nil => simp [cSs] at h
    | cons x xs =>
      simp only [cSs, Bool.and_eq_true] at h
      exact sss_cons (cS_ok F co c X x o h.1) (cSs_ok F co cs X xs o h.2)
end
end
end DI
end

section
set_option Elab.async false
set_option linter.all false
set_option maxRecDepth 100000
/-! DIFun: defs. -/
namespace DI
open PySem PySem.Spec L2
open PyProof.Rows hiding St
/-- a def that the checker has looked at -/
def DefR (U : Uv) (G : Gx) (L : Glb) (fa : Nat → Addr) (f : Nat) (cd : CDef) : Prop :=
  ∃ (fd : FuncData) (name qual : Str) (as : List Arg) (body : List Stmt) (scope : Scope) (N : List Str), FunD U.K name qual ⟨[], as, none, [], [], none, []⟩ body scope [] [] (fa f) fd ∧ FnScope N (as.map (·.arg)) scope ∧ (as.map (·.arg)).Nodup ∧
    cSs L G ⟨N, scope, none⟩ cd.body body = true ∧ cd.np = as.length ∧ cd.ns = N.length
theorem fin_post {M : Nm} {G : Gx} {E : XK} {S : Store} {ρ : List Addr} {H : Hp} {r : SRes} {Q : VK} (h : PostG M G E S ρ H r.fin fun d S' ρ' H' => ∀ v, VR M S' ρ' H' v d → Q v H') :
    PostS M G E S ρ H r { nx := fun _ H' => Q .non H', rt := Q } := by
  cases r with
  | nx σ S' => exact fun ρ' H' σ' n g _ => h ρ' H' n g .non .non
  | rt d S' => exact fun ρ' H' v n g rv => h ρ' H' n g v rv
  | ex c d S' => exact h
  | bk σ S' => exact h.elim
  | ct σ S' => exact h.elim
  | bad => exact h.elim
theorem er_start {M : Nm} {S : Store} {ρ : List Addr} {H : Hp} {N : List Str} {vs : List V} {ds : List D} {np : Nat} (r : VRs M S ρ H vs ds) (hn : ds.length = np) : ER M S ρ H (L2.start N vs) (ds.map some ++ List.replicate (N.length - np) none) := by
  have hl := r.length
  subst hn
  refine ⟨by unfold L2.start; simp [hl], fun i d h => ?_⟩
  by_cases hi : i < ds.length
  · rw [List.getElem?_append_left (by simpa using hi), List.getElem?_map] at h
    cases q : ds[i]? with
    | none => rw [q] at h; cases h
    | some d' =>
      rw [q] at h
      cases h
      obtain ⟨v, e1, rv⟩ := r.get q
      refine ⟨v, ?_, rv⟩
      unfold L2.start
      rw [List.getElem?_append_left (by rw [List.length_map, hl]; exact hi), List.getElem?_map, e1]
      rfl
  · rw [List.getElem?_append_right (by simpa using hi), List.getElem?_replicate] at h
    split at h <;> cases h
section
variable {U : Uv} {M : Nm} {G : Gx} {P : Nat → Option CDef} {fa : Nat → Addr} {L : Glb}
theorem def_core {cal : Nat → List D → Store → Res D} {k : Nat} (hk : 1 ≤ k) (F : Facts U M G P fa L) (co : CallsOk U M G P fa cal k) {a : Addr} {cd : CDef} {fd : FuncData} {name qual : Str} {as : List Arg} {body : List Stmt} {scope : Scope} {N : List Str}
    (fn : FunD U.K name qual ⟨[], as, none, [], [], none, []⟩ body scope [] [] a fd) (fs : FnScope N (as.map (·.arg)) scope) (nd : (as.map (·.arg)).Nodup) (hc : cSs L G ⟨N, scope, none⟩ cd.body body = true) (h1 : cd.np = as.length) (h2 : cd.ns = N.length) :
    FnOk U.P U.w U.K U.mg U.base (CX U.P U.w) (k + 2) a fd (as.map (·.arg)) (spF M G cd.np fun ds S => (execs G cal cd.body (ds.map some ++ List.replicate (cd.ns - cd.np) none) S).fin) := by
  refine fn.ok (k := k + 1) fs (fun vs H Q E ⟨S, ρ, ds, g, r, l, h⟩ => by rw [r.length, l, h1, List.length_map]) fun cdv A outer s H vs Q E hr hsp => ?_
  obtain ⟨S, ρ, ds, g, r, l, h⟩ := hsp
  generalize hX : cxOf (CX U.P U.w) U.P U.w U.K U.mg U.base N qual scope a cdv A outer s H E = X
  have o : SOk U ⟨N, scope, none⟩ k X := by
    subst hX
    exact ⟨⟨⟨rfl, rfl, rfl, rfl, rfl⟩, rfl, rfl, rfl, rfl, hr, fs.nd, fs.kind⟩, passes_of rfl, rfl, rfl, hk⟩
  have xt : XT X E := by
    subst hX
    exact takes_of rfl rfl rfl rfl
  refine ⟨_, cSs_ok F co cd.body X body o hc, E, S, ρ, ds.map some ++ List.replicate (cd.ns - cd.np) none, xt, g, ?_, fin_post h⟩
  rw [h2]
  exact er_start r l
theorem def_ok {cal : Nat → List D → Store → Res D} {k : Nat} (hk : 1 ≤ k) (F : Facts U M G P fa L) (co : CallsOk U M G P fa cal k) {f : Nat} {cd : CDef} (d : DefR U G L fa f cd) :
    ∃ fd ps, FnOk U.P U.w U.K U.mg U.base (CX U.P U.w) (k + 2) (fa f) fd ps (spF M G cd.np fun ds S => (execs G cal cd.body (ds.map some ++ List.replicate (cd.ns - cd.np) none) S).fin) ∧ Binds U.K fd ps [] := by
  obtain ⟨fd, name, qual, as, body, scope, N, fn, fs, nd, hc, h1, h2⟩ := d
  exact ⟨fd, as.map (·.arg), def_core hk F co fn fs nd hc h1 h2, fn.bindsN fun kV doc pm an cdv ct us hl => bind_plain rfl rfl nd hl⟩
theorem calF_succ {f : Nat} {cd : CDef} {ds : List D} {S : Store} {n : Nat} (hf : P f = some cd) (hl : ds.length = cd.np) : calF G P (n + 1) f ds S = (execs G (calF G P n) cd.body (ds.map some ++ List.replicate (cd.ns - cd.np) none) S).fin := by
  simp only [calF, hf, hl, if_true]
/-- all of them -/
theorem calls_ok (F : Facts U M G P fa L) (hd : ∀ f cd, P f = some cd → DefR U G L fa f cd) : ∀ n, CallsOk U M G P fa (calF G P n) (2 * n + 1)
  | 0 => by
    refine ⟨fun f cd hf => ?_, fun f ds S h => absurd rfl h, by omega⟩
    obtain ⟨fd, name, qual, as, body, scope, N, fn, fs, nd, hc, h1, h2⟩ := hd f cd hf
    refine ⟨fd, as.map (·.arg), ⟨fun vs H Q E ⟨S, ρ, ds, g, r, l, h⟩ => h.elim, fun A outer s H args us vs Q E hr he hb hv ⟨S, ρ, ds, g, r, l, h⟩ => h.elim⟩, fn.bindsN fun kV doc pm an cdv ct us hl => bind_plain rfl rfl nd hl⟩
  | n + 1 => by
    have ih := calls_ok F hd n
    refine ⟨fun f cd hf => ?_, fun f ds S h => ?_, by omega⟩
    · obtain ⟨fd, ps, FO, B⟩ := def_ok (by omega) F ih (hd f cd hf)
      refine ⟨fd, ps, FO.imp fun vs H Q E ⟨S, ρ, ds, g, r, l, h⟩ => ⟨S, ρ, ds, g, r, l, ?_⟩, B⟩
      simp only [calF, hf, l, if_true] at h
      exact h
    · simp only [calF] at h
      cases hf : P f with
      | none => rw [hf] at h; exact absurd rfl h
      | some cd =>
        rw [hf] at h
        by_cases q : ds.length = cd.np
        · exact ⟨cd, rfl, q⟩
        · simp only [if_neg q] at h
          exact absurd rfl h
/-! ### an exception's own __init__ -/
theorem fn_exc {CX' : CXT} {name qual s v f : Str} {as : List Arg} {scope : Scope} {fI : Addr} {fd : FuncData} {p1 p2 p3 pos : Pos} (fn : FunD U.K name qual ⟨[], as, none, [], [], none, []⟩ [.Assign [.Attribute (.Name s p1) f p2] (.Name v p3) pos] scope [] [] fI fd)
    (has : as.map (·.arg) = [s, v]) (fs : FnScope [s, v] [s, v] scope) (d1 : dbgB s = true) (d2 : dbgB v = true) (d3 : cldB s = true) (d4 : cldB v = true) (hne : s ≠ v) :
    ∃ ps, FnOk U.P U.w U.K U.mg U.base CX' 1 fI fd ps (spX U.K f) ∧ Binds U.K fd ps [] := by
  refine ⟨[s, v], fn.ok (k := 0) fs (fun vs H Q E ⟨a, C, y, e, _⟩ => by rw [e]; rfl) fun cdv A outer sh H vs Q E hr hsp => ?_, fn.bindsN fun kV doc pm an cdv ct us hl => ?_⟩
  · obtain ⟨a, C, y, rfl, h1, h2, h3, h4⟩ := hsp
    have vis : ∀ x ∈ [s, v], Vis scope x := fun x hx => by
      rcases fs.par x hx with q | q
      · exact .inl q
      · exact .inr (.inl q)
    refine ⟨_, pss_one (ps_ost (pe_var (i := 0) rfl (vis s (by simp)) (dbg_ok d1) (cld_ok d3)) (pe_var (i := 1) rfl (vis v (by simp)) (dbg_ok d2) (cld_ok d4)) (by rfl)), ?_⟩
    exact ⟨y, rfl, _, rfl, a, C, rfl, h1, h2, .inl ⟨h3, fun dx hd hn => h4 dx hd hn⟩⟩
  · rw [← has] at hl ⊢
    exact bind_plain rfl rfl (by rw [has]; simp [hne]) hl
end
end DI
end

section
set_option Elab.async false
set_option linter.all false
set_option maxRecDepth 100000
/-! DIHead: from the head to the facts, from the plain law to the row. -/
namespace DI
open PySem PySem.Spec L2
/-- a program's description -/
structure Pd where
  an : List Str
  cn : List Str
  flds : List (List Nat)
  own : List Nat
  exc : List (Nat × Nat)
  hcl : List Nat
  sub : List (Nat × Nat)
  ids : List Nat
  cdg : Nat → Option CDef
  tabs : List (Nat × (Str × List (Str × D)))
  df : List He.DefD
  nm : List (List Str)
  xd : List He.DefD
  mks : List (Nat × Nat)
  mt : List (Nat × Nat × Str)
  eq : List (Nat × Nat)
  gint : List (Str × Int)
  blt : List Str
  gcd : Bool
  peq : List Nat := []
  neq : List Nat := []
  icl : List Nat := []
  isb : List (Nat × Nat) := []
namespace Pd
variable (p : Pd)
def G : Gx := { flds := fun c => p.flds.getD c [], own := p.own, exc := p.exc.map (·.1), hcl := p.hcl, tab := fun x => ((p.tabs.lookup x).map (·.2)).getD [], sub := fun c h => p.sub.contains (c, h), xattr := fun c => (p.exc.lookup c).getD 0, icl := p.icl, isub := fun c k => p.isb.contains (c, k) }
def anF (i : Nat) : Str := p.an.getD i ""
def cnF (i : Nat) : Str := p.cn.getD i ""
/-- where a def stands in the list -/
def posF (f : Nat) : Option Nat := p.ids.findIdx? (· == f)
def dfF (f : Nat) : Option He.DefD := (p.posF f).bind fun i => p.df[i]?
def fnF (f : Nat) : Option Str := match p.dfF f with
  | some d => (match d.at_.2 with
    | none => some d.at_.1
    | some _ => none)
  | none => none
def L : Glb := { an := p.anF, fn := p.fnF, has := fun f => (p.posF f).isSome && (p.cdg f).isSome, cn := fun c => match p.cn[c]? with
  | some x => if x == "" then none else some x
  | none => none, mks := p.mks, mt := p.mt, eq := p.eq, peq := p.peq, neq := p.neq, gint := p.gint, blt := p.blt, gcd := p.gcd, tn := fun x => (p.tabs.lookup x).map (·.1) }
def M (K : PySem.W.Frag) : Nm := { n := p.an.length, an := p.anF, ca := fun c => He.ga K (p.cnF c) }
def fa (K : PySem.W.Frag) (f : Nat) : Addr := match p.dfF f with
  | some d => He.fAd K d.at_
  | none => 0
def P (f : Nat) : Option CDef := match p.posF f with
  | some _ => p.cdg f
  | none => none
/-! ### looks at the written part -/
def clsB (K : PySem.W.Frag) (C : Addr) : Bool := PySem.W.plainGet K C Str.empty && (PySem.W.hasDictIn K C && (PySem.W.plainOver K C && He.eqO (PySem.W.findIn K (.ref C) "__setattr__") (some (some (.builtin "object.__setattr__")))))
def oexB (K : PySem.W.Frag) (C : Addr) : Bool := (match K.lookup C with
  | some ⟨.type t, _, .cls ⟨_, _, .ref c :: bm, _, _, true, _, _, _, _, false⟩, sl⟩ => decide (t = "type") && decide (c = C) && PySem.HandSPX.refsVE bm && (match sl.toList with
    | [_, _, _, _, some (.builtin b), _] => decide (b = "ValueError.__new__")
    | _ => false)
  | _ => false) && (He.eqO (PySem.W.findIn K (.ref C) "__setattr__") (some (some (.builtin "object.__setattr__"))) && (decide (PySem.W.subIn K (.ref C) (.type "BaseException") = some true) && (decide (PySem.W.typeIn K (.ref C) = some (.type "type")) && PySem.W.keepIn K (.ref C))))
def gloB (K : PySem.W.Frag) (x : Str) : Bool := He.eqO (PySem.W.nsIn K mainGlobals x) (some (some (.ref (He.ga K x))))
def intB (K : PySem.W.Frag) (x : Str) (i : Int) : Bool := match PySem.W.nsIn K mainGlobals x with
  | some (some (.int j _)) => decide (j = i)
  | _ => false
def bs5 : List String := ["int", "bool", "str", "tuple", "list"]
def bs6 : List String := ["NoneType", "int", "bool", "str", "tuple", "list"]
def noLst (K : PySem.W.Frag) : Bool := K.all fun q => !decide (q.2.cls = .type "list")
def factsB (K : PySem.W.Frag) : Bool :=
  ((List.range p.flds.length).all fun c => (p.flds.getD c []).all fun f => Nat.blt f p.an.length && (clsB K (He.ga K (p.cnF c)) && He.eqO (PySem.W.findIn K (.ref (He.ga K (p.cnF c))) (p.anF f)) (some none))) &&
  ((p.own.all fun c => clsB K (He.ga K (p.cnF c)) && (He.eqO (PySem.W.findIn K (.ref (He.ga K (p.cnF c))) "__class__") (some (some (.builtin "object.__class__"))) && decide (PySem.W.mroIn K (He.ga K (p.cnF c)) (.type "object") = some true))) &&
  (He.eqO (PySem.W.specialIn K (.builtin "object.__class__") "__get__") (some (some (.builtin "getset_descriptor.__get__"))) && (decide (PySem.W.takesIn K (.builtin "object.__class__") = some true) &&
  ((p.own.all fun c => p.own.all fun d => decide (PySem.W.kitOne K (.ref (He.ga K (p.cnF c))) (.ref (He.ga K (p.cnF d))) = some (decide (c = d)))) &&
  ((p.own.all fun c => bs5.all fun n => decide (PySem.W.kitOne K (.ref (He.ga K (p.cnF c))) (.type n) = some false)) &&
  ((p.own.all fun c => bs6.all fun n => decide (PySem.W.kitOne K (.type n) (.ref (He.ga K (p.cnF c))) = some false)) &&
  ((p.exc.all fun c => xfB K (He.ga K (p.cnF c.1)) && (He.eqO (PySem.W.findIn K (.ref (He.ga K (p.cnF c.1))) (p.anF c.2)) (some none) && (oexB K (He.ga K (p.cnF c.1)) && (He.eqO (PySem.W.findIn K (.ref (He.ga K (p.cnF c.1))) "__init__") (some (some (.ref (He.ma K (He.ga K (p.cnF c.1)) "__init__")))) &&
    decide (PySem.W.typeIn K (.ref (He.ma K (He.ga K (p.cnF c.1)) "__init__")) = some (.type "function")))))) &&
  ((p.exc.all fun c => p.hcl.all fun h => decide (PySem.W.exmOne K (.ref (He.ga K (p.cnF c.1))) (.ref (He.ga K (p.cnF h))) = some (p.sub.contains (c.1, h)))) &&
  ((p.cn.all fun x => x == "" || gloB K x) &&
  ((p.df.all fun d => match d.at_.2 with
    | none => gloB K d.at_.1
    | some _ => true) &&
  ((p.mks.all fun q => PySem.W.makesIn K (He.ga K (p.cnF q.1)) && (He.eqO (PySem.W.findIn K (.ref (He.ga K (p.cnF q.1))) "__init__") (some (some (.ref (p.fa K q.2)))) && (PySem.W.isFn K (.ref (p.fa K q.2)) && PySem.W.keepIn K (.ref (He.ga K (p.cnF q.1)))))) &&
  ((p.mt.all fun q => clsB K (He.ga K (p.cnF q.1)) && (He.eqO (PySem.W.findIn K (.ref (He.ga K (p.cnF q.1))) q.2.2) (some (some (.ref (p.fa K q.2.1)))) && (PySem.W.isFn K (.ref (p.fa K q.2.1)) && (PySem.W.keepIn K (.ref (p.fa K q.2.1)))))) &&
  ((p.eq.all fun q => He.eqO (PySem.W.findIn K (.ref (He.ga K (p.cnF q.1))) "__eq__") (some (some (.ref (p.fa K q.2)))) && (PySem.W.isFn K (.ref (p.fa K q.2)) && decide (PySem.W.subIn K (.type "tuple") (.ref (He.ga K (p.cnF q.1))) = some false))) &&
  ((p.peq.all fun c => decide (PySem.W.mroIn K (He.ga K (p.cnF c)) (.type "object") = some true) && He.eqO (PySem.W.findIn K (.ref (He.ga K (p.cnF c))) "__eq__") (some (some (.builtin "object.__eq__")))) &&
  ((p.neq.all fun c => decide (PySem.W.mroIn K (He.ga K (p.cnF c)) (.type "object") = some true) && He.eqO (PySem.W.findIn K (.ref (He.ga K (p.cnF c))) "__ne__") (some (some (.builtin "object.__ne__")))) &&
  ((p.gint.all fun q => intB K q.1 q.2) &&
  ((p.blt.all fun x => He.eqO (PySem.W.nsIn K mainGlobals x) (some none)) &&
  ((!p.gcd || He.eqO (PySem.W.nsIn K mainGlobals "gcd") (some (some (.builtin "math.gcd")))) &&
  ((p.tabs.all fun t => gloB K t.2.1 && valsD K (He.ga K t.2.1) t.2.2) &&
  ((p.exc.all fun c => p.icl.all fun k => (PySem.W.clsIn K (He.ga K (p.cnF c.1))).isSome && (He.eqO (PySem.W.findIn K (.ref (He.ga K (p.cnF c.1))) "__class__") (some (some (.builtin "object.__class__"))) && (decide (PySem.W.mroIn K (He.ga K (p.cnF c.1)) (.type "object") = some true) &&
    decide (PySem.W.kitOne K (.ref (He.ga K (p.cnF c.1))) (icW (p.M K) k) = some (p.isb.contains (c.1, k)))))) &&
  noLst K))))))))))))))))))))
/-! ### the Hook -/
def fns : List He.DefD := p.df ++ p.xd
def obsX (K : PySem.W.Frag) : He.AlD := (p.factsB K && p.fns.all fun d => d.ok K, p.fns.map fun d => He.fnW K d.at_)
def valX : He.AlD := (true, p.fns.map He.DefD.val)
/-- the tables' keys, with their sums -/
def obsT (K : PySem.W.Frag) : List (Option (List (Option (Str × Int)))) := p.tabs.map fun t => He.dicW K (He.ga K t.2.1)
def valT (w : World) : List (Option (List (Option (Str × Int)))) := p.tabs.map fun t => some (He.keysIn w.params (t.2.2.map (·.1)))
abbrev AlP : Type := He.AlD × List (Option (List (Option (Str × Int))))
/-- the objects that are looked at: what the module names; functions' codes; classes' names and their functions -/
def refsF (o : Obj) : List Addr := match o.data with
  | .func fd => He.refV fd.code
  | .cls cd => [cd.ns]
  | _ => []
def refsN (o : Obj) : List Addr := match o.data with
  | .dict es _ => es.toList.flatMap fun e => He.refV e.val
  | _ => []
def only (g : Addr → Option Obj) (as : List Addr) : List Addr := as.filter fun a => match g a with
  | some o => (match o.data with
    | .func _ => true
    | .cls _ => true
    | _ => false)
  | none => false
def next (g : Addr → Option Obj) (r : Obj → List Addr) (as : List Addr) : List Addr := as.flatMap fun a => match g a with
  | some o => r o
  | none => []
/-- .. and its tables -/
def dicts (g : Addr → Option Obj) (as : List Addr) : List Addr := as.filter fun a => match g a with
  | some o => (match o.data with
    | .dict _ _ => true
    | _ => false)
  | none => false
def clsNs (o : Obj) : List Addr := match o.data with
  | .cls cd => [cd.ns]
  | _ => []
def asX (g : Addr → Option Obj) : List Addr :=
  let gs := only g (next g refsN [mainGlobals])
  let ns := next g clsNs gs
  let ms := only g (next g refsN ns)
  mainGlobals :: (gs ++ (next g refsF gs ++ (ms ++ (next g refsF ms ++ dicts g (next g refsN [mainGlobals])))))
def obsXG (g : Addr → Option Obj) : AlP := (p.obsX (He.frG g (asX g)), p.obsT (He.frG g (asX g)))
def hk : PySem.W.Hook where
  α := AlP
  obs := fun s => p.obsXG s.heap.get?
  val := fun w => (p.valX, p.valT w)
  says := fun w h => ∃ K : PySem.W.Frag, K.In h ∧ (p.obsX K = p.valX ∧ p.obsT K = p.valT w)
  of := fun w _ e => ⟨_, He.frG_in, congrArg (fun z : AlP => z.1) e, congrArg (fun z : AlP => z.2) e⟩
  keeps := fun _ _ _ ⟨K, hK, c⟩ k => ⟨K, PySem.W.Frag.In.keeps hK k, c⟩
def ob (s : PySem.W.SharedT) : AlP := p.obsXG (HandSHeadRun.getT s)
theorem ob_eq (s : PySem.W.SharedT) : p.ob s = p.hk.obs s.abs := by
  have e : HandSHeadRun.getT s = s.abs.heap.get? := funext (HandSHeadRun.getT_eq s)
  unfold ob
  rw [e]
  rfl
/-! ### the text alone -/
def plainArgs (a : Arguments) : Bool := match a with
  | ⟨[], _, none, [], [], none, []⟩ => true
  | _ => false
def argNames (a : Arguments) : List Str := a.args.map (·.arg)
def defB (d : He.DefD) (c : CDef) (N : List Str) : Bool := plainArgs d.params && (C8.scC N (argNames d.params) d.scope && (decide (argNames d.params).Nodup && (cSs p.L p.G ⟨N, d.scope, none⟩ c.body d.body && (decide (c.np = d.params.args.length) && (decide (c.ns = N.length) && (d.dfl.isEmpty && d.kwd.isEmpty))))))
def defsB : List He.DefD → List Nat → List (List Str) → Bool
  | [], [], [] => true
  | d :: ds, i :: is, n :: ns => (match p.cdg i with
    | some c => p.defB d c n
    | none => false) && defsB ds is ns
  | _, _, _ => false
def excB (c : Nat × Nat) (d : He.DefD) : Bool := decide (d.at_ = (p.cnF c.1, some ("__init__" : Str))) && (plainArgs d.params && ((match d.body with
  | [.Assign [.Attribute (.Name s _) f _] (.Name v _) _] => decide (argNames d.params = [s, v]) && (C8.scC [s, v] [s, v] d.scope && (dbgB s && (dbgB v && (cldB s && (cldB v && (decide (s ≠ v) && decide (f = p.anF c.2)))))))
  | _ => false) && (d.dfl.isEmpty && d.kwd.isEmpty)))
def excsB : List (Nat × Nat) → List He.DefD → Bool
  | [], [] => true
  | c :: cs, d :: ds => p.excB c d && excsB cs ds
  | _, _ => false
def textB : Bool := decide p.an.Nodup && (p.defsB p.df p.ids p.nm && (p.excsB p.exc p.xd && ((p.exc.all fun c => decide (p.exc.lookup c.1 = some c.2)) && p.mt.all fun q => !p.an.contains q.2.2)))
section
variable {p : Pd} {K : PySem.W.Frag}
theorem clsB_ok {C : Addr} (h : clsB K C = true) : Cls K C := by
  unfold clsB at h
  simp only [Bool.and_eq_true] at h
  exact ⟨h.1, h.2.1, h.2.2.1, He.eqO_ok h.2.2.2⟩
theorem oexB_ok {C : Addr} (h : oexB K C = true) : OexC K C := by
  unfold oexB at h
  simp only [Bool.and_eq_true, decide_eq_true_eq] at h
  obtain ⟨h1, h2, h3, h4, h5⟩ := h
  refine ⟨?_, He.eqO_ok h2, h3, h4, h5⟩
  split at h1
  · rename_i t dd nm bs c bm N q sn sub ab col sl e
    simp only [Bool.and_eq_true, decide_eq_true_eq] at h1
    obtain ⟨⟨⟨rfl, rfl⟩, h6⟩, h7⟩ := h1
    split at h7
    · rename_i k0 k1 k2 k3 b k5 e2
      have hb := of_decide_eq_true h7
      subst hb
      refine ⟨nm, q, N, bs, bm, sn, sub, ab, col, dd, k0, k1, k2, k3, k5, ?_, h6⟩
      rw [e]
      have : sl = #[k0, k1, k2, k3, some (.builtin "ValueError.__new__"), k5] := by
        cases sl
        simpa using e2
      rw [this]
    · cases h7
  · cases h1
theorem gloB_ok {h : Heap} {mg : Str → Option Value} (X : K.In h) (g : h.Ns mainGlobals mg) {x : Str} (c : gloB K x = true) : mg x = some (.ref (He.ga K x)) := PySem.W.mg_of X g (He.eqO_ok c)
theorem intB_ok {h : Heap} {mg : Str → Option Value} (X : K.In h) (g : h.Ns mainGlobals mg) {x : Str} {i : Int} (c : intB K x i = true) : ∃ u, mg x = some u ∧ RelV (.int i) u := by
  unfold intB at c
  split at c
  · rename_i j t e
    cases of_decide_eq_true c
    exact ⟨_, PySem.W.mg_of X g e, _, rfl⟩
  · cases c
theorem lookup_mem {α β : Type} [BEq α] [LawfulBEq α] {a : α} {b : β} : ∀ {l : List (α × β)}, l.lookup a = some b → (a, b) ∈ l
  | [], h => by cases h
  | (x, y) :: r, h => by
    rw [List.lookup_cons] at h
    cases q : a == x with
    | true =>
      rw [q] at h
      cases h
      rw [eq_of_beq q]
      simp
    | false =>
      rw [q] at h
      exact List.mem_cons_of_mem _ (lookup_mem h)
theorem noLst_ok (h : noLst K = true) {a : Addr} {o : Obj} (e : K.lookup a = some o) : o.cls ≠ .type "list" := by
  have h1 := List.all_eq_true.mp h (a, o) (lookup_mem e)
  simpa using h1
theorem defsB_at : ∀ {ds : List He.DefD} {is : List Nat} {ns : List (List Str)} {i f : Nat} {c : CDef}, p.defsB ds is ns = true → is[i]? = some f → p.cdg f = some c → ∃ d n, ds[i]? = some d ∧ p.defB d c n = true
  | [], [], [], _, _, _, _, e, _ => by simp at e
  | d :: ds, j :: is, n :: ns, 0, f, c, h, e, hc => by
    simp at e
    subst e
    have h1 := (Bool.and_eq_true_iff.mp h).1
    rw [hc] at h1
    exact ⟨d, n, rfl, h1⟩
  | d :: ds, j :: is, n :: ns, i + 1, f, c, h, e, hc => by
    obtain ⟨d', n', h1, h2⟩ := defsB_at (i := i) (Bool.and_eq_true_iff.mp h).2 (by simpa using e) hc
    exact ⟨d', n', by simpa using h1, h2⟩
  | [], _ :: _, _, _, _, _, h, _, _ => by cases h
  | [], [], _ :: _, _, _, _, h, _, _ => by cases h
  | _ :: _, [], _, _, _, _, h, _, _ => by cases h
  | _ :: _, _ :: _, [], _, _, _, h, _, _ => by cases h
theorem pos_at {f i : Nat} (h : p.posF f = some i) : p.ids[i]? = some f := by
  unfold posF at h
  obtain ⟨h1, h2, _⟩ := List.findIdx?_eq_some_iff_getElem.mp h
  rw [List.getElem?_eq_getElem h1, eq_of_beq h2]
theorem P_at {f : Nat} {c : CDef} (h : p.P f = some c) : ∃ i, p.posF f = some i ∧ p.ids[i]? = some f ∧ p.cdg f = some c := by
  unfold P at h
  split at h
  · rename_i i e
    exact ⟨i, e, pos_at e, h⟩
  · cases h
theorem df_mem {f : Nat} {d : He.DefD} (h : p.dfF f = some d) : d ∈ p.df := by
  unfold dfF at h
  obtain ⟨i, _, e⟩ := Option.bind_eq_some_iff.mp h
  exact List.mem_of_getElem? e
theorem defsB_P {f : Nat} {c : CDef} (h : p.defsB p.df p.ids p.nm = true) (hf : p.P f = some c) : ∃ d n, p.dfF f = some d ∧ p.defB d c n = true := by
  obtain ⟨i, e1, e2, e3⟩ := P_at hf
  obtain ⟨d, n, e4, e5⟩ := defsB_at h e2 e3
  refine ⟨d, n, ?_, e5⟩
  unfold dfF
  rw [e1]
  exact e4
theorem excsB_at : ∀ {cs : List (Nat × Nat)} {ds : List He.DefD} {c : Nat × Nat}, p.excsB cs ds = true → c ∈ cs → ∃ d ∈ ds, p.excB c d = true
  | [], [], _, _, h => by cases h
  | c :: cs, d :: ds, c', h, hm => by
    obtain ⟨h1, h2⟩ := Bool.and_eq_true_iff.mp h
    rcases List.mem_cons.mp hm with q | q
    · subst q; exact ⟨d, by simp, h1⟩
    · obtain ⟨d', h3, h4⟩ := excsB_at h2 q
      exact ⟨d', by simp [h3], h4⟩
  | [], _ :: _, _, h, _ => by cases h
  | _ :: _, [], _, h, _ => by cases h
theorem plainArgs_is {a : Arguments} (h : plainArgs a = true) : a = ⟨[], a.args, none, [], [], none, []⟩ := by
  unfold plainArgs at h
  split at h
  · rfl
  · cases h
theorem obsX_ok (h : p.obsX K = p.valX) : p.factsB K = true ∧ ∀ d ∈ p.fns, ∃ fd, FunD K d.name d.qual d.params d.body d.scope (d.dvs K) (d.kws K) (He.fAd K d.at_) fd := by
  have h1 : (p.factsB K && p.fns.all fun d => d.ok K) = true := congrArg (fun z : He.AlD => z.1) h
  have h2 : (p.fns.map fun d => He.fnW K d.at_) = p.fns.map He.DefD.val := congrArg (fun z : He.AlD => z.2) h
  obtain ⟨h3, h4⟩ := Bool.and_eq_true_iff.mp h1
  refine ⟨h3, fun d hd => ?_⟩
  have h5 := List.map_inj_left.mp h2 d hd
  exact He.DefD.funD h5 (List.all_eq_true.mp h4 d hd)
theorem fun_plain {d : He.DefD} {f : Addr} {fd : FuncData} (h1 : plainArgs d.params = true) (h2 : d.dfl.isEmpty = true) (h3 : d.kwd.isEmpty = true) (F : FunD K d.name d.qual d.params d.body d.scope (d.dvs K) (d.kws K) f fd) :
    FunD K d.name d.qual ⟨[], d.params.args, none, [], [], none, []⟩ d.body d.scope [] [] f fd := by
  have e1 : d.dvs K = [] := by unfold He.DefD.dvs; rw [List.isEmpty_iff.mp h2]; rfl
  have e2 : d.kws K = [] := by unfold He.DefD.kws; rw [List.isEmpty_iff.mp h3]; rfl
  rw [e1, e2, plainArgs_is h1] at F
  exact F
theorem defR {U : Uv} (hU : U.K = K) (ht : p.textB = true) (h : p.obsX K = p.valX) {f : Nat} {cd : CDef} (hf : p.P f = some cd) : DefR U p.G p.L (p.fa K) f cd := by
  unfold textB at ht
  simp only [Bool.and_eq_true] at ht
  obtain ⟨d, N, h1, h2⟩ := defsB_P ht.2.1 hf
  unfold defB at h2
  simp only [Bool.and_eq_true, decide_eq_true_eq] at h2
  obtain ⟨h3, h4, h5, h6, h7, h8, h9, h10⟩ := h2
  obtain ⟨fd, F⟩ := (obsX_ok h).2 d (List.mem_append_left _ (df_mem h1))
  refine ⟨fd, d.name, d.qual, d.params.args, d.body, d.scope, N, ?_, C8.fnScope_by h4, h5, h6, h7, h8⟩
  have e : p.fa K f = He.fAd K d.at_ := by unfold Pd.fa; rw [h1]
  rw [hU, e]
  exact fun_plain h3 h9 h10 F
theorem facts {U : Uv} (hU : U.K = K) (ht : p.textB = true) (h : p.obsX K = p.valX) (h2 : p.obsT K = p.valT U.w) (X : K.In U.base) (g : U.base.Ns mainGlobals U.mg) : Facts U (p.M K) p.G p.P (p.fa K) p.L := by
  subst hU
  have ht0 := ht
  unfold textB at ht
  simp only [Bool.and_eq_true, decide_eq_true_eq] at ht
  obtain ⟨t1, t2, t3, t4, t5⟩ := ht
  obtain ⟨hb, hfun⟩ := obsX_ok h
  unfold factsB at hb
  simp only [Bool.and_eq_true] at hb
  obtain ⟨b1, b2, b3, b4, b5, b6, b7, b8, b9, b10, b11, b12, b13, b14, b20, b21, b15, b16, b17, b19, b22, b18⟩ := hb
  have an_inj : ∀ i j, i < p.an.length → j < p.an.length → p.anF i = p.anF j → i = j := fun i j hi hj e => by
    have e' : p.an[i] = p.an[j] := by
      have z : p.an.getD i "" = p.an.getD j "" := e
      simpa [List.getD, hi, hj] using z
    exact (List.getElem_inj t1).mp e'
  refine ⟨rfl, ⟨fun c f hc => ?_, an_inj⟩, ⟨fun c hc => ?_, He.eqO_ok b3, of_decide_eq_true b4, fun c d hc hd => ?_, fun c n hc hn => ?_, fun c n hc hn => ?_⟩, ⟨fun c hc => ?_, fun c d hc hd => ?_, fun c hc => ?_⟩, fun f hf => ?_, fun f x hx => ?_, fun c x hx => ?_, fun c f hc => ?_, fun c f m hm => ?_, fun c f hc => ?_, fun c hc => ?_, fun c hc => ?_, fun x i hx => ?_, fun x hx => ?_, fun hx => ?_, fun x nm hx => ?_, ⟨fun c k hc hk => ?_, fun c k hc hk => ?_⟩⟩
  · have hl : c < p.flds.length := by
      by_cases q : c < p.flds.length
      · exact q
      · have z : (p.flds.getD c []).contains f = true := hc
        have z2 : p.flds.getD c [] = [] := by simp [List.getD, List.getElem?_eq_none (show p.flds.length ≤ c by omega)]
        rw [z2] at z
        cases z
    have h1 := List.all_eq_true.mp (List.all_eq_true.mp b1 c (List.mem_range.mpr hl)) f (List.contains_iff_mem.mp hc)
    simp only [Bool.and_eq_true] at h1
    exact ⟨Nat.le_of_ble_eq_true h1.1, clsB_ok h1.2.1, He.eqO_ok h1.2.2⟩
  · have h1 := List.all_eq_true.mp b2 c (List.contains_iff_mem.mp hc)
    simp only [Bool.and_eq_true, decide_eq_true_eq] at h1
    exact ⟨clsB_ok h1.1, He.eqO_ok h1.2.1, h1.2.2⟩
  · exact of_decide_eq_true (List.all_eq_true.mp (List.all_eq_true.mp b5 c (List.contains_iff_mem.mp hc)) d (List.contains_iff_mem.mp hd))
  · exact of_decide_eq_true (List.all_eq_true.mp (List.all_eq_true.mp b6 c (List.contains_iff_mem.mp hc)) n hn)
  · exact of_decide_eq_true (List.all_eq_true.mp (List.all_eq_true.mp b7 c (List.contains_iff_mem.mp hc)) n hn)
  · obtain ⟨q, hq, e⟩ := List.mem_map.mp (List.contains_iff_mem.mp hc)
    subst e
    have h1 := List.all_eq_true.mp b8 q hq
    simp only [Bool.and_eq_true] at h1
    have hx : p.G.xattr q.1 = q.2 := by
      have z := of_decide_eq_true (List.all_eq_true.mp t4 q hq)
      show (p.exc.lookup q.1).getD 0 = q.2
      rw [z]; rfl
    rw [hx]
    exact ⟨xfB_ok h1.1, He.eqO_ok h1.2.1, oexB_ok h1.2.2.1⟩
  · obtain ⟨q, hq, e⟩ := List.mem_map.mp (List.contains_iff_mem.mp hc)
    subst e
    exact of_decide_eq_true (List.all_eq_true.mp (List.all_eq_true.mp b9 q hq) d (List.contains_iff_mem.mp hd))
  · obtain ⟨q, hq, e⟩ := List.mem_map.mp (List.contains_iff_mem.mp hc)
    subst e
    have h1 := List.all_eq_true.mp b8 q hq
    simp only [Bool.and_eq_true, decide_eq_true_eq] at h1
    have hx : p.G.xattr q.1 = q.2 := by
      have z := of_decide_eq_true (List.all_eq_true.mp t4 q hq)
      show (p.exc.lookup q.1).getD 0 = q.2
      rw [z]; rfl
    rw [hx]
    obtain ⟨d, hd, h2⟩ := excsB_at t3 hq
    unfold excB at h2
    simp only [Bool.and_eq_true, decide_eq_true_eq] at h2
    obtain ⟨a1, a2, a3, a4, a5⟩ := h2
    obtain ⟨fd, F⟩ := hfun d (List.mem_append_right _ hd)
    have F2 := fun_plain a2 a4 a5 F
    split at a3
    · rename_i s p1 f p2 v p3 p4 hbody
      simp only [Bool.and_eq_true, decide_eq_true_eq] at a3
      obtain ⟨c1, c2, c3, c4, c5, c6, c7, c8⟩ := a3
      rw [hbody, a1] at F2
      have e : He.fAd U.K (p.cnF q.1, some ("__init__" : Str)) = He.ma U.K (He.ga U.K (p.cnF q.1)) "__init__" := rfl
      rw [e, c8] at F2
      obtain ⟨ps, r1, r2⟩ := fn_exc F2 c1 (C8.fnScope_by c2) c3 c4 c5 c6 c7
      exact ⟨_, fd, ps, He.eqO_ok h1.2.2.2.1, h1.2.2.2.2, r1, r2⟩
    · cases a3
  · have hf' : ((p.posF f).isSome && (p.cdg f).isSome) = true := hf
    obtain ⟨q1, q2⟩ := Bool.and_eq_true_iff.mp hf'
    unfold P
    cases q : p.posF f with
    | none => rw [q] at q1; cases q1
    | some i => exact q2
  · unfold L fnF at hx
    dsimp only at hx
    split at hx
    · rename_i d hd
      split at hx
      · rename_i hn
        cases hx
        have h1 := List.all_eq_true.mp b11 d (df_mem hd)
        rw [hn] at h1
        obtain ⟨fd, F⟩ := hfun d (List.mem_append_left _ (df_mem hd))
        have e : p.fa U.K f = He.fAd U.K d.at_ := by unfold Pd.fa; rw [hd]
        have e2 : He.fAd U.K d.at_ = He.ga U.K d.at_.1 := by unfold He.fAd; rw [hn]
        refine ⟨by rw [e, e2]; exact gloB_ok X g h1, by rw [e]; exact F.kp⟩
      · cases hx
    · cases hx
  · obtain ⟨hx', hne⟩ : p.cn[c]? = some x ∧ (x == "") = false := by
      unfold L at hx
      dsimp only at hx
      split at hx
      · rename_i y e
        split at hx
        · cases hx
        · rename_i q
          cases hx
          exact ⟨e, by simpa using q⟩
      · cases hx
    have h1 := List.all_eq_true.mp b10 x (List.mem_of_getElem? hx')
    rw [hne, Bool.false_or] at h1
    show U.mg x = some (.ref (He.ga U.K (p.cn.getD c "")))
    have : p.cn.getD c "" = x := by simp [List.getD, hx']
    rw [this]
    exact gloB_ok X g h1
  · have h1 := List.all_eq_true.mp b12 (c, f) (List.contains_iff_mem.mp hc)
    simp only [Bool.and_eq_true] at h1
    exact ⟨h1.1, He.eqO_ok h1.2.1, h1.2.2.1, h1.2.2.2⟩
  · have hm' := List.contains_iff_mem.mp hm
    have h1 := List.all_eq_true.mp b13 (c, f, m) hm'
    simp only [Bool.and_eq_true] at h1
    refine ⟨clsB_ok h1.1, ⟨He.eqO_ok h1.2.1, h1.2.2.1, h1.2.2.2⟩, fun i hi e => ?_⟩
    have h2 := List.all_eq_true.mp t5 (c, f, m) hm'
    simp only [Bool.not_eq_true'] at h2
    have hi' : i < p.an.length := hi
    have h3 : m ∈ p.an := by
      have e' : p.an.getD i "" = m := e
      have e2 : p.an.getD i "" = p.an[i] := by simp [List.getD, hi']
      rw [← e', e2]
      exact List.getElem_mem hi'
    rw [List.contains_iff_mem.mpr h3] at h2
    cases h2
  · have h1 := List.all_eq_true.mp b14 (c, f) (List.contains_iff_mem.mp hc)
    simp only [Bool.and_eq_true, decide_eq_true_eq] at h1
    exact ⟨He.eqO_ok h1.1, h1.2.1, h1.2.2⟩
  · have h1 := List.all_eq_true.mp b20 c (List.contains_iff_mem.mp hc)
    simp only [Bool.and_eq_true, decide_eq_true_eq] at h1
    exact ⟨h1.1, He.eqO_ok h1.2⟩
  · have h1 := List.all_eq_true.mp b21 c (List.contains_iff_mem.mp hc)
    simp only [Bool.and_eq_true, decide_eq_true_eq] at h1
    exact ⟨h1.1, He.eqO_ok h1.2⟩
  · have h1 := List.all_eq_true.mp b15 (x, i) (PySem.mem_of_lookup hx)
    exact intB_ok X g h1
  · have h1 := List.all_eq_true.mp b16 x (List.contains_iff_mem.mp hx)
    exact PySem.W.mg_none_of X g (He.eqO_ok h1)
  · have hx' : p.gcd = true := hx
    rw [hx'] at b17
    exact PySem.W.mg_of X g (He.eqO_ok b17)
  · have hx' : (p.tabs.lookup x).map (·.1) = some nm := hx
    obtain ⟨t, ht2, rfl⟩ := Option.map_eq_some_iff.mp hx'
    have hm := lookup_mem ht2
    have h3 := List.all_eq_true.mp b19 (x, t) hm
    obtain ⟨h4, h5⟩ := Bool.and_eq_true_iff.mp h3
    have e : p.G.tab x = t.2 := by
      show ((p.tabs.lookup x).map (·.2)).getD [] = _
      rw [ht2]; rfl
    rw [e]
    exact tab_of (gloB_ok X g h4) (List.map_inj_left.mp h2 (x, t) hm) h5
  · obtain ⟨q, hq, e⟩ := List.mem_map.mp (List.contains_iff_mem.mp hc)
    subst e
    have h1 := List.all_eq_true.mp (List.all_eq_true.mp b22 q hq) k (List.contains_iff_mem.mp hk)
    simp only [Bool.and_eq_true, decide_eq_true_eq] at h1
    exact ⟨h1.1, He.eqO_ok h1.2.1, h1.2.2.1⟩
  · obtain ⟨q, hq, e⟩ := List.mem_map.mp (List.contains_iff_mem.mp hc)
    subst e
    have h1 := List.all_eq_true.mp (List.all_eq_true.mp b22 q hq) k (List.contains_iff_mem.mp hk)
    simp only [Bool.and_eq_true, decide_eq_true_eq] at h1
    exact h1.2.2.2
end
end Pd
end DI
namespace DI
open PySem PySem.Spec L2
theorem cx_no {P : Program} {w : World} {outer : List PySem.Env} {H : Hp} {s : Shared} {e : Value} {s' : Shared} (h : CX P w outer H s (fun _ _ _ => False) e s') : False := by
  obtain ⟨_, _, _, _, _, _, _, _, _, _, _, _, z⟩ := h
  exact z
/-- a def that lets nothing out -/
theorem fn_calm {P : Program} {w : World} {K : PySem.W.Frag} {mg : Str → Option Value} {base : Heap} {k : Nat} {f : Addr} {fd : FuncData} {ps : List Str} {sp : Sp} (F : FnOk P w K mg base (CX P w) k f fd ps sp) : FnOk P w K mg base C8.CX0 k f fd ps fun vs H Q _ => sp vs H Q fun _ _ _ => False := by
  refine ⟨fun vs H Q E h => F.len vs H Q _ h, fun A outer s H args us vs Q E hr he hb hv hs => codeAny_mono (F.run A outer s H args us vs Q _ hr he hb hv hs) fun r s' h => ?_⟩
  cases r with
  | ok fl => cases fl <;> exact h
  | error e => exact (cx_no h).elim
namespace Pd
theorem lawQ {p : Pd} {K : PySem.W.Frag} {H : Hp} {a : Addr} {ns : List Int} {N lf : Nat} {E : XK} (hn : ns.length ≤ sizeLine) (nl : noLst K = true) (h : SqL K H a (ns.map V.int)) (np : Nat) (hnp : np = 1)
    (plain : ∃ S', calF p.G p.P (N + 1) lf [.loc 0] [.ro (ns.map .int)] = .ok (.bl true) S') : spF (p.M K) p.G np (calF p.G p.P (N + 1) lf) [.ref a] H (fun v _ => v = .bl true) E := by
  have hr : Rd H a (.lst (ns.map V.int)) := by
    rcases h with h | ⟨o, its, n, h1, h2, _⟩
    · exact h
    · exact absurd h2 (noLst_ok nl h1)
  have rr : ∀ (S : Store) (ρ : List Addr) (ns : List Int), VRs (p.M K) S ρ H (ns.map V.int) (ns.map D.int) := fun S ρ ns => by
    induction ns with
    | nil => exact .nil
    | cons x xs ih => exact .cons (.int x) ih
  obtain ⟨S', e⟩ := plain
  subst hnp
  refine ⟨[.ro (ns.map .int)], [a], [.loc 0], ⟨rfl, by simp, fun n c b e1 e2 => ?_⟩, .cons (.loc rfl) .nil, rfl, ?_⟩
  · cases n with
    | zero =>
      simp at e1 e2
      subst e1; subst e2
      exact .ro hr (by simpa using hn) (rr _ _ ns)
    | succ n => simp at e1
  · rw [e]
    exact fun ρ' H' n g v rv => by cases rv; rfl
theorem walk {p : Pd} {l : PySem.W.OpenLaw} {n N lf : Nat} {q : Program} {loose : List Str} {XP : (Str → Option Value) → Heap → Prop} {d : DefRec} {c : CDef}
    (hn : l.most = some n) (hn2 : n ≤ sizeLine) (hdf : d.params.defaults = []) (hN : 2 * N + 3 ≤ 200) (ht : p.textB = true) (hname : d.name = ("law" : Str)) (hlf : p.fnF lf = some ("law" : Str)) (hc : p.P lf = some c) (hnp : c.np = 1)
    (hps : (match p.dfF lf with | some d => decide (argNames d.params = [("script" : Str)]) | none => false) = true)
    (plain : ∀ ns : List Int, ns.length ≤ n → ∃ S', calF p.G p.P (N + 1) lf [.loc 0] [.ro (ns.map .int)] = .ok (.bl true) S') :
    PySem.W.WalkO q loose XP p.hk.says l.row.toRowW d [] (fun f vs => PySem.call f vs) := by
  refine L2.walk_ofE (l := l) (n := n) (k := 2 * N + 3) (x := "script") (CX := C8.CX0) hn hn2 hdf ⟨rfl, by
    show callerA.depth + 3 * (2 * N + 3) + 5 < recursionLimit
    have : callerA.depth + 3 * 200 + 5 < recursionLimit := by decide
    omega, by
    show callerA.units + 16 * (2 * N + 3) + 200 < cLine
    have : callerA.units + 16 * 200 + 200 < cLine := by decide
    omega⟩ ?_ (fun _ _ _ _ z => z)
  intro w mg fa h Y g hmg
  obtain ⟨K, X, ob, obt⟩ := Y
  rw [hname] at hmg
  obtain ⟨fb, hfun⟩ := obsX_ok ob
  have nl : noLst K = true := by
    unfold factsB at fb
    simp only [Bool.and_eq_true] at fb
    exact fb.2.2.2.2.2.2.2.2.2.2.2.2.2.2.2.2.2.2.2.2.2
  -- the law's def
  have F0 := facts (p := p) (K := K) (U := ⟨l.prog, w, K, mg, h⟩) rfl ht ob obt X g
  have hfa : p.fa K lf = fa := by
    have z := (F0.gfn lf "law" hlf).1
    have z2 : mg ("law" : Str) = some (.ref (p.fa K lf)) := z
    rw [hmg] at z2
    cases z2; rfl
  have R0 := defR (p := p) (K := K) (U := ⟨l.prog, w, K, mg, h⟩) rfl ht ob hc
  obtain ⟨d0, hd0, hp0⟩ : ∃ d0, p.dfF lf = some d0 ∧ argNames d0.params = [("script" : Str)] := by
    split at hps
    · rename_i d0 e
      exact ⟨d0, e, of_decide_eq_true hps⟩
    · cases hps
  obtain ⟨fd, FD⟩ := hfun d0 (List.mem_append_left _ (df_mem hd0))
  obtain ⟨N1, hdB⟩ : ∃ N1, p.defB d0 c N1 = true := by
    unfold textB at ht
    simp only [Bool.and_eq_true] at ht
    obtain ⟨d1, N1, e1, e2⟩ := defsB_P ht.2.1 hc
    rw [hd0] at e1
    cases e1
    exact ⟨N1, e2⟩
  unfold defB at hdB
  simp only [Bool.and_eq_true, decide_eq_true_eq] at hdB
  obtain ⟨q1, q2, q3, q4, q5, q6, q7, q8⟩ := hdB
  have FP := fun_plain q1 q7 q8 FD
  have efa : He.fAd K d0.at_ = fa := by rw [← hfa]; unfold Pd.fa; rw [hd0]
  refine ⟨K, fd, fun vs H Q _ => spF (p.M K) p.G c.np (calF p.G p.P (N + 1) lf) vs H Q fun _ _ _ => False, X, fun s u => ?_, fun H a ns hl _ hS => lawQ (by omega) nl hS c.np hnp (plain ns hl), fun base X' g' => ?_⟩
  · have b := FunD.bindsA (ps := ["script"]) FP (fun kV doc pm an cdv ct us hl => by
      have e : (d0.params.args.map (·.arg)) = [("script" : Str)] := hp0
      have z := bind_plain (fd := PySem.W.fnOf d0.name d0.qual ⟨[], d0.params.args, none, [], [], none, []⟩ d0.body d0.scope .none kV doc pm an cdv ct) (as := d0.params.args) rfl rfl (by rw [e]; simp) (us := us) (by rw [e]; exact hl)
      rw [e] at z
      exact z)
    exact b s [u] rfl
  · have F1 := facts (p := p) (K := K) (U := ⟨l.prog, w, K, mg, base⟩) rfl ht ob obt X' g'
    have CO := calls_ok F1 (fun f cd hf => defR (p := p) (K := K) (U := ⟨l.prog, w, K, mg, base⟩) rfl ht ob hf) N
    have core := def_core (cd := c) (Nat.le_add_left 1 (2 * N)) F1 CO FP (C8.fnScope_by q2) q3 q4 q5 q6
    have e : (d0.params.args.map (·.arg)) = [("script" : Str)] := hp0
    rw [e, efa] at core
    refine (fn_calm core).imp fun vs H Q E ⟨S, ρ, ds, g, r, l, h⟩ => ⟨S, ρ, ds, g, r, l, ?_⟩
    rw [calF_succ hc l] at h
    exact h
end Pd
end DI
end

section
set_option Elab.async false
set_option linter.all false
set_option maxRecDepth 100000
/-! Bd: the bodies of the defs, as printed by gen3.py. -/
namespace DI
open PySem
/-- is_integer(value): 0=value -/
def b0 : CSs := (.cons (.ret (.andV (.isi (.var 0) [.int]) (.notT (.isi (.var 0) [.bool])))) .nil)
/-- is_integer_in(value, least, most): 0=value 1=least 2=most -/
def b1 : CSs := (.cons (.ret (.andV (.call 0 (.cons (.var 0) .nil)) (.chain .le .le (.var 1) (.var 0) (.var 2)))) .nil)
/-- is_tuple_of(value, size): 0=value 1=size -/
def b2 : CSs := (.cons (.ret (.andV (.isi (.var 0) [.tuple]) (.cmp .eq (.b1 .len (.var 0)) (.var 1)))) .nil)
/-- is_sign(value): 0=value -/
def b3 : CSs := (.cons (.ret (.call 1 (.cons (.var 0) (.cons (.neg (.cn (.int 1))) (.cons (.cn (.int 1)) .nil))))) .nil)
/-- are_rows(value): 0=value 1=many 2=row 3=sign -/
def b4 : CSs := (.cons (.ifS (.orV (.notT (.isi (.var 0) [.tuple])) (.orV (.notT (.chain .le .le (.cn (.int 1)) (.b1 .len (.var 0)) (.gint 0 4))) (.notT (.isi (.idx (.var 0) (.cn (.int 0))) [.tuple])))) (.cons (.ret (.cn (.bl false))) .nil) .nil) (.cons (.set 1 (.b1 .len (.idx (.var 0) (.cn (.int 0))))) (.cons (.ifS (.notT (.chain .le .le (.cn (.int 1)) (.var 1) (.gint 0 4))) (.cons (.ret (.cn (.bl false))) .nil) .nil) (.cons (.ret (.b1 .all_ (.lc (.one 2) (.e (.var 0)) false (.cn .non) (.andV (.call 2 (.cons (.var 2) (.cons (.var 1) .nil))) (.b1 .all_ (.lc (.one 3) (.e (.var 2)) false (.cn .non) (.call 3 (.cons (.var 3) .nil)))))))) .nil))))
/-- Game.__init__(self, rows): 0=self 1=rows -/
def b5 : CSs := (.cons (.ifS (.notT (.call 4 (.cons (.var 1) .nil))) (.cons (.raise 2 (.var 1)) .nil) .nil) (.cons (.setA (.var 0) 3 (.var 1)) (.cons (.setA (.var 0) 4 (.b1 .len (.var 1))) (.cons (.setA (.var 0) 5 (.b1 .len (.idx (.var 1) (.cn (.int 0))))) .nil))))
/-- Game.__eq__(self, other): 0=self 1=other -/
def b6 : CSs := (.cons (.ret (.andV (.isi (.var 1) [.own 13]) (.cmp .eq (.attr (.var 0) 3) (.attr (.var 1) 3)))) .nil)
/-- _law_box(script, k): 0=script 1=k 2=cell 3=great -/
def b7 : CSs := (.cons (.set 2 (.bin .add (.bin .mul (.cn (.int 7919)) (.var 1)) (.cn (.int 101)))) (.cons (.ifS (.cmp .lt (.var 1) (.b1 .len (.var 0))) (.cons (.set 2 (.b1 .abs (.idx (.var 0) (.var 1)))) .nil) (.cons (.ifS (.cmp .gt (.b1 .len (.var 0)) (.cn (.int 0))) (.cons (.set 2 (.bin .add (.bin .mul (.bin .mod (.b1 .int_ (.b1 .abs (.idx (.var 0) (.bin .mod (.b1 .int_ (.var 1)) (.b1 .len (.var 0)))))) (.cn (.int 1000000007))) (.cn (.int 31))) (.bin .mul (.cn (.int 7919)) (.var 1)))) .nil) .nil) .nil)) (.cons (.set 3 (.idx (.lst (.cons (.cn (.int 0)) (.cons (.var 2) .nil))) (.b1 .int_ (.cmp .ge (.var 2) (.bin .pow (.cn (.int 10)) (.cn (.int 18))))))) (.cons (.ret (.lst (.cons (.var 3) (.cons (.bin .add (.bin .mod (.b1 .int_ (.bin .add (.bin .mul (.bin .mod (.b1 .int_ (.var 2)) (.cn (.int 1000000007))) (.cn (.int 48271))) (.bin .mul (.cn (.int 613)) (.var 1)))) (.cn (.int 2147483647))) (.cn (.int 1))) .nil)))) .nil))))
/-- _law_take(box, many): 0=box 1=many 2=got -/
def b8 : CSs := (.cons (.ifS (.cmp .gt (.idx (.var 0) (.cn (.int 0))) (.cn (.int 0))) (.cons (.set 2 (.bin .mod (.b1 .int_ (.idx (.var 0) (.cn (.int 0)))) (.var 1))) (.cons (.setI (.var 0) (.cn (.int 0)) (.bin .fdiv (.idx (.var 0) (.cn (.int 0))) (.var 1))) (.cons (.ret (.var 2)) .nil))) .nil) (.cons (.setI (.var 0) (.cn (.int 1)) (.bin .mod (.b1 .int_ (.bin .add (.bin .mul (.idx (.var 0) (.cn (.int 1))) (.cn (.int 39373))) (.cn (.int 69621)))) (.cn (.int 2147483647)))) (.cons (.ret (.bin .mod (.b1 .int_ (.bin .fdiv (.idx (.var 0) (.cn (.int 1))) (.cn (.int 8191)))) (.var 1))) .nil)))
/-- _law_pick(box, some): 0=box 1=some -/
def b9 : CSs := (.cons (.ret (.idx (.var 1) (.call 8 (.cons (.var 0) (.cons (.b1 .len (.var 1)) .nil))))) .nil)
/-- _law_ones(v): 0=v 1=found -/
def b10 : CSs := (.cons (.set 1 (.lst (.cons (.mkE 1 (.var 0)) (.cons (.mkE 2 (.var 0)) (.cons (.mkE 3 (.var 0)) (.cons (.mkE 4 (.var 0)) (.cons (.mkE 5 (.var 0)) (.cons (.mkE 6 (.var 0)) .nil)))))))) (.cons (.ret (.bin .add (.var 1) (.lst (.cons (.mkE 7 (.var 0)) (.cons (.mkE 8 (.var 0)) (.cons (.mkE 9 (.var 0)) (.cons (.mkE 10 (.var 0)) .nil))))))) .nil))
/-- _law_kinds(e): 0=e 1=found -/
def b11 : CSs := (.cons (.set 1 (.lst (.cons (.isE (.var 0) 1) (.cons (.isE (.var 0) 2) (.cons (.isE (.var 0) 3) (.cons (.isE (.var 0) 4) .nil)))))) (.cons (.set 1 (.bin .add (.var 1) (.lst (.cons (.isE (.var 0) 5) (.cons (.isE (.var 0) 6) (.cons (.isE (.var 0) 7) .nil)))))) (.cons (.set 1 (.bin .add (.var 1) (.lst (.cons (.isE (.var 0) 8) (.cons (.isE (.var 0) 9) (.cons (.isE (.var 0) 10) .nil)))))) (.cons (.set 1 (.bin .add (.var 1) (.lst (.cons (.isE (.var 0) 11) (.cons (.isE (.var 0) 12) .nil))))) (.cons (.ret (.bin .add (.var 1) (.lst (.cons (.isE (.var 0) 0) (.cons (.isE (.var 0) 999) .nil))))) .nil)))))
/-- law(script): 0=script 1=box 2=some 3=v 4=errors 5=one 6=k 7=e 8=what 9=word 10=j -/
def b12 : CSs := (.cons (.set 1 (.call 7 (.cons (.var 0) (.cons (.cn (.int 0)) .nil)))) (.cons (.set 2 (.lst (.cons (.bin .sub (.call 8 (.cons (.var 1) (.cons (.bin .pow (.cn (.int 10)) (.cn (.int 6))) .nil))) (.cn (.int 500000))) (.cons (.bin .add (.cn (.str "text ")) (.b1 .str_ (.call 8 (.cons (.var 1) (.cons (.cn (.int 99)) .nil))))) (.cons (.tup (.cons (.cn (.int 1)) (.cons (.call 8 (.cons (.var 1) (.cons (.cn (.int 9)) .nil))) .nil))) .nil))))) (.cons (.set 2 (.bin .add (.var 2) (.lst (.cons (.lst (.cons (.call 8 (.cons (.var 1) (.cons (.cn (.int 9)) .nil))) .nil)) (.cons (.cn .non) (.cons (.cn (.bl true)) (.cons (.tup .nil) .nil))))))) (.cons (.set 3 (.call 9 (.cons (.var 1) (.cons (.var 2) .nil)))) (.cons (.set 4 (.call 10 (.cons (.var 3) .nil))) (.cons (.forS (.one 5) (.e (.var 4)) (.cons (.ifS (.cmp .ne (.xat (.var 5) 0) (.var 3)) (.cons (.ret (.cn (.bl false))) .nil) .nil) .nil)) (.cons (.par 8 9 (.mkE 11 (.var 3)) (.mkE 12 (.var 3))) (.cons (.ifS (.orV (.cmp .ne (.xat (.var 8) 1) (.var 3)) (.cmp .ne (.xat (.var 9) 2) (.var 3))) (.cons (.ret (.cn (.bl false))) .nil) .nil) (.cons (.set 4 (.bin .add (.var 4) (.lst (.cons (.var 8) (.cons (.var 9) .nil))))) (.cons (.forS (.one 6) (.rng1 (.b1 .len (.var 4))) (.cons (.ifS (.cmp .ne (.call 11 (.cons (.idx (.var 4) (.var 6)) .nil)) (.lc (.one 10) (.rng1 (.bin .add (.b1 .len (.var 4)) (.cn (.int 2)))) false (.cn .non) (.orV (.cmp .eq (.var 10) (.var 6)) (.cmp .ge (.var 10) (.b1 .len (.var 4)))))) (.cons (.ret (.cn (.bl false))) .nil) .nil) .nil)) (.cons (.tryI (.cons (.ex (.mk 13 5 true (.cons (.tup .nil) .nil))) (.cons (.ret (.cn (.bl false))) .nil)) 0 2 0) .nil)))))))))))
/-- _law_whole(value): 0=value -/
def b13 : CSs := (.cons (.ret (.andV (.isi (.var 0) [.int]) (.notT (.isi (.var 0) [.bool])))) .nil)
/-- _law_is_due(told, due): 0=told 1=due -/
def b14 : CSs := (.cons (.ret (.ite (.var 1) (.cmp .is_ (.var 0) (.cn (.bl true))) (.cmp .is_ (.var 0) (.cn (.bl false))))) .nil)
/-- _law_rows(script, most): 0=script 1=most 2=box 3=n 4=m 5=how 6=signs 7=hidden 8=fair 9=rows 10=i 11=row 12=j 13=turn 14=at -/
def b16 : CSs := (.cons (.set 2 (.call 7 (.cons (.var 0) (.cons (.cn (.int 0)) .nil)))) (.cons (.set 3 (.call 9 (.cons (.var 2) (.cons (.lst (.cons (.var 1) (.cons (.var 1) (.cons (.var 1) (.cons (.bin .sub (.var 1) (.cn (.int 1))) (.cons (.b2 .max (.cn (.int 1)) (.bin .sub (.var 1) (.cn (.int 2)))) (.cons (.b2 .max (.cn (.int 1)) (.bin .sub (.var 1) (.cn (.int 3)))) (.cons (.cn (.int 1)) .nil)))))))) .nil)))) (.cons (.set 4 (.call 9 (.cons (.var 2) (.cons (.lst (.cons (.var 1) (.cons (.var 1) (.cons (.var 1) (.cons (.bin .sub (.var 1) (.cn (.int 1))) (.cons (.b2 .max (.cn (.int 1)) (.bin .sub (.var 1) (.cn (.int 2)))) (.cons (.b2 .max (.cn (.int 1)) (.bin .sub (.var 1) (.cn (.int 3)))) (.cons (.cn (.int 1)) .nil)))))))) .nil)))) (.cons (.set 5 (.call 8 (.cons (.var 2) (.cons (.cn (.int 4)) .nil)))) (.cons (.set 6 (.idx (.lst (.cons (.lst (.cons (.cn (.int 1)) (.cons (.neg (.cn (.int 1))) .nil))) (.cons (.lst (.cons (.cn (.int 1)) (.cons (.cn (.int 1)) (.cons (.neg (.cn (.int 1))) .nil)))) (.cons (.lst (.cons (.cn (.int 1)) (.cons (.cn (.int 0)) (.cons (.neg (.cn (.int 1))) .nil)))) (.cons (.lst (.cons (.cn (.int 1)) (.cons (.cn (.int 1)) (.cons (.cn (.int 1)) (.cons (.cn (.int 0)) (.cons (.neg (.cn (.int 1))) .nil)))))) .nil))))) (.var 5))) (.cons (.set 7 (.lc (.one 12) (.rng1 (.var 4)) false (.cn .non) (.bin .add (.cn (.int 1)) (.call 8 (.cons (.var 2) (.cons (.cn (.int 4)) .nil)))))) (.cons (.set 8 (.cmp .gt (.call 8 (.cons (.var 2) (.cons (.cn (.int 3)) .nil))) (.cn (.int 0)))) (.cons (.set 9 (.lst .nil)) (.cons (.forS (.one 10) (.rng1 (.var 3)) (.cons (.set 11 (.lc (.one 12) (.rng1 (.var 4)) false (.cn .non) (.call 9 (.cons (.var 2) (.cons (.var 6) .nil))))) (.cons (.ifS (.andV (.var 8) (.cmp .gt (.var 4) (.cn (.int 1)))) (.cons (.setI (.var 11) (.bin .mod (.b1 .int_ (.var 10)) (.var 4)) (.bin .add (.neg (.cn (.int 1))) (.b1 .int_ (.cmp .eq (.var 5) (.cn (.int 2)))))) (.cons (.forS (.one 13) (.rng1 (.cn (.int 6))) (.cons (.set 14 (.call 8 (.cons (.var 2) (.cons (.var 4) .nil)))) (.cons (.ifS (.andV (.cmp .lt (.b1 .sum (.lc (.one 12) (.rng1 (.var 4)) false (.cn .non) (.bin .mul (.idx (.var 11) (.var 12)) (.idx (.var 7) (.var 12))))) (.cn (.int 1))) (.cmp .ne (.var 14) (.bin .mod (.b1 .int_ (.var 10)) (.var 4)))) (.cons (.setI (.var 11) (.var 14) (.cn (.int 1))) .nil) .nil) .nil))) .nil)) .nil) (.cons (.ex (.bm .append (.var 9) (.cons (.b1 .tuple_ (.var 11)) .nil))) .nil)))) (.cons (.ret (.b1 .tuple_ (.var 9))) .nil))))))))))
/-- are_integers_in(value, least, most): 0=value 1=least 2=most 3=member -/
def b20 : CSs := (.cons (.ret (.andV (.isi (.var 0) [.tuple]) (.b1 .all_ (.lc (.one 3) (.e (.var 0)) false (.cn .non) (.call 1 (.cons (.var 3) (.cons (.var 1) (.cons (.var 2) .nil)))))))) .nil)
/-- ratio_of(top, bottom): 0=top 1=bottom 2=common -/
def b21 : CSs := (.cons (.set 2 (.b2 .gcd (.var 0) (.var 1))) (.cons (.ret (.tup (.cons (.bin .fdiv (.var 0) (.var 2)) (.cons (.bin .fdiv (.var 1) (.var 2)) .nil)))) .nil))
/-- are_counts(value, many): 0=value 1=many -/
def b22 : CSs := (.cons (.ret (.andV (.call 20 (.cons (.var 0) (.cons (.cn (.int 0)) (.cons (.gint 0 999999) .nil)))) (.andV (.cmp .eq (.b1 .len (.var 0)) (.var 1)) (.cmp .gt (.b1 .sum (.var 0)) (.cn (.int 0)))))) .nil)
/-- are_votes(game, value): 0=game 1=value -/
def b23 : CSs := (.cons (.ret (.call 22 (.cons (.var 1) (.cons (.attr (.var 0) 5) .nil)))) .nil)
/-- are_weights(game, value): 0=game 1=value -/
def b24 : CSs := (.cons (.ret (.call 22 (.cons (.var 1) (.cons (.attr (.var 0) 4) .nil)))) .nil)
/-- gains_of(game, votes): 0=game 1=votes 2=row 3=count 4=sign -/
def b25 : CSs := (.cons (.ret (.b1 .tuple_ (.lc (.one 2) (.e (.attr (.var 0) 3)) false (.cn .non) (.b1 .sum (.lc (.two 3 4) (.zip (.var 1) (.var 2)) false (.cn .non) (.bin .mul (.var 3) (.var 4))))))) .nil)
/-- edge_sums(game, weights): 0=game 1=weights 2=sums 3=rule 4=weight 5=row -/
def b26 : CSs := (.cons (.set 2 (.lst .nil)) (.cons (.forS (.one 3) (.rng1 (.attr (.var 0) 5)) (.cons (.ex (.bm .append (.var 2) (.cons (.b1 .sum (.lc (.two 4 5) (.zip (.var 1) (.attr (.var 0) 3)) false (.cn .non) (.bin .mul (.var 4) (.idx (.var 5) (.var 3))))) .nil))) .nil)) (.cons (.ret (.b1 .tupleI (.var 2))) .nil)))
/-- gains(game, votes): 0=game 1=votes -/
def b27 : CSs := (.cons (.ifS (.notT (.call 23 (.cons (.var 0) (.cons (.var 1) .nil)))) (.cons (.raise 4 (.var 1)) .nil) .nil) (.cons (.ret (.call 25 (.cons (.var 0) (.cons (.var 1) .nil)))) .nil))
/-- least_margin(game, votes): 0=game 1=votes -/
def b28 : CSs := (.cons (.ret (.call 21 (.cons (.b1 .min (.call 27 (.cons (.var 0) (.cons (.var 1) .nil)))) (.cons (.b1 .sum (.var 1)) .nil)))) .nil)
/-- greatest_edge(game, weights): 0=game 1=weights -/
def b29 : CSs := (.cons (.ifS (.notT (.call 24 (.cons (.var 0) (.cons (.var 1) .nil)))) (.cons (.raise 5 (.var 1)) .nil) .nil) (.cons (.ret (.call 21 (.cons (.b1 .max (.call 26 (.cons (.var 0) (.cons (.var 1) .nil)))) (.cons (.b1 .sum (.var 1)) .nil)))) .nil))
/-- _law_is_numbers(value, many): 0=value 1=many 2=one -/
def b30 : CSs := (.cons (.ifS (.notT (.isi (.var 0) [.tuple])) (.cons (.ret (.cn (.bl false))) .nil) .nil) (.cons (.ret (.cmp .eq (.lc (.one 2) (.e (.var 0)) true (.orV (.notT (.call 13 (.cons (.var 2) .nil))) (.orV (.cmp .lt (.var 2) (.cn (.int 0))) (.cmp .ge (.var 2) (.var 1)))) (.var 2)) (.lst .nil))) .nil))
/-- _law_gcd(a, b): 0=a 1=b 2=turn -/
def b31 : CSs := (.cons (.forS (.one 2) (.rng1 (.cn (.int 9999))) (.cons (.ifS (.cmp .eq (.var 1) (.cn (.int 0))) (.cons (.ret (.var 0)) .nil) .nil) (.cons (.par 0 1 (.var 1) (.bin .mod (.b1 .int_ (.var 0)) (.var 1))) .nil))) (.cons (.ret (.cn (.int 1))) .nil))
/-- _law_gains(rows, votes): 0=rows 1=votes 2=row 3=j -/
def b32 : CSs := (.cons (.ret (.lc (.one 2) (.e (.var 0)) false (.cn .non) (.b1 .sum (.lc (.one 3) (.rng1 (.b1 .len (.var 1))) false (.cn .non) (.bin .mul (.idx (.var 1) (.var 3)) (.idx (.var 2) (.var 3))))))) .nil)
/-- _law_ratio(a, b): 0=a 1=b 2=g -/
def b33 : CSs := (.cons (.set 2 (.call 31 (.cons (.b1 .abs (.var 0)) (.cons (.var 1) .nil)))) (.cons (.ret (.tup (.cons (.bin .fdiv (.var 0) (.var 2)) (.cons (.bin .fdiv (.var 1) (.var 2)) .nil)))) .nil))
/-- _law_margin(rows, votes): 0=rows 1=votes -/
def b34 : CSs := (.cons (.ret (.call 33 (.cons (.b1 .min (.call 32 (.cons (.var 0) (.cons (.var 1) .nil)))) (.cons (.b1 .sum (.var 1)) .nil)))) .nil)
/-- _law_edges(rows, weights): 0=rows 1=weights 2=j 3=i -/
def b35 : CSs := (.cons (.ret (.lc (.one 2) (.rng1 (.b1 .len (.idx (.var 0) (.cn (.int 0))))) false (.cn .non) (.b1 .sum (.lc (.one 3) (.rng1 (.b1 .len (.var 0))) false (.cn .non) (.bin .mul (.idx (.var 1) (.var 3)) (.idx (.idx (.var 0) (.var 3)) (.var 2))))))) .nil)
/-- _law_edge(rows, weights): 0=rows 1=weights -/
def b36 : CSs := (.cons (.ret (.call 33 (.cons (.b1 .max (.call 35 (.cons (.var 0) (.cons (.var 1) .nil)))) (.cons (.b1 .sum (.var 1)) .nil)))) .nil)
/-- _law_less(one, other): 0=one 1=other -/
def b37 : CSs := (.cons (.ret (.cmp .lt (.bin .mul (.idx (.var 0) (.cn (.int 0))) (.idx (.var 1) (.cn (.int 1)))) (.bin .mul (.idx (.var 1) (.cn (.int 0))) (.idx (.var 0) (.cn (.int 1)))))) .nil)
/-- _law_are_counts(value, many): 0=value 1=many 2=one -/
def b38 : CSs := (.cons (.ret (.andV (.call 30 (.cons (.var 0) (.cons (.cn (.int 1000000)) .nil))) (.andV (.cmp .eq (.b1 .len (.var 0)) (.var 1)) (.cmp .ne (.lc (.one 2) (.e (.var 0)) true (.cmp .ne (.var 2) (.cn (.int 0))) (.var 2)) (.lst .nil))))) .nil)
def cdL0 : List (Option CDef) := [
  some ⟨1, 1, b0⟩,
  some ⟨3, 3, b1⟩,
  some ⟨2, 2, b2⟩,
  some ⟨1, 1, b3⟩,
  some ⟨1, 4, b4⟩,
  some ⟨2, 2, b5⟩,
  some ⟨2, 2, b6⟩,
  some ⟨2, 4, b7⟩,
  some ⟨2, 3, b8⟩,
  some ⟨2, 2, b9⟩,
  some ⟨1, 2, b10⟩,
  some ⟨1, 2, b11⟩,
  some ⟨1, 11, b12⟩,
  some ⟨1, 1, b13⟩,
  some ⟨2, 2, b14⟩,
  none,
  some ⟨2, 15, b16⟩,
  none,
  none,
  none]
def cdL1 : List (Option CDef) := [
  some ⟨3, 4, b20⟩,
  some ⟨2, 3, b21⟩,
  some ⟨2, 2, b22⟩,
  some ⟨2, 2, b23⟩,
  some ⟨2, 2, b24⟩,
  some ⟨2, 5, b25⟩,
  some ⟨2, 6, b26⟩,
  some ⟨2, 2, b27⟩,
  some ⟨2, 2, b28⟩,
  some ⟨2, 2, b29⟩,
  some ⟨2, 3, b30⟩,
  some ⟨2, 3, b31⟩,
  some ⟨2, 4, b32⟩,
  some ⟨2, 3, b33⟩,
  some ⟨2, 2, b34⟩,
  some ⟨2, 4, b35⟩,
  some ⟨2, 2, b36⟩,
  some ⟨2, 2, b37⟩,
  some ⟨2, 3, b38⟩,
  none]
def cdL2 : List (Option CDef) := [
  none,
  none,
  none,
  none,
  none,
  none,
  none,
  none,
  none,
  none,
  none,
  none,
  none,
  none,
  none,
  none,
  none,
  none,
  none,
  none]
def cdL3 : List (Option CDef) := [
  none,
  none,
  none,
  none,
  none,
  none,
  none,
  none,
  none,
  none,
  none,
  none,
  none,
  none,
  none,
  none,
  none,
  none,
  none,
  none]
def cdL4 : List (Option CDef) := [
  none,
  none,
  none,
  none,
  none,
  none,
  none,
  none,
  none,
  none,
  none,
  none,
  none,
  none,
  none,
  none,
  none,
  none,
  none,
  none]
def cdL5 : List (Option CDef) := [
  none,
  none,
  none,
  none,
  none,
  none,
  none,
  none,
  none,
  none,
  none,
  none,
  none,
  none,
  none,
  none,
  none,
  none,
  none,
  none]
def cdL6 : List (Option CDef) := [
  none,
  none,
  none,
  none,
  none,
  none,
  none,
  none,
  none,
  none,
  none,
  none,
  none,
  none,
  none,
  none,
  none,
  none,
  none,
  none]
def cdL7 : List (Option CDef) := [
  none,
  none,
  none,
  none,
  none,
  none,
  none,
  none,
  none,
  none,
  none,
  none,
  none,
  none,
  none,
  none,
  none,
  none,
  none,
  none]
def cdL8 : List (Option CDef) := [
  none,
  none,
  none,
  none,
  none,
  none,
  none,
  none,
  none,
  none,
  none,
  none,
  none,
  none,
  none,
  none,
  none,
  none,
  none,
  none]
def cdL9 : List (Option CDef) := [
  none,
  none,
  none,
  none,
  none,
  none,
  none,
  none,
  none,
  none,
  none,
  none,
  none,
  none,
  none,
  none,
  none,
  none,
  none,
  none]
def cdL10 : List (Option CDef) := [
  none,
  none,
  none,
  none,
  none,
  none,
  none,
  none,
  none,
  none,
  none,
  none,
  none]
def cdL : List (Option CDef) := cdL0 ++ cdL1 ++ cdL2 ++ cdL3 ++ cdL4 ++ cdL5 ++ cdL6 ++ cdL7 ++ cdL8 ++ cdL9 ++ cdL10
def cdG (i : Nat) : Option CDef := cdL.getD i none
end DI
end

section
set_option Elab.async false
set_option linter.all false
set_option maxRecDepth 100000
set_option maxHeartbeats 0
namespace Pk01
open PySem PySem.Spec PyProof.Rows L2 DI
def sT (i : Nat) : Stmt := PySem.Challenge.pw_votemargins_k01_errors.main.body.getD i (.Pass ⟨0, 0, 0, 0⟩)
def dD (at_ : Str × Option Str) (nm q : Str) (s : Stmt) : He.DefD := ⟨at_, nm, q, defArgs s, defBody s, defScope s, [], []⟩
def nms0 : List (List Str) := [
  ["value"],
  ["value", "least", "most"],
  ["value", "size"],
  ["value"],
  ["value", "many", "row", "sign"],
  ["self", "rows"],
  ["self", "other"],
  ["script", "k", "cell", "great"],
  ["box", "many", "got"],
  ["box", "some"],
  ["v", "found"],
  ["e", "found"]]
def nms1 : List (List Str) := [
  ["script", "box", "some", "v", "errors", "one", "k", "e", "what", "word", "j"]]
def dfs0 : List He.DefD := [
  dD ("is_integer", none) "is_integer" "is_integer" (sT 15),
  dD ("is_integer_in", none) "is_integer_in" "is_integer_in" (sT 16),
  dD ("is_tuple_of", none) "is_tuple_of" "is_tuple_of" (sT 17),
  dD ("is_sign", none) "is_sign" "is_sign" (sT 18),
  dD ("are_rows", none) "are_rows" "are_rows" (sT 21),
  dD ("Game", some "__init__") "__init__" "Game.__init__" (inClass (sT 22) 0),
  dD ("Game", some "__eq__") "__eq__" "Game.__eq__" (inClass (sT 22) 1),
  dD ("_law_box", none) "_law_box" "_law_box" (sT 24),
  dD ("_law_take", none) "_law_take" "_law_take" (sT 25),
  dD ("_law_pick", none) "_law_pick" "_law_pick" (sT 26),
  dD ("_law_ones", none) "_law_ones" "_law_ones" (sT 27),
  dD ("_law_kinds", none) "_law_kinds" "_law_kinds" (sT 28)]
def dfs1 : List He.DefD := [
  dD ("law", none) "law" "law" (sT 29)]
def xds0 : List He.DefD := [
  dD ("InvalidNumber", some "__init__") "__init__" "InvalidNumber.__init__" (inClass (sT 2) 0),
  dD ("InvalidRows", some "__init__") "__init__" "InvalidRows.__init__" (inClass (sT 3) 0),
  dD ("InvalidRow", some "__init__") "__init__" "InvalidRow.__init__" (inClass (sT 4) 0),
  dD ("InvalidVotes", some "__init__") "__init__" "InvalidVotes.__init__" (inClass (sT 5) 0),
  dD ("InvalidWeights", some "__init__") "__init__" "InvalidWeights.__init__" (inClass (sT 6) 0),
  dD ("InvalidRatio", some "__init__") "__init__" "InvalidRatio.__init__" (inClass (sT 7) 0),
  dD ("InvalidRules", some "__init__") "__init__" "InvalidRules.__init__" (inClass (sT 8) 0),
  dD ("InvalidKind", some "__init__") "__init__" "InvalidKind.__init__" (inClass (sT 9) 0),
  dD ("InvalidQuestion", some "__init__") "__init__" "InvalidQuestion.__init__" (inClass (sT 10) 0),
  dD ("InvalidClaim", some "__init__") "__init__" "InvalidClaim.__init__" (inClass (sT 11) 0),
  dD ("Undefined", some "__init__") "__init__" "Undefined.__init__" (inClass (sT 12) 0),
  dD ("NothingToUndo", some "__init__") "__init__" "NothingToUndo.__init__" (inClass (sT 13) 0)]
def pd : Pd where
  an := ["value", "what", "word", "rows", "examples", "rules", "tops", "known", "game", "watched", "many", "_claims", "_papers", "_report", "_done", "_undone"]
  cn := ["VoteError", "InvalidNumber", "InvalidRows", "InvalidRow", "InvalidVotes", "InvalidWeights", "InvalidRatio", "InvalidRules", "InvalidKind", "InvalidQuestion", "InvalidClaim", "Undefined", "NothingToUndo", "Game", "", ""]
  flds := [[], [], [], [], [], [], [], [], [], [], [], [], [], [3, 4, 5], [], []]
  own := [13]
  exc := [(1, 0), (2, 0), (3, 0), (4, 0), (5, 0), (6, 0), (7, 0), (8, 0), (9, 0), (10, 0), (11, 1), (12, 2)]
  hcl := [0]
  sub := [(1, 0), (2, 0), (3, 0), (4, 0), (5, 0), (6, 0), (7, 0), (8, 0), (9, 0), (10, 0), (11, 0), (12, 0)]
  ids := [0, 1, 2, 3, 4, 5, 6, 7, 8, 9, 10, 11, 12]
  cdg := cdG
  tabs := []
  df := dfs0 ++ dfs1
  nm := nms0 ++ nms1
  xd := xds0
  mks := [(13, 5)]
  mt := []
  eq := []
  gint := [("MOST", 4)]
  blt := ["ValueError", "abs", "all", "bool", "int", "isinstance", "len", "range", "str", "tuple"]
  gcd := false
  peq := []
  neq := []
  icl := [0, 1, 2, 3, 4, 5, 6, 7, 8, 9, 10, 11, 12, 999]
  isb := [(1, 0), (1, 1), (1, 999), (2, 0), (2, 2), (2, 999), (3, 0), (3, 3), (3, 999), (4, 0), (4, 4), (4, 999), (5, 0), (5, 5), (5, 999), (6, 0), (6, 6), (6, 999), (7, 0), (7, 7), (7, 999), (8, 0), (8, 8), (8, 999), (9, 0), (9, 9), (9, 999), (10, 0), (10, 10), (10, 999), (11, 0), (11, 11), (11, 999), (12, 0), (12, 12), (12, 999)]
def loose0 : List PySem.Str := [
  "VoteError",
  "InvalidNumber",
  "InvalidRows",
  "InvalidRow",
  "InvalidVotes",
  "InvalidWeights",
  "InvalidRatio",
  "InvalidRules",
  "InvalidKind",
  "InvalidQuestion",
  "InvalidClaim",
  "Undefined",
  "NothingToUndo",
  "is_integer",
  "is_integer_in"]
def loose1 : List PySem.Str := [
  "is_tuple_of",
  "is_sign",
  "are_rows",
  "Game",
  "_law_box",
  "_law_take",
  "_law_pick",
  "_law_ones",
  "_law_kinds",
  "MOST"]
def names : List PySem.Str := loose0 ++ loose1
abbrev R : PySem.W.OpenRow := PySem.W.OpenLaw.row PySem.Challenge.rw_votemargins_k01_errors
theorem text : pd.textB = true := by kernel_rfl
theorem run (w : World) : HandSHeadRun.RunEq R (PySem.W.view R.prog [29]) pd.hk pd.ob 20000 names w := by
  intro os
  kernel_rfl
end Pk01
end

section
set_option Elab.async false
set_option linter.all false
set_option maxRecDepth 100000
/-! DIRun: the small language by steps, for simp. -/
namespace DI
open PySem Classical
@[simp] theorem SRes.fin_nx (σ : Env) (S : Store) : (SRes.nx σ S).fin = .ok .non S := rfl
@[simp] theorem SRes.fin_rt (d : D) (S : Store) : (SRes.rt d S).fin = .ok d S := rfl
@[simp] theorem SRes.fin_ex (c : Nat) (d : D) (S : Store) : (SRes.ex c d S).fin = .exc c d S := rfl
section
variable (G : Gx) (cal : Nat → List D → Store → Res D) (σ : Env) (S : Store)
@[simp] theorem ev_s0 {i} : ev G cal (.var i : CE) σ S = match σ[i]? with
      | some (some d) => .ok (.val d) S
      | _ => .bad := by
  (conv => lhs; unfold ev) <;> rfl
@[simp] theorem ev_s1 {d} : ev G cal (.cn d : CE) σ S = .ok (.val d) S := by
  (conv => lhs; unfold ev) <;> rfl
@[simp] theorem ev_s2 {u1} {i} : ev G cal (.gint u1 i : CE) σ S = .ok (.val (.int i)) S := by
  (conv => lhs; unfold ev) <;> rfl
@[simp] theorem ev_s3 {o} {a} {b} : ev G cal (.bin o a b : CE) σ S = (ev G cal a σ S).bind fun p S1 => (ev G cal b σ S1).bind fun q S2 => lift (binD o S2 p q) S2 := by
  (conv => lhs; unfold ev) <;> rfl
@[simp] theorem ev_s4 {a} : ev G cal (.neg a : CE) σ S = (ev G cal a σ S).bind fun p S1 => match p with
      | .val (.int i) => .ok (.val (.int (-i))) S1
      | _ => .bad := by
  (conv => lhs; unfold ev) <;> rfl
@[simp] theorem ev_s5 {a} : ev G cal (.notT a : CE) σ S = (ev G cal a σ S).bind fun p S1 => (lift (truthQ S1 p) S1).bind fun k S2 => .ok (.val (.bl (!k))) S2 := by
  (conv => lhs; unfold ev) <;> rfl
@[simp] theorem ev_s6 {a} {b} : ev G cal (.andV a b : CE) σ S = (ev G cal a σ S).bind fun p S1 => (lift (truthQ S1 p) S1).bind fun k S2 => if k = true then ev G cal b σ S2 else .ok p S2 := by
  (conv => lhs; unfold ev) <;> rfl
@[simp] theorem ev_s7 {a} {b} : ev G cal (.orV a b : CE) σ S = (ev G cal a σ S).bind fun p S1 => (lift (truthQ S1 p) S1).bind fun k S2 => if k = true then .ok p S2 else ev G cal b σ S2 := by
  (conv => lhs; unfold ev) <;> rfl
@[simp] theorem ev_s8 {o} {a} {b} : ev G cal (.cmp o a b : CE) σ S = (ev G cal a σ S).bind fun p S1 => (ev G cal b σ S1).bind fun q S2 => (lift (cmpD o S2 p q) S2).bind fun k S3 => .ok (.val (.bl k)) S3 := by
  (conv => lhs; unfold ev) <;> rfl
@[simp] theorem ev_s9 {c} {f} {a} {b} : ev G cal (.eqo c f a b : CE) σ S = (ev G cal a σ S).bind fun p S1 => (ev G cal b σ S1).bind fun q S2 => match p, q with
      | .val d, .val e => if clsD S2 d = some c ∧ (isTupD e = true ∨ clsD S2 e = some c) then (cal f [d, e] S2).bind fun r S4 => match r with
        | .bl k => .ok (.val (.bl k)) S4
        | _ => .bad
        else .bad
      | _, _ => .bad := by
  (conv => lhs; unfold ev) <;> rfl
@[simp] theorem ev_s10 {o} {o2} {a} {b} {c} : ev G cal (.chain o o2 a b c : CE) σ S = (ev G cal a σ S).bind fun p S1 => (ev G cal b σ S1).bind fun q S2 => (lift (cmpD o S2 p q) S2).bind fun k S3 =>
        if k = true then (ev G cal c σ S3).bind fun r S4 => (lift (cmpD o2 S4 q r) S4).bind fun k2 S5 => .ok (.val (.bl k2)) S5 else .ok (.val (.bl false)) S3 := by
  (conv => lhs; unfold ev) <;> rfl
@[simp] theorem ev_s11 {t} {a} {b} : ev G cal (.ite t a b : CE) σ S = (ev G cal t σ S).bind fun p S1 => (lift (truthQ S1 p) S1).bind fun k S2 => if k = true then ev G cal a σ S2 else ev G cal b σ S2 := by
  (conv => lhs; unfold ev) <;> rfl
@[simp] theorem ev_s12 {es} : ev G cal (.tup es : CE) σ S = (evs G cal es σ S).bind fun ds S1 => if ds.length ≤ sizeLine then .ok (.val (.tup ds)) S1 else .bad := by
  (conv => lhs; unfold ev) <;> rfl
@[simp] theorem ev_s13 {es} : ev G cal (.lst es : CE) σ S = (evs G cal es σ S).bind fun ds S1 => if ds.length ≤ sizeLine then .ok (.fresh ds) S1 else .bad := by
  (conv => lhs; unfold ev) <;> rfl
@[simp] theorem ev_s14 {a} {i} : ev G cal (.idx a i : CE) σ S = (ev G cal a σ S).bind fun p S1 => (ev G cal i σ S1).bind fun q S2 => match q with
      | .val (.int k) => lift (idxD S2 p k) S2
      | _ => .bad := by
  (conv => lhs; unfold ev) <;> rfl
@[simp] theorem ev_s15 {a} {u1} {u2} : ev G cal (.slc .no a u1 u2 : CE) σ S = (ev G cal a σ S).bind fun p S1 => lift (cutD S1 p none none) S1 := by
  (conv => lhs; unfold ev) <;> rfl
@[simp] theorem ev_s16 {a} {u1} {h} : ev G cal (.slc .hi a u1 h : CE) σ S = (ev G cal a σ S).bind fun p S1 => (ev G cal h σ S1).bind fun q S2 => match q with
      | .val (.int k) => lift (cutD S2 p none (some k)) S2
      | _ => .bad := by
  (conv => lhs; unfold ev) <;> rfl
@[simp] theorem ev_s17 {a} {l} {u1} : ev G cal (.slc .lo a l u1 : CE) σ S = (ev G cal a σ S).bind fun p S1 => (ev G cal l σ S1).bind fun q S2 => match q with
      | .val (.int k) => lift (cutD S2 p (some k) none) S2
      | _ => .bad := by
  (conv => lhs; unfold ev) <;> rfl
@[simp] theorem ev_s18 {a} {l} {h} : ev G cal (.slc .both a l h : CE) σ S = (ev G cal a σ S).bind fun p S1 => (ev G cal l σ S1).bind fun q S2 => match q with
      | .val (.int k) => (ev G cal h σ S2).bind fun r S3 => match r with
        | .val (.int m) => lift (cutD S3 p (some k) (some m)) S3
        | _ => .bad
      | _ => .bad := by
  (conv => lhs; unfold ev) <;> rfl
@[simp] theorem ev_s19 {a} : ev G cal (.rev a : CE) σ S = (ev G cal a σ S).bind fun p S1 => lift (revD S1 p) S1 := by
  (conv => lhs; unfold ev) <;> rfl
@[simp] theorem ev_s20 {a} {f} : ev G cal (.attr a f : CE) σ S = (ev G cal a σ S).bind fun p S1 => match p with
      | .val d => (lift (attrD G S1 d f) S1).bind fun x S2 => .ok (.val x) S2
      | _ => .bad := by
  (conv => lhs; unfold ev) <;> rfl
@[simp] theorem ev_s21 {f} {es} : ev G cal (.call f es : CE) σ S = (evs G cal es σ S).bind fun ds S1 => (cal f ds S1).bind fun r S2 => .ok (.val r) S2 := by
  (conv => lhs; unfold ev) <;> rfl
@[simp] theorem ev_s22 {c} {f} {imm} {es} : ev G cal (.mk c f imm es : CE) σ S = (evs G cal es σ S).bind fun ds S1 => (cal f (.loc S1.length :: ds) (S1 ++ [.ins c []])).bind fun r S2 => match r, S2[S1.length]? with
      | .non, some (.ins k fs) => if imm = true then .ok (.val (.obj k fs)) (S2.set S1.length .dead) else .ok (.val (.loc S1.length)) S2
      | _, _ => .bad := by
  (conv => lhs; unfold ev) <;> rfl
@[simp] theorem ev_s23 {a} {c} {f} {es} : ev G cal (.meth a c f es : CE) σ S = (ev G cal a σ S).bind fun p S1 => match p with
      | .val d => if clsD S1 d = some c then (evs G cal es σ S1).bind fun ds S2 => (cal f (d :: ds) S2).bind fun r S3 => .ok (.val r) S3 else .bad
      | _ => .bad := by
  (conv => lhs; unfold ev) <;> rfl
@[simp] theorem ev_s24 {b} {a} : ev G cal (.b1 b a : CE) σ S = (ev G cal a σ S).bind fun p S1 => lift (b1D b S1 p) S1 := by
  (conv => lhs; unfold ev) <;> rfl
@[simp] theorem ev_s25 {b} {a} {c} : ev G cal (.b2 b a c : CE) σ S = (ev G cal a σ S).bind fun p S1 => (ev G cal c σ S1).bind fun q S2 => lift (b2D b p q) S2 := by
  (conv => lhs; unfold ev) <;> rfl
@[simp] theorem ev_s26 {m} {a} {es} : ev G cal (.bm m a es : CE) σ S = (ev G cal a σ S).bind fun p S1 => match m with
      | .index => match lstOf S1 p with
        | none => .bad
        | some _ => (evs G cal es σ S1).bind fun ds S2 => match (lstOf S2 p).bind intsOf, ds with
          | some ns, [.int k] => if k ∈ ns then .ok (.val (.int (ns.idxOf k : Nat))) S2 else .bad
          | _, _ => .bad
      | .tindex => match p with
        | .val (.tupI xs) => (evs G cal es σ S1).bind fun ds S2 => match intsOf xs, ds with
          | some ns, [.int k] => if k ∈ ns then .ok (.val (.int (ns.idxOf k : Nat))) S2 else .bad
          | _, _ => .bad
        | _ => .bad
      | .extend => match p with
        | .val (.loc n) => if isLst S1 n = true then (evq G cal es σ S1).bind fun q S2 => match S2[n]?, ownOf S2 q with
          | some (.lst xs), some ys => if xs.length + ys.length ≤ sizeLine then .ok (.val .non) (S2.set n (.lst (xs ++ ys))) else .bad
          | _, _ => .bad
          else .bad
        | _ => .bad
      | m => match p with
        | .val (.loc n) => if isLst S1 n = true then (evs G cal es σ S1).bind fun ds S2 => match S2[n]? with
          | some (.lst xs) => bmD m S2 n xs ds
          | _ => .bad
          else .bad
        | _ => .bad := by
  (conv => lhs; unfold ev) <;> rfl
@[simp] theorem ev_s27 {a} {ts} : ev G cal (.isi a ts : CE) σ S = (ev G cal a σ S).bind fun p S1 => match kindOf G S1 p with
      | some k => .ok (.val (.bl (ts.any (isTy k)))) S1
      | none => .bad := by
  (conv => lhs; unfold ev) <;> rfl
@[simp] theorem ev_s28 {tg} {it} {hasIf} {c} {e} : ev G cal (.lc tg it hasIf c e : CE) σ S = (evIt G cal it σ S).bind fun w S1 => (lcLoop w.2 (fun x S2 => match bindTg tg x σ with
        | none => .bad
        | some σ2 => if hasIf = true then ((ev G cal c σ2 S2).bind fun p S3 => lift (truthQ S3 p) S3).bind fun k S4 => if k = true then (ev G cal e σ2 S4).bind fun q S5 => (mat q S5).bind fun d S6 => .ok (some d) S6 else .ok none S4
          else (ev G cal e σ2 S2).bind fun q S5 => (mat q S5).bind fun d S6 => .ok (some d) S6) w.1 [] S1).bind fun ys S3 => .ok (.fresh ys) S3 := by
  (conv => lhs; unfold ev) <;> rfl
@[simp] theorem ev_s29 {ng} {x} {a} : ev G cal (.tin ng x a : CE) σ S = (ev G cal a σ S).bind fun p S1 => match p with
      | .val (.str s) => .ok (.val (.bl (ng != ((G.tab x).lookup s).isSome))) S1
      | _ => .bad := by
  (conv => lhs; unfold ev) <;> rfl
@[simp] theorem ev_s30 {x} {a} : ev G cal (.tget x a : CE) σ S = (ev G cal a σ S).bind fun p S1 => match p with
      | .val (.str s) => (lift ((G.tab x).lookup s) S1).bind fun d S2 => .ok (.val d) S2
      | _ => .bad := by
  (conv => lhs; unfold ev) <;> rfl
@[simp] theorem ev_s31 {x} : ev G cal (.tkeys x : CE) σ S = if (G.tab x).length ≤ sizeLine then .ok (.fresh ((G.tab x).map fun p => .str p.1)) S else .bad := by
  (conv => lhs; unfold ev) <;> rfl
@[simp] theorem ev_s32 {a} : ev G cal (.lrng a : CE) σ S = (ev G cal a σ S).bind fun p S1 => match p with
      | .val (.int j) => if okR j ∧ j.toNat ≤ sizeLine then .ok (.fresh (rngL 0 j.toNat)) S1 else .bad
      | _ => .bad := by
  (conv => lhs; unfold ev) <;> rfl
@[simp] theorem ev_s33 {c} {a} {b} : ev G cal (.eqi c a b : CE) σ S = (ev G cal a σ S).bind fun p S1 => (ev G cal b σ S1).bind fun q S2 => match p, q with
      | .val (.loc i), .val (.loc j) => if clsD S2 (.loc i) = some c ∧ clsD S2 (.loc j) = some c then .ok (.val (.bl (decide (i = j)))) S2 else .bad
      | _, _ => .bad := by
  (conv => lhs; unfold ev) <;> rfl
@[simp] theorem ev_s34 {c} {f} {a} {b} : ev G cal (.neo c f a b : CE) σ S = (ev G cal a σ S).bind fun p S1 => (ev G cal b σ S1).bind fun q S2 => match p, q with
      | .val d, .val e => if clsD S2 d = some c ∧ clsD S2 e = some c then (cal f [d, e] S2).bind fun r S4 => match r with
        | .bl k => .ok (.val (.bl (!k))) S4
        | _ => .bad
        else .bad
      | _, _ => .bad := by
  (conv => lhs; unfold ev) <;> rfl
@[simp] theorem ev_s35 {c} {a} : ev G cal (.mkE c a : CE) σ S = (ev G cal a σ S).bind fun p S1 => (mat p S1).bind fun d S2 => if G.exc.contains c = true then .ok (.val (.err c (G.xattr c) d)) S2 else .bad := by
  (conv => lhs; unfold ev) <;> rfl
@[simp] theorem ev_s36 {a} {k} : ev G cal (.isE a k : CE) σ S = (ev G cal a σ S).bind fun p S1 => match p with
      | .val (.err c _ _) => if G.exc.contains c = true ∧ G.icl.contains k = true then .ok (.val (.bl (G.isub c k))) S1 else .bad
      | _ => .bad := by
  (conv => lhs; unfold ev) <;> rfl
@[simp] theorem ev_s37 {a} {f} : ev G cal (.xat a f : CE) σ S = (ev G cal a σ S).bind fun p S1 => match p with
      | .val (.err c g d) => if G.exc.contains c = true ∧ G.xattr c = f ∧ g = f then .ok (.val d) S1 else .bad
      | _ => .bad := by
  (conv => lhs; unfold ev) <;> rfl
@[simp] theorem evs_s0  : evs G cal (.nil : CEs) σ S = .ok [] S := by
  (conv => lhs; unfold evs) <;> rfl
@[simp] theorem evs_s1 {e} {es} : evs G cal (.cons e es : CEs) σ S = (ev G cal e σ S).bind fun q S1 => (mat q S1).bind fun d S2 => (evs G cal es σ S2).bind fun ds S3 => .ok (d :: ds) S3 := by
  (conv => lhs; unfold evs) <;> rfl
@[simp] theorem evs_s2 {e} {es} : evs G cal (.star e es : CEs) σ S = (ev G cal e σ S).bind fun q S1 => (lift (seqOf S1 q) S1).bind fun xs S2 => (evs G cal es σ S2).bind fun ds S3 => .ok (xs ++ ds) S3 := by
  (conv => lhs; unfold evs) <;> rfl
@[simp] theorem evIt_s0 {a} : evIt G cal (.e a : CIt) σ S = (ev G cal a σ S).bind fun p S1 => lift (walkOf S1 p) S1 := by
  (conv => lhs; unfold evIt) <;> rfl
@[simp] theorem evIt_s1 {a} : evIt G cal (.rng1 a : CIt) σ S = (ev G cal a σ S).bind fun p S1 => match p with
      | .val (.int j) => if okR j ∧ j.toNat ≤ sizeLine then .ok (rngL 0 j.toNat, []) S1 else .bad
      | _ => .bad := by
  (conv => lhs; unfold evIt) <;> rfl
@[simp] theorem evIt_s2 {a} {b} : evIt G cal (.rng2 a b : CIt) σ S = (ev G cal a σ S).bind fun p S1 => (ev G cal b σ S1).bind fun q S2 => match p, q with
      | .val (.int i), .val (.int j) => if okR i ∧ okR j ∧ (j - i).toNat ≤ sizeLine then .ok (rngL i (j - i).toNat, []) S2 else .bad
      | _, _ => .bad := by
  (conv => lhs; unfold evIt) <;> rfl
@[simp] theorem evIt_s3 {a} {b} {c} : evIt G cal (.rng3 a b c : CIt) σ S = (ev G cal a σ S).bind fun p S1 => (ev G cal b σ S1).bind fun q S2 => (ev G cal c σ S2).bind fun r S3 => match p, q, r with
      | .val (.int i), .val (.int j), .val (.int k) => if okR i ∧ okR j ∧ k = -1 ∧ (i - j).toNat ≤ sizeLine then .ok (rngC i (-1) (i - j).toNat, []) S3 else .bad
      | _, _, _ => .bad := by
  (conv => lhs; unfold evIt) <;> rfl
@[simp] theorem evIt_s4 {a} {b} : evIt G cal (.zip a b : CIt) σ S = (ev G cal a σ S).bind fun p S1 => (ev G cal b σ S1).bind fun q S2 => match walkOf S2 p, walkOf S2 q with
      | some (xs, g), some (ys, h) => .ok (zipD xs ys, g ++ h) S2
      | _, _ => .bad := by
  (conv => lhs; unfold evIt) <;> rfl
@[simp] theorem evIt_s5 {a} : evIt G cal (.enum a : CIt) σ S = (ev G cal a σ S).bind fun p S1 => (lift (walkOf S1 p) S1).bind fun w S2 => .ok (enumD 0 w.1, w.2) S2 := by
  (conv => lhs; unfold evIt) <;> rfl
@[simp] theorem exec_s0 {i} {e} : exec G cal (.set i e : CS) σ S = (ev G cal e σ S).st fun q S1 => (mat q S1).st fun d S2 => .nx (σ.set i (some d)) S2 := by
  (conv => lhs; unfold exec) <;> rfl
@[simp] theorem exec_s1 {ts} {e} : exec G cal (.setT ts e : CS) σ S = (ev G cal e σ S).st fun q S1 => match q with
      | .val (.tup ds) => match bindTgs ts ds σ with
        | some σ2 => .nx σ2 S1
        | none => .bad
      | _ => .bad := by
  (conv => lhs; unfold exec) <;> rfl
@[simp] theorem exec_s2 {i} {j} {a} {b} : exec G cal (.par i j a b : CS) σ S = (ev G cal a σ S).st fun q S1 => (mat q S1).st fun d S2 => (ev G cal b σ S2).st fun r S3 => (mat r S3).st fun e S4 => .nx ((σ.set i (some d)).set j (some e)) S4 := by
  (conv => lhs; unfold exec) <;> rfl
@[simp] theorem exec_s3 {o} {i} {e} : exec G cal (.setI o i e : CS) σ S = (ev G cal e σ S).st fun q S1 => (mat q S1).st fun d S2 => (ev G cal o σ S2).st fun p S3 => (ev G cal i σ S3).st fun r S4 => match p, r with
      | .val (.loc n), .val (.int k) => match S4[n]? with
        | some (.lst xs) => match L2.ixN xs.length k with
          | some j => .nx σ (S4.set n (.lst (xs.set j d)))
          | none => .bad
        | _ => .bad
      | _, _ => .bad := by
  (conv => lhs; unfold exec) <;> rfl
@[simp] theorem exec_s4 {o} {f} {e} : exec G cal (.setA o f e : CS) σ S = (ev G cal e σ S).st fun q S1 => (mat q S1).st fun d S2 => (ev G cal o σ S2).st fun p S3 => match p with
      | .val (.loc n) => match S3[n]? with
        | some (.ins c fs) => if (G.flds c).contains f = true ∧ fs.length < 100 then .nx σ (S3.set n (.ins c (putA f d fs))) else .bad
        | _ => .bad
      | _ => .bad := by
  (conv => lhs; unfold exec) <;> rfl
@[simp] theorem exec_s5 {i} {e} : exec G cal (.aug i e : CS) σ S = match σ[i]? with
      | some (some (.int k)) => (ev G cal e σ S).st fun q S1 => match q with
        | .val (.int m) => .nx (σ.set i (some (.int (k + m)))) S1
        | _ => .bad
      | _ => .bad := by
  (conv => lhs; unfold exec) <;> rfl
@[simp] theorem exec_s6 {e} : exec G cal (.ex e : CS) σ S = (ev G cal e σ S).st fun _ S1 => .nx σ S1 := by
  (conv => lhs; unfold exec) <;> rfl
@[simp] theorem exec_s7 {t} {a} {b} : exec G cal (.ifS t a b : CS) σ S = (ev G cal t σ S).st fun p S1 => (lift (truthQ S1 p) S1).st fun k S2 => if k = true then execs G cal a σ S2 else execs G cal b σ S2 := by
  (conv => lhs; unfold exec) <;> rfl
@[simp] theorem exec_s8 {tg} {it} {b} : exec G cal (.forS tg it b : CS) σ S = (evIt G cal it σ S).st fun w S1 => forLoop w.2 (fun x σ2 S2 => match bindTg tg x σ2 with
      | some σ3 => execs G cal b σ3 S2
      | none => .bad) w.1 σ S1 := by
  (conv => lhs; unfold exec) <;> rfl
@[simp] theorem exec_s9 {t} {b} : exec G cal (.whileS t b : CS) σ S = whileLoop (fun σ2 S2 => (ev G cal t σ2 S2).bind fun p S3 => lift (truthQ S3 p) S3) (fun σ2 S2 => execs G cal b σ2 S2) maxTurns σ S := by
  (conv => lhs; unfold exec) <;> rfl
@[simp] theorem exec_s10 {e} : exec G cal (.ret e : CS) σ S = (ev G cal e σ S).st fun q S1 => (mat q S1).st fun d S2 => .rt d S2 := by
  (conv => lhs; unfold exec) <;> rfl
@[simp] theorem exec_s11  : exec G cal (.retN : CS) σ S = .rt .non S := by
  (conv => lhs; unfold exec) <;> rfl
@[simp] theorem exec_s12  : exec G cal (.brk : CS) σ S = .bk σ S := by
  (conv => lhs; unfold exec) <;> rfl
@[simp] theorem exec_s13  : exec G cal (.cont : CS) σ S = .ct σ S := by
  (conv => lhs; unfold exec) <;> rfl
@[simp] theorem exec_s14  : exec G cal (.pass_ : CS) σ S = .nx σ S := by
  (conv => lhs; unfold exec) <;> rfl
@[simp] theorem exec_s15 {c} {e} : exec G cal (.raise c e : CS) σ S = (ev G cal e σ S).st fun q S1 => (mat q S1).st fun d S2 => .ex c d S2 := by
  (conv => lhs; unfold exec) <;> rfl
@[simp] theorem exec_s16 {b} {hs} : exec G cal (.tryS b hs : CS) σ S = match execs G cal b σ S with
      | .ex c d S1 => handle G c d S1 hs
      | r => r := by
  (conv => lhs; unfold exec) <;> rfl
@[simp] theorem exec_s17  : exec G cal (.bad_ : CS) σ S = .bad := by
  (conv => lhs; unfold exec) <;> rfl
@[simp] theorem exec_s18 {i} {j} {l} {a} {b} {c} : exec G cal (.par3 i j l a b c : CS) σ S = (ev G cal a σ S).st fun q S1 => (mat q S1).st fun d S2 => (ev G cal b σ S2).st fun r S3 => (mat r S3).st fun e S4 => (ev G cal c σ S4).st fun t S5 => (mat t S5).st fun f S6 => .nx (((σ.set i (some d)).set j (some e)).set l (some f)) S6 := by
  (conv => lhs; unfold exec) <;> rfl
@[simp] theorem exec_s19 {b} {h} {k} {f} : exec G cal (.tryI b h k f : CS) σ S = match execs G cal b σ S with
      | .ex c d S1 => handleI G c d S1 h k f
      | r => r := by
  (conv => lhs; unfold exec) <;> rfl
theorem execs_s0  : execs G cal (.nil : CSs) σ S = .nx σ S := by
  (conv => lhs; unfold execs) <;> rfl
theorem execs_s1 {s} {r} : execs G cal (.cons s r : CSs) σ S = (exec G cal s σ S).seq fun σ1 S1 => execs G cal r σ1 S1 := by
  (conv => lhs; unfold execs) <;> rfl
end
end DI
end

section
set_option Elab.async false
set_option linter.all false
set_option maxRecDepth 100000
/-! DILib: facts of data, for simp. -/
namespace DI
open PySem
section
variable (S : Store)
@[simp] theorem tq_bl (b : Bool) : truthQ S (.val (.bl b)) = some b := rfl
@[simp] theorem tq_int (i : Int) : truthQ S (.val (.int i)) = some (i != 0) := rfl
@[simp] theorem tq_non : truthQ S (.val .non) = some false := rfl
@[simp] theorem tq_tup (xs : List D) : truthQ S (.val (.tup xs)) = some (!xs.isEmpty) := rfl
@[simp] theorem tq_fresh (xs : List D) : truthQ S (.fresh xs) = some (!xs.isEmpty) := rfl
@[simp] theorem cd_lt (i j : Int) : cmpD .lt S (.val (.int i)) (.val (.int j)) = some (decide (i < j)) := rfl
@[simp] theorem cd_le (i j : Int) : cmpD .le S (.val (.int i)) (.val (.int j)) = some (decide (i ≤ j)) := rfl
@[simp] theorem cd_gt (i j : Int) : cmpD .gt S (.val (.int i)) (.val (.int j)) = some (decide (j < i)) := rfl
@[simp] theorem cd_ge (i j : Int) : cmpD .ge S (.val (.int i)) (.val (.int j)) = some (decide (j ≤ i)) := rfl
@[simp] theorem cd_is (a b : Bool) : cmpD .is_ S (.val (.bl a)) (.val (.bl b)) = some (decide (a = b)) := rfl
@[simp] theorem py_int (k : Nat) (i : Int) : pyOf k S (.int i) = some (.int i) := by cases k <;> rfl
@[simp] theorem py_bl (k : Nat) (b : Bool) : pyOf k S (.bl b) = some (.bool b) := by cases k <;> rfl
@[simp] theorem py_non (k : Nat) : pyOf k S .non = some .none := by cases k <;> rfl
theorem py_tup (k : Nat) (xs : List D) : pyOf (k + 1) S (.tup xs) = (xs.mapM (pyOf k S)).map .tuple := rfl
@[simp] theorem cd_eq (i j : Int) : cmpD .eq S (.val (.int i)) (.val (.int j)) = some (decide (i = j)) := by
  simp only [cmpD, pyQ, py_int]
  congr 1
@[simp] theorem cd_ne (i j : Int) : cmpD .ne S (.val (.int i)) (.val (.int j)) = some (!decide (i = j)) := by
  simp only [cmpD, pyQ, py_int]
  congr 1
@[simp] theorem bn_add (i j : Int) : binD .add S (.val (.int i)) (.val (.int j)) = some (.val (.int (i + j))) := rfl
@[simp] theorem bn_sub (i j : Int) : binD .sub S (.val (.int i)) (.val (.int j)) = some (.val (.int (i - j))) := rfl
theorem bn_mul {i j : Int} (h : mulOk i j = true) : binD .mul S (.val (.int i)) (.val (.int j)) = some (.val (.int (i * j))) := by
  show (if mulOk i j = true then _ else _) = _
  rw [if_pos h]
theorem bn_mod {i j : Int} (h : j ≠ 0) : binD .mod S (.val (.int i)) (.val (.int j)) = some (.val (.int (i.fmod j))) := by
  show (if decide (j ≠ 0) = true then _ else _) = _
  rw [if_pos (decide_eq_true h)]
theorem log_lt {a : Nat} (h : a < 2 ^ 200) : a.log2 < 9000 := by
  by_cases q : a = 0
  · subst q; decide
  · exact Nat.lt_of_lt_of_le ((Nat.log2_lt q).mpr h) (by decide)
theorem bn_fdivB {i j : Int} (h : j ≠ 0) (h2 : j.natAbs < 2 ^ 200) : binD .fdiv S (.val (.int i)) (.val (.int j)) = some (.val (.int (i.fdiv j))) := by
  show (if divOk i j = true then _ else _) = _
  rw [if_pos (by simp [divOk, h, log_lt h2])]
theorem bn_fdiv {i j : Int} (h : j ≠ 0) (h2 : j.natAbs < 1073741824) : binD .fdiv S (.val (.int i)) (.val (.int j)) = some (.val (.int (i.fdiv j))) := by
  show (if divOk i j = true then _ else _) = _
  rw [if_pos (by simp [divOk, h, log_lt (Nat.lt_of_lt_of_le h2 (by decide))])]
theorem bn_pow {i j : Int} (h : powOk i j = true) : binD .pow S (.val (.int i)) (.val (.int j)) = some (.val (.int (i ^ j.toNat))) := by
  show (if powOk i j = true then _ else _) = _
  rw [if_pos h]
@[simp] theorem bn_tup (a b : List D) : binD .add S (.val (.tup a)) (.val (.tup b)) = if a.length + b.length ≤ sizeLine then some (.val (.tup (a ++ b))) else none := rfl
@[simp] theorem o_int (i : Int) : b1D .int_ S (.val (.int i)) = some (.val (.int i)) := rfl
@[simp] theorem o_intb (b : Bool) : b1D .int_ S (.val (.bl b)) = some (.val (.int (if b then 1 else 0))) := rfl
@[simp] theorem o_abs (i : Int) : b1D .abs S (.val (.int i)) = some (.val (.int (if i < 0 then -i else i))) := rfl
@[simp] theorem o_len (xs : List D) : b1D .len S (.val (.tup xs)) = some (.val (.int xs.length)) := rfl
@[simp] theorem o_lenF (xs : List D) : b1D .len S (.fresh xs) = some (.val (.int xs.length)) := rfl
@[simp] theorem o_tup (xs : List D) : b1D .tuple_ S (.val (.tup xs)) = some (.val (.tup xs)) := rfl
@[simp] theorem o_tupF (xs : List D) : b1D .tuple_ S (.fresh xs) = some (.val (.tup xs)) := rfl
@[simp] theorem o_list (xs : List D) : b1D .list_ S (.val (.tup xs)) = some (.fresh xs) := rfl
@[simp] theorem i_tup (xs : List D) (i : Int) : idxD S (.val (.tup xs)) i = (L2.atI xs i).map .val := by
  show (Option.bind (some xs) fun xs => (L2.atI xs i).map Sq.val) = _
  rfl
@[simp] theorem i_fresh (xs : List D) (i : Int) : idxD S (.fresh xs) i = (L2.atI xs i).map .val := rfl
theorem i_lst {n : Nat} {xs : List D} (h : S[n]? = some (.lst xs)) (i : Int) : idxD S (.val (.loc n)) i = (L2.atI xs i).map .val := by
  have : seqOf S (.val (.loc n)) = some xs := by simp only [seqOf, lstOf, h]
  show (Option.bind (seqOf S (.val (.loc n))) fun xs => (L2.atI xs i).map Sq.val) = _
  rw [this]; rfl
theorem i_ro {n : Nat} {xs : List D} (h : S[n]? = some (.ro xs)) (i : Int) : idxD S (.val (.loc n)) i = (L2.atI xs i).map .val := by
  have : seqOf S (.val (.loc n)) = some xs := by simp only [seqOf, lstOf, h]
  show (Option.bind (seqOf S (.val (.loc n))) fun xs => (L2.atI xs i).map Sq.val) = _
  rw [this]; rfl
theorem o_lenL {n : Nat} {xs : List D} (h : S[n]? = some (.lst xs)) : b1D .len S (.val (.loc n)) = some (.val (.int xs.length)) := by
  have : seqOf S (.val (.loc n)) = some xs := by simp only [seqOf, lstOf, h]
  show (seqOf S (.val (.loc n))).map _ = _
  rw [this]; rfl
theorem o_lenR {n : Nat} {xs : List D} (h : S[n]? = some (.ro xs)) : b1D .len S (.val (.loc n)) = some (.val (.int xs.length)) := by
  have : seqOf S (.val (.loc n)) = some xs := by simp only [seqOf, lstOf, h]
  show (seqOf S (.val (.loc n))).map _ = _
  rw [this]; rfl
@[simp] theorem m_max (i j : Int) : b2D .max (.val (.int i)) (.val (.int j)) = some (.val (.int (if j > i then j else i))) := rfl
@[simp] theorem m_min (i j : Int) : b2D .min (.val (.int i)) (.val (.int j)) = some (.val (.int (if j < i then j else i))) := rfl
end
theorem at_nat {α : Type} {xs : List α} {i : Int} (h0 : 0 ≤ i) (h : i < xs.length) : L2.atI xs i = xs[i.toNat]? := by
  unfold L2.atI L2.ixN
  rw [if_pos h0, if_pos h]
  rfl
theorem o_tupL {S : Store} {n : Nat} {xs : List D} (h : S[n]? = some (.lst xs)) : b1D .tuple_ S (.val (.loc n)) = some (.val (.tup xs)) := by
  have : seqOf S (.val (.loc n)) = some xs := by simp only [seqOf, lstOf, h]
  show (seqOf S (.val (.loc n))).map _ = _
  rw [this]; rfl
theorem is_lst {S : Store} {n : Nat} {xs : List D} (h : S[n]? = some (.lst xs)) : isLst S n = true := by simp only [isLst, h]
theorem bls_map : ∀ bs : List Bool, blsOf (bs.map .bl) = some bs
  | [] => rfl
  | b :: bs => by
    show (D.bl b :: bs.map D.bl).mapM asBl = _
    have ih : (bs.map D.bl).mapM asBl = some bs := bls_map bs
    rw [List.mapM_cons, ih]; rfl
theorem o_allF (S : Store) (bs : List Bool) : b1D .all_ S (.fresh (bs.map .bl)) = some (.val (.bl (bs.all id))) := by
  show (Option.bind (some (bs.map D.bl)) blsOf).map _ = _
  simp [bls_map]
theorem o_anyF (S : Store) (bs : List Bool) : b1D .any_ S (.fresh (bs.map .bl)) = some (.val (.bl (bs.any id))) := by
  show (Option.bind (some (bs.map D.bl)) blsOf).map _ = _
  simp [bls_map]
theorem fm_some {f : D → Bool} : ∀ xs : List D, xs.filterMap (fun c => some (D.bl (f c))) = (xs.map f).map .bl
  | [] => rfl
  | x :: xs => by simp [List.filterMap_cons]
theorem ints_map : ∀ ns : List Int, intsOf (ns.map .int) = some ns
  | [] => rfl
  | n :: ns => by
    show (D.int n :: ns.map D.int).mapM asInt = _
    have ih : (ns.map D.int).mapM asInt = some ns := ints_map ns
    rw [List.mapM_cons, ih]; rfl
@[simp] theorem o_sumF (S : Store) (ns : List Int) : b1D .sum S (.fresh (ns.map .int)) = some (.val (.int ns.sum)) := by
  show (Option.bind (some (ns.map D.int)) intsOf).map _ = _
  simp [ints_map]
@[simp] theorem o_sumT (S : Store) (ns : List Int) : b1D .sum S (.val (.tup (ns.map .int))) = some (.val (.int ns.sum)) := by
  show (Option.bind (some (ns.map D.int)) intsOf).map _ = _
  simp [ints_map]
theorem at_map {ns : List Int} {i : Int} (h0 : 0 ≤ i) (h : i < ns.length) : ∃ c ∈ ns, L2.atI (ns.map D.int) i = some (.int c) := by
  refine ⟨ns[i.toNat], List.getElem_mem (by omega), ?_⟩
  rw [at_nat h0 (by simpa using h)]
  simp [show i.toNat < ns.length by omega]
/-! ### what is wanted -/
def Wp {α : Type} (r : Res α) (K : α → Store → Prop) : Prop := match r with
  | .ok a S => K a S
  | _ => False
def Ws (r : SRes) (N : Env → Store → Prop) (R : D → Store → Prop) : Prop := match r with
  | .nx σ S => N σ S
  | .rt d S => R d S
  | _ => False
section
variable {α β : Type}
@[simp] theorem wp_ok (a : α) (S : Store) (K : α → Store → Prop) : Wp (.ok a S) K = K a S := rfl
@[simp] theorem wp_bind (r : Res α) (f : α → Store → Res β) (K : β → Store → Prop) : Wp (r.bind f) K = Wp r fun a S => Wp (f a S) K := by cases r <;> rfl
@[simp] theorem ws_st (r : Res α) (f : α → Store → SRes) (N : Env → Store → Prop) (R : D → Store → Prop) : Ws (r.st f) N R = Wp r fun a S => Ws (f a S) N R := by cases r <;> rfl
theorem ws_seq (r : SRes) (f : Env → Store → SRes) (N : Env → Store → Prop) (R : D → Store → Prop) : Ws (r.seq f) N R = Ws r (fun σ S => Ws (f σ S) N R) R := by cases r <;> rfl
@[simp] theorem wp_fin (r : SRes) (K : D → Store → Prop) : Wp r.fin K = Ws r (fun _ S => K .non S) K := by cases r <;> rfl
@[simp] theorem ws_nx (σ : Env) (S : Store) (N : Env → Store → Prop) (R : D → Store → Prop) : Ws (.nx σ S) N R = N σ S := rfl
@[simp] theorem ws_rt (d : D) (S : Store) (N : Env → Store → Prop) (R : D → Store → Prop) : Ws (.rt d S) N R = R d S := rfl
theorem wp_mono {r : Res α} {K K' : α → Store → Prop} (h : Wp r K) (f : ∀ a S, K a S → K' a S) : Wp r K' := by
  cases r <;> first | exact f _ _ h | exact h.elim
theorem ws_mono {r : SRes} {N N' : Env → Store → Prop} {R R' : D → Store → Prop} (h : Ws r N R) (f : ∀ σ S, N σ S → N' σ S) (g : ∀ d S, R d S → R' d S) : Ws r N' R' := by
  cases r <;> first | exact f _ _ h | exact g _ _ h | exact h.elim
theorem wp_get {r : Res α} {K : α → Store → Prop} (h : Wp r K) : ∃ a S, r = .ok a S ∧ K a S := by
  cases r with
  | ok a S => exact ⟨a, S, rfl, h⟩
  | _ => exact h.elim
/-- a statement, then the others -/
theorem ws_cons {G : Gx} {cal : Nat → List D → Store → Res D} {s : CS} {r : CSs} {σ : Env} {S : Store} {N : Env → Store → Prop} {R : D → Store → Prop} (h : Ws (exec G cal s σ S) (fun σ1 S1 => Ws (execs G cal r σ1 S1) N R) R) : Ws (execs G cal (.cons s r) σ S) N R := by
  rw [execs_s1, ws_seq]; exact h
theorem ws_nil {G : Gx} {cal : Nat → List D → Store → Res D} {σ : Env} {S : Store} {N : Env → Store → Prop} {R : D → Store → Prop} (h : N σ S) : Ws (execs G cal .nil σ S) N R := by
  rw [execs_s0]; exact h
/-! ### loops -/
/-- a comprehension without test, by a property of its items and one of the store -/
theorem wp_lc {g : Grd} {body : D → Store → Res (Option D)} (Q : Nat → D → Prop) (I : Store → Prop) (hg : ∀ S, I S → grdOk g S) : ∀ {xs : List D} {acc : List D} {S : Store} {K : List D → Store → Prop}, I S →
    (∀ (k : Nat) x S, xs[k]? = some x → I S → Wp (body x S) fun o S' => ∃ d, o = some d ∧ Q (acc.length + k) d ∧ I S') →
    (∀ ys S', ys.length = xs.length → (∀ (k : Nat) y, ys[k]? = some y → Q (acc.length + k) y) → I S' → K (acc ++ ys) S') → Wp (lcLoop g body xs acc S) K
  | [], acc, S, K, hI, st, hK => by
    unfold lcLoop guarded
    rw [if_pos (hg S hI)]
    have := hK [] S rfl (fun k y h => by simp at h) hI
    simpa using this
  | x :: xs, acc, S, K, hI, st, hK => by
    unfold lcLoop guarded
    rw [if_pos (hg S hI)]
    obtain ⟨o, S1, e, d, rfl, hq, hI1⟩ := wp_get (st 0 x S rfl hI)
    rw [e]
    simp only [Res.calm_ok, wp_bind, wp_ok]
    refine wp_lc Q I hg (acc := acc ++ [d]) hI1 (fun k y S' hy hS' => ?_) fun ys S' hl hys hI' => ?_
    · refine wp_mono (st (k + 1) y S' (by simpa using hy) hS') fun o S2 ⟨d2, h1, h2, h3⟩ => ⟨d2, h1, ?_, h3⟩
      rw [List.length_append, List.length_singleton, Nat.add_assoc, Nat.add_comm 1 k]
      exact h2
    · have := hK (d :: ys) S' (by simp [hl]) (fun k y h => by
        cases k with
        | zero => simp at h; subst h; exact hq
        | succ k =>
          have := hys k y (by simpa using h)
          rw [List.length_append, List.length_singleton, Nat.add_assoc, Nat.add_comm 1 k] at this
          exact this) hI'
      simpa using this
/-- for, by a property of the turn -/
theorem ws_for {g : Grd} {body : D → Env → Store → SRes} {R : D → Store → Prop} (J : Nat → Env → Store → Prop) (hg : ∀ i σ S, J i σ S → grdOk g S) : ∀ {xs : List D} {i : Nat} {σ : Env} {S : Store} {N : Env → Store → Prop}, J i σ S →
    (∀ (k : Nat) x σ S, xs[k]? = some x → J (i + k) σ S → Ws (body x σ S) (J (i + k + 1)) R) → (∀ σ' S', J (i + xs.length) σ' S' → N σ' S') → Ws (forLoop g body xs σ S) N R
  | [], i, σ, S, N, hJ, st, hN => by
    unfold forLoop guardS
    rw [if_pos (hg i σ S hJ)]
    exact hN σ S (by simpa using hJ)
  | x :: xs, i, σ, S, N, hJ, st, hN => by
    unfold forLoop guardS
    rw [if_pos (hg i σ S hJ)]
    have h := st 0 x σ S rfl (by simpa using hJ)
    cases q : body x σ S with
    | nx σ1 S1 =>
      rw [q] at h
      refine ws_for J hg (i := i + 1) (by simpa using h) (fun k y σ2 S2 hy h2 => ?_) fun σ' S' h' => hN σ' S' ?_
      · have e : i + 1 + k = i + (k + 1) := by omega
        rw [e] at h2 ⊢
        exact st (k + 1) y σ2 S2 (by simpa using hy) h2
      · have e : i + (x :: xs).length = i + 1 + xs.length := by simp; omega
        rw [e]; exact h'
    | rt d S1 => rw [q] at h; exact h
    | bk σ1 S1 => rw [q] at h; exact h.elim
    | ct σ1 S1 => rw [q] at h; exact h.elim
    | ex c d S1 => rw [q] at h; exact h.elim
    | bad => rw [q] at h; exact h.elim
/-- a comprehension that asks nothing of the store -/
theorem lc_pure {g : Grd} {body : D → Store → Res (Option D)} {f : D → Option D} {S : Store} (hg : grdOk g S) : ∀ {xs acc : List D}, (∀ x ∈ xs, body x S = .ok (f x) S) → lcLoop g body xs acc S = .ok (acc ++ xs.filterMap f) S
  | [], acc, h => by
    unfold lcLoop guarded
    rw [if_pos hg]; simp
  | x :: xs, acc, h => by
    unfold lcLoop guarded
    rw [if_pos hg, h x (by simp)]
    have ih := fun acc => lc_pure hg (xs := xs) (acc := acc) fun y hy => h y (by simp [hy])
    cases q : f x with
    | none => simp [ih, List.filterMap_cons, q]
    | some d => simp [ih, List.filterMap_cons, q]
/-- all([f(x) for x in ..]) where nothing of the store is changed -/
theorem all_lc {G : Gx} {cal : Nat → List D → Store → Res D} {σ : Env} {S : Store} {j : Nat} {it e c : CE} {xs : List D} {g : Grd} {f : D → Bool} (hi : evIt G cal (.e it) σ S = .ok (xs, g) S) (hg : grdOk g S) (h : ∀ x ∈ xs, ev G cal e (σ.set j (some x)) S = .ok (.val (.bl (f x))) S) :
    ev G cal (.b1 .all_ (.lc (.one j) (.e it) false c e)) σ S = .ok (.val (.bl (xs.all f))) S := by
  rw [ev_s24, ev_s28, hi]
  simp only [Res.bind_ok]
  rw [lc_pure (f := fun c => some (.bl (f c))) hg]
  · simp only [List.nil_append, fm_some, Res.bind_ok, o_allF, lift_some]
    congr 3
    rw [List.all_map]
    rfl
  · intro x hx
    simp [bindTg, h x hx]
theorem fm_filter {p : D → Bool} : ∀ xs : List D, xs.filterMap (fun c => if p c = true then some c else none) = xs.filter p
  | [] => rfl
  | x :: xs => by
    rw [List.filterMap_cons, List.filter_cons, fm_filter xs]
    cases p x <;> rfl
/-- [x for x in .. if p(x)] -/
theorem filt_lc {G : Gx} {cal : Nat → List D → Store → Res D} {σ : Env} {S : Store} {j : Nat} {it c : CE} {xs : List D} {g : Grd} {p : D → Bool} (hj : j < σ.length) (hi : evIt G cal (.e it) σ S = .ok (xs, g) S) (hg : grdOk g S)
    (h : ∀ x ∈ xs, ((ev G cal c (σ.set j (some x)) S).bind fun q S3 => lift (truthQ S3 q) S3) = .ok (p x) S) :
    ev G cal (.lc (.one j) (.e it) true c (.var j)) σ S = .ok (.fresh (xs.filter p)) S := by
  rw [ev_s28, hi]
  simp only [Res.bind_ok]
  rw [lc_pure (f := fun c => if p c = true then some c else none) hg]
  · simp only [List.nil_append, fm_filter, Res.bind_ok]
  · intro x hx
    simp only [bindTg, if_true, h x hx, Res.bind_ok]
    cases p x with
    | true => simp [List.getElem?_set_self hj]
    | false => simp
theorem ne_nil {S : Store} {ys : List D} (h : ∀ y ∈ ys, ∃ a, pyOf 59 S y = some a) : cmpD .ne S (.fresh ys) (.fresh []) = some (!ys.isEmpty) := by
  have e : ∃ as, ys.mapM (pyOf 59 S) = some as ∧ as.isEmpty = ys.isEmpty := by
    cases ys with
    | nil => exact ⟨[], rfl, rfl⟩
    | cons y ys =>
      obtain ⟨a, e1⟩ := h y (by simp)
      have : ∀ zs : List D, (∀ z ∈ zs, ∃ a, pyOf 59 S z = some a) → ∃ as, zs.mapM (pyOf 59 S) = some as := fun zs => by
        induction zs with
        | nil => exact fun _ => ⟨[], rfl⟩
        | cons z zs ih =>
          intro hz
          obtain ⟨b, e2⟩ := hz z (by simp)
          obtain ⟨bs, e3⟩ := ih fun w hw => hz w (by simp [hw])
          exact ⟨b :: bs, by rw [List.mapM_cons, e2, e3]; rfl⟩
      obtain ⟨bs, e3⟩ := this ys fun z hz => h z (by simp [hz])
      exact ⟨a :: bs, by rw [List.mapM_cons, e1, e3]; rfl, rfl⟩
  obtain ⟨as, e1, e2⟩ := e
  simp only [cmpD, pyQ, e1, Option.map_some]
  rw [← e2]
  cases as <;> rfl
end
end DI
end

section
set_option Elab.async false
set_option linter.all false
set_option maxRecDepth 100000
/-! Bdd: each def as a step, as printed by gen3.py. -/
namespace DI
open PySem
/-- the program that is looked at -/
class Pg where
  G : Gx
  P : Nat → Option CDef
/-- the def of this number is there -/
class Has [Pg] (i : Nat) : Prop where
  eq : Pg.P i = cdG i
section
variable [Pg]
theorem d0 [Has 0] (n : Nat) (x0 : D) (S : Store) : calF Pg.G Pg.P (n + 1) 0 [x0] S = (DI.execs Pg.G (calF Pg.G Pg.P n) b0 [some x0] S).fin := calF_succ (cd := ⟨1, 1, b0⟩) (Has.eq.trans rfl) rfl
theorem d1 [Has 1] (n : Nat) (x0 x1 x2 : D) (S : Store) : calF Pg.G Pg.P (n + 1) 1 [x0, x1, x2] S = (DI.execs Pg.G (calF Pg.G Pg.P n) b1 [some x0, some x1, some x2] S).fin := calF_succ (cd := ⟨3, 3, b1⟩) (Has.eq.trans rfl) rfl
theorem d2 [Has 2] (n : Nat) (x0 x1 : D) (S : Store) : calF Pg.G Pg.P (n + 1) 2 [x0, x1] S = (DI.execs Pg.G (calF Pg.G Pg.P n) b2 [some x0, some x1] S).fin := calF_succ (cd := ⟨2, 2, b2⟩) (Has.eq.trans rfl) rfl
theorem d3 [Has 3] (n : Nat) (x0 : D) (S : Store) : calF Pg.G Pg.P (n + 1) 3 [x0] S = (DI.execs Pg.G (calF Pg.G Pg.P n) b3 [some x0] S).fin := calF_succ (cd := ⟨1, 1, b3⟩) (Has.eq.trans rfl) rfl
theorem d4 [Has 4] (n : Nat) (x0 : D) (S : Store) : calF Pg.G Pg.P (n + 1) 4 [x0] S = (DI.execs Pg.G (calF Pg.G Pg.P n) b4 [some x0, none, none, none] S).fin := calF_succ (cd := ⟨1, 4, b4⟩) (Has.eq.trans rfl) rfl
theorem d5 [Has 5] (n : Nat) (x0 x1 : D) (S : Store) : calF Pg.G Pg.P (n + 1) 5 [x0, x1] S = (DI.execs Pg.G (calF Pg.G Pg.P n) b5 [some x0, some x1] S).fin := calF_succ (cd := ⟨2, 2, b5⟩) (Has.eq.trans rfl) rfl
theorem d6 [Has 6] (n : Nat) (x0 x1 : D) (S : Store) : calF Pg.G Pg.P (n + 1) 6 [x0, x1] S = (DI.execs Pg.G (calF Pg.G Pg.P n) b6 [some x0, some x1] S).fin := calF_succ (cd := ⟨2, 2, b6⟩) (Has.eq.trans rfl) rfl
theorem d7 [Has 7] (n : Nat) (x0 x1 : D) (S : Store) : calF Pg.G Pg.P (n + 1) 7 [x0, x1] S = (DI.execs Pg.G (calF Pg.G Pg.P n) b7 [some x0, some x1, none, none] S).fin := calF_succ (cd := ⟨2, 4, b7⟩) (Has.eq.trans rfl) rfl
theorem d8 [Has 8] (n : Nat) (x0 x1 : D) (S : Store) : calF Pg.G Pg.P (n + 1) 8 [x0, x1] S = (DI.execs Pg.G (calF Pg.G Pg.P n) b8 [some x0, some x1, none] S).fin := calF_succ (cd := ⟨2, 3, b8⟩) (Has.eq.trans rfl) rfl
theorem d9 [Has 9] (n : Nat) (x0 x1 : D) (S : Store) : calF Pg.G Pg.P (n + 1) 9 [x0, x1] S = (DI.execs Pg.G (calF Pg.G Pg.P n) b9 [some x0, some x1] S).fin := calF_succ (cd := ⟨2, 2, b9⟩) (Has.eq.trans rfl) rfl
theorem d10 [Has 10] (n : Nat) (x0 : D) (S : Store) : calF Pg.G Pg.P (n + 1) 10 [x0] S = (DI.execs Pg.G (calF Pg.G Pg.P n) b10 [some x0, none] S).fin := calF_succ (cd := ⟨1, 2, b10⟩) (Has.eq.trans rfl) rfl
theorem d11 [Has 11] (n : Nat) (x0 : D) (S : Store) : calF Pg.G Pg.P (n + 1) 11 [x0] S = (DI.execs Pg.G (calF Pg.G Pg.P n) b11 [some x0, none] S).fin := calF_succ (cd := ⟨1, 2, b11⟩) (Has.eq.trans rfl) rfl
theorem d12 [Has 12] (n : Nat) (x0 : D) (S : Store) : calF Pg.G Pg.P (n + 1) 12 [x0] S = (DI.execs Pg.G (calF Pg.G Pg.P n) b12 [some x0, none, none, none, none, none, none, none, none, none, none] S).fin := calF_succ (cd := ⟨1, 11, b12⟩) (Has.eq.trans rfl) rfl
theorem d13 [Has 13] (n : Nat) (x0 : D) (S : Store) : calF Pg.G Pg.P (n + 1) 13 [x0] S = (DI.execs Pg.G (calF Pg.G Pg.P n) b13 [some x0] S).fin := calF_succ (cd := ⟨1, 1, b13⟩) (Has.eq.trans rfl) rfl
theorem d14 [Has 14] (n : Nat) (x0 x1 : D) (S : Store) : calF Pg.G Pg.P (n + 1) 14 [x0, x1] S = (DI.execs Pg.G (calF Pg.G Pg.P n) b14 [some x0, some x1] S).fin := calF_succ (cd := ⟨2, 2, b14⟩) (Has.eq.trans rfl) rfl
theorem d16 [Has 16] (n : Nat) (x0 x1 : D) (S : Store) : calF Pg.G Pg.P (n + 1) 16 [x0, x1] S = (DI.execs Pg.G (calF Pg.G Pg.P n) b16 [some x0, some x1, none, none, none, none, none, none, none, none, none, none, none, none, none] S).fin := calF_succ (cd := ⟨2, 15, b16⟩) (Has.eq.trans rfl) rfl
theorem d20 [Has 20] (n : Nat) (x0 x1 x2 : D) (S : Store) : calF Pg.G Pg.P (n + 1) 20 [x0, x1, x2] S = (DI.execs Pg.G (calF Pg.G Pg.P n) b20 [some x0, some x1, some x2, none] S).fin := calF_succ (cd := ⟨3, 4, b20⟩) (Has.eq.trans rfl) rfl
theorem d21 [Has 21] (n : Nat) (x0 x1 : D) (S : Store) : calF Pg.G Pg.P (n + 1) 21 [x0, x1] S = (DI.execs Pg.G (calF Pg.G Pg.P n) b21 [some x0, some x1, none] S).fin := calF_succ (cd := ⟨2, 3, b21⟩) (Has.eq.trans rfl) rfl
theorem d22 [Has 22] (n : Nat) (x0 x1 : D) (S : Store) : calF Pg.G Pg.P (n + 1) 22 [x0, x1] S = (DI.execs Pg.G (calF Pg.G Pg.P n) b22 [some x0, some x1] S).fin := calF_succ (cd := ⟨2, 2, b22⟩) (Has.eq.trans rfl) rfl
theorem d23 [Has 23] (n : Nat) (x0 x1 : D) (S : Store) : calF Pg.G Pg.P (n + 1) 23 [x0, x1] S = (DI.execs Pg.G (calF Pg.G Pg.P n) b23 [some x0, some x1] S).fin := calF_succ (cd := ⟨2, 2, b23⟩) (Has.eq.trans rfl) rfl
theorem d24 [Has 24] (n : Nat) (x0 x1 : D) (S : Store) : calF Pg.G Pg.P (n + 1) 24 [x0, x1] S = (DI.execs Pg.G (calF Pg.G Pg.P n) b24 [some x0, some x1] S).fin := calF_succ (cd := ⟨2, 2, b24⟩) (Has.eq.trans rfl) rfl
theorem d25 [Has 25] (n : Nat) (x0 x1 : D) (S : Store) : calF Pg.G Pg.P (n + 1) 25 [x0, x1] S = (DI.execs Pg.G (calF Pg.G Pg.P n) b25 [some x0, some x1, none, none, none] S).fin := calF_succ (cd := ⟨2, 5, b25⟩) (Has.eq.trans rfl) rfl
theorem d26 [Has 26] (n : Nat) (x0 x1 : D) (S : Store) : calF Pg.G Pg.P (n + 1) 26 [x0, x1] S = (DI.execs Pg.G (calF Pg.G Pg.P n) b26 [some x0, some x1, none, none, none, none] S).fin := calF_succ (cd := ⟨2, 6, b26⟩) (Has.eq.trans rfl) rfl
theorem d27 [Has 27] (n : Nat) (x0 x1 : D) (S : Store) : calF Pg.G Pg.P (n + 1) 27 [x0, x1] S = (DI.execs Pg.G (calF Pg.G Pg.P n) b27 [some x0, some x1] S).fin := calF_succ (cd := ⟨2, 2, b27⟩) (Has.eq.trans rfl) rfl
theorem d28 [Has 28] (n : Nat) (x0 x1 : D) (S : Store) : calF Pg.G Pg.P (n + 1) 28 [x0, x1] S = (DI.execs Pg.G (calF Pg.G Pg.P n) b28 [some x0, some x1] S).fin := calF_succ (cd := ⟨2, 2, b28⟩) (Has.eq.trans rfl) rfl
theorem d29 [Has 29] (n : Nat) (x0 x1 : D) (S : Store) : calF Pg.G Pg.P (n + 1) 29 [x0, x1] S = (DI.execs Pg.G (calF Pg.G Pg.P n) b29 [some x0, some x1] S).fin := calF_succ (cd := ⟨2, 2, b29⟩) (Has.eq.trans rfl) rfl
theorem d30 [Has 30] (n : Nat) (x0 x1 : D) (S : Store) : calF Pg.G Pg.P (n + 1) 30 [x0, x1] S = (DI.execs Pg.G (calF Pg.G Pg.P n) b30 [some x0, some x1, none] S).fin := calF_succ (cd := ⟨2, 3, b30⟩) (Has.eq.trans rfl) rfl
theorem d31 [Has 31] (n : Nat) (x0 x1 : D) (S : Store) : calF Pg.G Pg.P (n + 1) 31 [x0, x1] S = (DI.execs Pg.G (calF Pg.G Pg.P n) b31 [some x0, some x1, none] S).fin := calF_succ (cd := ⟨2, 3, b31⟩) (Has.eq.trans rfl) rfl
theorem d32 [Has 32] (n : Nat) (x0 x1 : D) (S : Store) : calF Pg.G Pg.P (n + 1) 32 [x0, x1] S = (DI.execs Pg.G (calF Pg.G Pg.P n) b32 [some x0, some x1, none, none] S).fin := calF_succ (cd := ⟨2, 4, b32⟩) (Has.eq.trans rfl) rfl
theorem d33 [Has 33] (n : Nat) (x0 x1 : D) (S : Store) : calF Pg.G Pg.P (n + 1) 33 [x0, x1] S = (DI.execs Pg.G (calF Pg.G Pg.P n) b33 [some x0, some x1, none] S).fin := calF_succ (cd := ⟨2, 3, b33⟩) (Has.eq.trans rfl) rfl
theorem d34 [Has 34] (n : Nat) (x0 x1 : D) (S : Store) : calF Pg.G Pg.P (n + 1) 34 [x0, x1] S = (DI.execs Pg.G (calF Pg.G Pg.P n) b34 [some x0, some x1] S).fin := calF_succ (cd := ⟨2, 2, b34⟩) (Has.eq.trans rfl) rfl
theorem d35 [Has 35] (n : Nat) (x0 x1 : D) (S : Store) : calF Pg.G Pg.P (n + 1) 35 [x0, x1] S = (DI.execs Pg.G (calF Pg.G Pg.P n) b35 [some x0, some x1, none, none] S).fin := calF_succ (cd := ⟨2, 4, b35⟩) (Has.eq.trans rfl) rfl
theorem d36 [Has 36] (n : Nat) (x0 x1 : D) (S : Store) : calF Pg.G Pg.P (n + 1) 36 [x0, x1] S = (DI.execs Pg.G (calF Pg.G Pg.P n) b36 [some x0, some x1] S).fin := calF_succ (cd := ⟨2, 2, b36⟩) (Has.eq.trans rfl) rfl
theorem d37 [Has 37] (n : Nat) (x0 x1 : D) (S : Store) : calF Pg.G Pg.P (n + 1) 37 [x0, x1] S = (DI.execs Pg.G (calF Pg.G Pg.P n) b37 [some x0, some x1] S).fin := calF_succ (cd := ⟨2, 2, b37⟩) (Has.eq.trans rfl) rfl
theorem d38 [Has 38] (n : Nat) (x0 x1 : D) (S : Store) : calF Pg.G Pg.P (n + 1) 38 [x0, x1] S = (DI.execs Pg.G (calF Pg.G Pg.P n) b38 [some x0, some x1, none] S).fin := calF_succ (cd := ⟨2, 3, b38⟩) (Has.eq.trans rfl) rfl
end
end DI
end

section
set_option Elab.async false
set_option linter.all false
set_option maxRecDepth 100000
set_option maxHeartbeats 0
namespace DL
open PySem L2 DI
/-- a box of chance -/
def Box (S : Store) (b : Nat) : Prop := ∃ x y : Int, S[b]? = some (.lst [.int x, .int y])
section
variable [Pg] [Has 7] [Has 8] [Has 9]
theorem take8 (n b : Nat) (m : Int) (S : Store) (hb : Box S b) (hm : 0 < m) (hm2 : m < 1073741824) :
    ∃ r x y, calF Pg.G Pg.P (n + 1) 8 [.loc b, .int m] S = .ok (.int r) (S.set b (.lst [.int x, .int y])) ∧ 0 ≤ r ∧ r < m := by
  obtain ⟨x, y, hb⟩ := hb
  have hl : b < S.length := (List.getElem?_eq_some_iff.mp hb).1
  simp only [d8, b8, execs_s1]
  have a0 : L2.atI [D.int x, D.int y] 0 = some (.int x) := rfl
  have m0 : m ≠ 0 := by omega
  have ma : m.natAbs < 1073741824 := by omega
  have i0 : L2.ixN 2 0 = some 0 := rfl
  have i1 : L2.ixN 2 1 = some 1 := rfl
  have a1 : L2.atI [D.int x, D.int y] 1 = some (.int y) := rfl
  have mu : mulOk y 39373 = true := by simp [mulOk]
  by_cases h : 0 < x
  · refine ⟨x.fmod m, x.fdiv m, y, ?_, Int.fmod_nonneg_of_pos _ hm, Int.fmod_lt_of_pos _ hm⟩
    simp [i_lst S hb, a0, h, bn_mod S m0, bn_fdiv S m0 ma, hb, i0, execs_s1, execs_s0]
  · let z := (y * 39373 + 69621).fmod 2147483647
    have az : ∀ z : Int, L2.atI [D.int x, D.int z] 1 = some (.int z) := fun z => rfl
    refine ⟨(z.fdiv 8191).fmod m, x, z, ?_, Int.fmod_nonneg_of_pos _ hm, Int.fmod_lt_of_pos _ hm⟩
    have hs : (S.set b (.lst [.int x, .int z]))[b]? = some (.lst [.int x, .int z]) := List.getElem?_set_self hl
    simp [i_lst S hb, a0, a1, h, bn_mod S m0, bn_mul S mu, bn_mod S (show (2147483647 : Int) ≠ 0 by decide), bn_fdiv _ (show (8191 : Int) ≠ 0 by decide) (show (8191 : Int).natAbs < 1073741824 by decide), hb, i1, execs_s1, execs_s0]
    simp [z, i_lst _ hs, az, bn_mod _ m0, bn_fdiv _ (show (8191 : Int) ≠ 0 by decide) (show (8191 : Int).natAbs < 1073741824 by decide)]
end
/-- two stores: alike up to the box's cell, perhaps more cells behind -/
def Like (b : Nat) (S S' : Store) : Prop := S.length ≤ S'.length ∧ ∀ k : Nat, k < S.length → k ≠ b → S'[k]? = S[k]?
theorem Like.refl (b : Nat) (S : Store) : Like b S S := ⟨Nat.le_refl _, fun _ _ _ => rfl⟩
theorem Like.trans {b : Nat} {S S1 S2 : Store} (h : Like b S S1) (g : Like b S1 S2) : Like b S S2 :=
  ⟨Nat.le_trans h.1 g.1, fun k hk hb => (g.2 k (Nat.lt_of_lt_of_le hk h.1) hb).trans (h.2 k hk hb)⟩
theorem Like.set (b : Nat) (S : Store) (c : Cell) : Like b S (S.set b c) := ⟨by simp, fun k _ hb => List.getElem?_set_ne fun z => hb z.symm⟩
theorem Like.push (b : Nat) (S : Store) (c : Cell) : Like b S (S ++ [c]) := ⟨by simp, fun k hk _ => List.getElem?_append_left hk⟩
theorem Box.set {b : Nat} {S : Store} {x y : Int} (h : Box S b) : Box (S.set b (.lst [.int x, .int y])) b := by
  obtain ⟨_, _, h⟩ := h
  exact ⟨x, y, List.getElem?_set_self (List.getElem?_eq_some_iff.mp h).1⟩
section
variable [Pg] [Has 7] [Has 8] [Has 9]
/-- one draw -/
theorem take_ (n b : Nat) (m : Int) (S : Store) (hb : Box S b) (hm : 0 < m) (hm2 : m < 1073741824) :
    ∃ r S', calF Pg.G Pg.P (n + 1) 8 [.loc b, .int m] S = .ok (.int r) S' ∧ 0 ≤ r ∧ r < m ∧ Box S' b ∧ Like b S S' := by
  obtain ⟨r, x, y, e, h1, h2⟩ := take8 n b m S hb hm hm2
  exact ⟨r, _, e, h1, h2, hb.set, Like.set b S _⟩
/-- one of some -/
theorem pick_ (n b l : Nat) (xs : List D) (S : Store) (hb : Box S b) (hl : S[l]? = some (.lst xs)) (hne : l ≠ b) (h0 : 0 < xs.length) (h1 : xs.length < 1000) :
    ∃ d ∈ xs, ∃ S', calF Pg.G Pg.P (n + 2) 9 [.loc b, .loc l] S = .ok d S' ∧ Box S' b ∧ Like b S S' := by
  obtain ⟨r, S', e, h2, h3, h4, h5⟩ := take_ n b xs.length S hb (by omega) (by omega)
  have hll : l < S.length := (List.getElem?_eq_some_iff.mp hl).1
  have hl' : S'[l]? = some (.lst xs) := (h5.2 l hll hne).trans hl
  have hr : r.toNat < xs.length := by omega
  refine ⟨xs[r.toNat], List.getElem_mem hr, S', ?_, h4, h5⟩
  have e1 : calF Pg.G Pg.P (n + 1) 8 [.loc b, .int xs.length] S = .ok (.int r) S' := e
  have e2 : L2.atI xs r = some xs[r.toNat] := by rw [at_nat h2 h3, List.getElem?_eq_getElem hr]
  rw [d9]
  simp only [b9, execs_s1, execs_s0]
  simp [o_lenL S hl, e1, i_lst S' hl', e2]
/-- a new box -/
theorem box_ (n : Nat) (k : Int) (ns : List Int) (S : Store) (hS : S[0]? = some (.ro (ns.map .int))) (h0 : 0 ≤ k) (h1 : k < 1000) (hn : ns.length < 1000) :
    ∃ x y, calF Pg.G Pg.P (n + 1) 7 [.loc 0, .int k] S = .ok (.loc S.length) (S ++ [.lst [.int x, .int y]]) := by
  have mk : ∀ i : Int, mulOk 7919 i = true := fun i => by simp [mulOk]
  have mk2 : ∀ i : Int, mulOk 613 i = true := fun i => by simp [mulOk]
  have mk3 : ∀ i : Int, mulOk i 48271 = true := fun i => by simp [mulOk]
  have mk4 : ∀ i : Int, mulOk i 31 = true := fun i => by simp [mulOk]
  have pw : powOk 10 18 = true := by decide
  have p1 : (1000000007 : Int) ≠ 0 := by decide
  have p2 : (2147483647 : Int) ≠ 0 := by decide
  have sz : 2 ≤ sizeLine := by decide
  have a01 : ∀ (c : Int) (p : Prop) [Decidable p], L2.atI [D.int 0, D.int c] (if p then 1 else 0) = some (.int (if p then c else 0)) := fun c p _ => by
    by_cases h : p
    · rw [if_pos h, if_pos h]; rfl
    · rw [if_neg h, if_neg h]; rfl
  have hl := o_lenR S hS
  rw [d7]
  simp only [b7, execs_s1, execs_s0]
  by_cases hk : k < ns.length
  · have e1 : L2.atI (ns.map D.int) k = some (.int ns[k.toNat]) := by
      rw [at_nat h0 (by simpa using hk)]
      simp [show k.toNat < ns.length by omega]
    generalize ns[k.toNat] = c at e1
    exact ⟨_, _, by
      simp [bn_mul S (mk k), hl, hk, i_ro S hS, e1, bn_pow S pw, execs_s1, execs_s0, a01, sz, bn_mod S p1, bn_mod S p2, bn_mul S (mk3 _), bn_mul S (mk2 _)]
      exact ⟨rfl, rfl⟩⟩
  · by_cases hz : 0 < ns.length
    · have hz' : (ns.length : Int) ≠ 0 := by omega
      have f0 : 0 ≤ k.fmod ns.length := Int.fmod_nonneg_of_pos _ (by omega)
      have f1 : k.fmod ns.length < ns.length := Int.fmod_lt_of_pos _ (by omega)
      have e1 : L2.atI (ns.map D.int) (k.fmod ns.length) = some (.int ns[(k.fmod ns.length).toNat]) := by
        rw [at_nat f0 (by simpa using f1)]
        simp [show (k.fmod ns.length).toNat < ns.length by omega]
      generalize ns[(k.fmod ns.length).toNat] = c at e1
      exact ⟨_, _, by
        simp [bn_mul S (mk k), hl, hk, hz, i_ro S hS, e1, bn_pow S pw, execs_s1, execs_s0, a01, sz, bn_mod S hz', bn_mod S p1, bn_mod S p2, bn_mul S (mk3 _), bn_mul S (mk2 _), bn_mul S (mk4 _)]
        exact ⟨rfl, rfl⟩⟩
    · exact ⟨_, _, by
        simp [bn_mul S (mk k), hl, hk, hz, bn_pow S pw, execs_s1, execs_s0, a01, sz, bn_mod S p1, bn_mod S p2, bn_mul S (mk3 _), bn_mul S (mk2 _)]
        exact ⟨rfl, rfl⟩⟩
end
/-! ### the rows that are drawn -/
def rowD (cs : List Int) : D := .tup (cs.map .int)
def rowsD (rs : List (List Int)) : D := .tup (rs.map rowD)
def RowOk (m : Nat) (cs : List Int) : Prop := cs.length = m ∧ ∀ c ∈ cs, -1 ≤ c ∧ c ≤ 1
def RowsOk (n m : Nat) (rs : List (List Int)) : Prop := rs.length = n ∧ ∀ r ∈ rs, RowOk m r
def Old (S S' : Store) : Prop := S.length ≤ S'.length ∧ ∀ k : Nat, k < S.length → S'[k]? = S[k]?
theorem Old.refl (S : Store) : Old S S := ⟨Nat.le_refl _, fun _ _ => rfl⟩
theorem Old.trans {S S1 S2 : Store} (h : Old S S1) (g : Old S1 S2) : Old S S2 := ⟨Nat.le_trans h.1 g.1, fun k hk => (g.2 k (Nat.lt_of_lt_of_le hk h.1)).trans (h.2 k hk)⟩
theorem Old.push (S : Store) (c : Cell) : Old S (S ++ [c]) := ⟨by simp, fun k hk => List.getElem?_append_left hk⟩
theorem Old.like {S S1 S2 : Store} {b : Nat} (h : Old S S1) (hb : S.length ≤ b) (g : Like b S1 S2) : Old S S2 :=
  ⟨Nat.le_trans h.1 g.1, fun k hk => (g.2 k (Nat.lt_of_lt_of_le hk h.1) (by omega)).trans (h.2 k hk)⟩
theorem Old.set {S S1 : Store} {l : Nat} (h : Old S S1) (hl : S.length ≤ l) (c : Cell) : Old S (S1.set l c) :=
  ⟨by simpa using h.1, fun k hk => by rw [List.getElem?_set_ne (by omega)]; exact h.2 k hk⟩
theorem Box.push {S : Store} {b : Nat} (h : Box S b) (c : Cell) : Box (S ++ [c]) b := by
  obtain ⟨x, y, h⟩ := h
  exact ⟨x, y, by rw [List.getElem?_append_left (List.getElem?_eq_some_iff.mp h).1]; exact h⟩
theorem at_push (S : Store) (c : Cell) : (S ++ [c])[S.length]? = some c := by simp
theorem keep_push {S : Store} {k : Nat} {x c : Cell} (h : S[k]? = some x) : (S ++ [c])[k]? = some x := by
  rw [List.getElem?_append_left (List.getElem?_eq_some_iff.mp h).1]; exact h
theorem keep_like {S S' : Store} {b k : Nat} {x : Cell} (g : Like b S S') (h : S[k]? = some x) (hk : k ≠ b) : S'[k]? = some x := (g.2 k (List.getElem?_eq_some_iff.mp h).1 hk).trans h
theorem Box.app {S : Store} {b : Nat} (h : Box S b) (T : Store) : Box (S ++ T) b := by
  obtain ⟨x, y, h⟩ := h
  exact ⟨x, y, by rw [List.getElem?_append_left (List.getElem?_eq_some_iff.mp h).1]; exact h⟩
theorem Old.app {S S1 : Store} (h : Old S S1) (T : Store) : Old S (S1 ++ T) :=
  ⟨by simp; have := h.1; omega, fun k hk => by rw [List.getElem?_append_left (Nat.lt_of_lt_of_le hk h.1)]; exact h.2 k hk⟩
section
variable [Pg] [Has 7] [Has 8] [Has 9] [Has 16]
/-- pick of a written list -/
theorem pickw (n b : Nat) (xs : List D) (S : Store) (hb : Box S b) (h0 : 0 < xs.length) (h1 : xs.length < 1000) :
    ∃ d ∈ xs, ∃ S', calF Pg.G Pg.P (n + 2) 9 [.loc b, .loc S.length] (S ++ [.lst xs]) = .ok d S' ∧ Box S' b ∧ Like b S S' := by
  have hl : b < S.length := by obtain ⟨_, _, h⟩ := hb; exact (List.getElem?_eq_some_iff.mp h).1
  obtain ⟨d, hd, S', e, h2, h3⟩ := pick_ n b S.length xs (S ++ [.lst xs]) (hb.push _) (at_push _ _) (by omega) h0 h1
  exact ⟨d, hd, S', e, h2, (Like.push b S _).trans h3⟩
end
/-- where the rows are made: the state of the cells -/
structure St13 (S : Store) (b ls lh lr : Nat) (sg hs : List Int) (rs : List (List Int)) (S' : Store) : Prop where
  box : Box S' b
  old : Old S S'
  sg_ : S'[ls]? = some (.lst (sg.map .int))
  hs_ : S'[lh]? = some (.lst (hs.map .int))
  rs_ : S'[lr]? = some (.lst (rs.map rowD))
theorem St13.like {S S' S2 : Store} {b ls lh lr : Nat} {sg hs : List Int} {rs : List (List Int)} (h : St13 S b ls lh lr sg hs rs S') (hb : Box S2 b) (g : Like b S' S2) (h0 : S.length ≤ b) (h1 : ls ≠ b) (h2 : lh ≠ b) (h3 : lr ≠ b) : St13 S b ls lh lr sg hs rs S2 :=
  ⟨hb, h.old.like h0 g, keep_like g h.sg_ h1, keep_like g h.hs_ h2, keep_like g h.rs_ h3⟩
theorem St13.push {S S' : Store} {b ls lh lr : Nat} {sg hs : List Int} {rs : List (List Int)} (h : St13 S b ls lh lr sg hs rs S') (c : Cell) : St13 S b ls lh lr sg hs rs (S' ++ [c]) :=
  ⟨h.box.push c, h.old.trans (Old.push _ c), keep_push h.sg_, keep_push h.hs_, keep_push h.rs_⟩
theorem keep_set {S : Store} {k l : Nat} {x c : Cell} (h : S[k]? = some x) (hk : k ≠ l) : (S.set l c)[k]? = some x := by rw [List.getElem?_set_ne fun z => hk z.symm]; exact h
theorem St13.set {S S' : Store} {b ls lh lr l : Nat} {sg hs : List Int} {rs : List (List Int)} (h : St13 S b ls lh lr sg hs rs S') (c : Cell) (h0 : S.length ≤ l) (hb : b ≠ l) (h1 : ls ≠ l) (h2 : lh ≠ l) (h3 : lr ≠ l) : St13 S b ls lh lr sg hs rs (S'.set l c) := by
  obtain ⟨x, y, e⟩ := h.box
  exact ⟨⟨x, y, keep_set e hb⟩, h.old.set h0 c, keep_set h.sg_ h1, keep_set h.hs_ h2, keep_set h.rs_ h3⟩
theorem ints_of {P : Int → Prop} : ∀ {ys : List D}, (∀ (k : Nat) y, ys[k]? = some y → ∃ c : Int, y = .int c ∧ P c) → ∃ cs : List Int, ys = cs.map .int ∧ ∀ c ∈ cs, P c
  | [], _ => ⟨[], rfl, by simp⟩
  | y :: ys, h => by
    obtain ⟨c, rfl, hc⟩ := h 0 y rfl
    obtain ⟨cs, rfl, hcs⟩ := ints_of fun k z hz => h (k + 1) z (by simpa using hz)
    exact ⟨c :: cs, rfl, by simpa using ⟨hc, hcs⟩⟩
theorem rng_ok (j : Nat) (hj : j ≤ 6) : okR (j : Int) ∧ (j : Int).toNat ≤ sizeLine := by
  have : sizeLine = 16777216 := sizeLine_eq
  refine ⟨⟨?_, ?_⟩, by omega⟩
  · have : (0 : Int) ≤ 2 ^ 62 := by decide
    omega
  · have : (7 : Int) < 2 ^ 62 := by decide
    omega
/-- the part of the program text behind so many statements -/
def tl : CSs → CSs
  | .cons _ r => r
  | r => r
def hd : CSs → CS
  | .cons s _ => s
  | _ => .pass_
def loopOf : CS → CSs
  | .forS _ _ b => b
  | _ => .nil
def body13 : CSs := loopOf (hd (tl (tl (tl (tl (tl (tl (tl (tl b16)))))))))
section
variable [Pg] [Has 7] [Has 8] [Has 9] [Has 16]
/-- a new row of drawn signs -/
theorem row13 (n : Nat) {S S' : Store} {b ls lh lr N M : Nat} {how i : Int} {fair : Bool} {sg hs : List Int} {rs : List (List Int)} {t1 t2 t3 t4 : Option D} (h : St13 S b ls lh lr sg hs rs S') (h0 : S.length ≤ b) (h1 : ls ≠ b) (h2 : lh ≠ b) (h3 : lr ≠ b) (hM : M ≤ 4) (sg0 : 0 < sg.length) (sg1 : sg.length < 100) (sgv : ∀ c ∈ sg, -1 ≤ c ∧ c ≤ 1) :
    Ws (DI.exec Pg.G (calF Pg.G Pg.P (n + 3)) (hd body13) [some (.loc 0), some (.int 4), some (.loc b), some (.int N), some (.int M), some (.int how), some (.loc ls), some (.loc lh), some (.bl fair), some (.loc lr), some (.int i), t1, t2, t3, t4] S')
      (fun σ' S2 => ∃ (l : Nat) (cs : List Int), σ' = [some (.loc 0), some (.int 4), some (.loc b), some (.int N), some (.int M), some (.int how), some (.loc ls), some (.loc lh), some (.bl fair), some (.loc lr), some (.int i), some (.loc l), t2, t3, t4] ∧ S2[l]? = some (.lst (cs.map .int)) ∧ RowOk M cs ∧ S'.length ≤ l ∧ St13 S b ls lh lr sg hs rs S2) (fun _ _ => False) := by
  show Ws (DI.exec Pg.G (calF Pg.G Pg.P (n + 3)) (.set 11 (.lc (.one 12) (.rng1 (.var 4)) false (.cn .non) (.call 9 (.cons (.var 2) (.cons (.var 6) .nil))))) _ _) _ _
  simp only [exec_s0, ev_s28, evIt_s1, ev_s0, List.getElem?_cons_succ, List.getElem?_cons_zero, Res.bind_ok, ws_st, wp_bind]
  rw [if_pos (rng_ok M (by omega)), wp_ok]
  refine wp_lc (fun _ d => ∃ c : Int, d = .int c ∧ (-1 ≤ c ∧ c ≤ 1)) (fun S2 => Box S2 b ∧ Like b S' S2) (fun S2 _ p hp => by cases hp) ⟨h.box, Like.refl _ _⟩ (fun k x S2 hx hI => ?_) (fun ys S2 hl hq hI => ?_)
  · obtain ⟨d, hd, S3, e3, q2, q3⟩ := pick_ (n + 1) b ls (sg.map .int) S2 hI.1 (keep_like hI.2 h.sg_ h1) h1 (by simpa using sg0) (by simp; omega)
    obtain ⟨c, hc, rfl⟩ := List.mem_map.mp hd
    simp [bindTg, e3]
    exact ⟨⟨(sgv c hc).1, (sgv c hc).2⟩, q2, hI.2.trans q3⟩
  obtain ⟨cs, rfl, hcs⟩ := ints_of hq
  simp only [List.nil_append, wp_ok, mat_fresh, ws_nx, List.set_cons_succ, List.set_cons_zero]
  refine ⟨S2.length, cs, rfl, at_push _ _, ⟨by simpa using hl, hcs⟩, hI.2.1, (h.like hI.1 hI.2 h0 h1 h2 h3).push _⟩
end
theorem RowOk.set {M : Nat} {cs : List Int} (h : RowOk M cs) (j : Nat) {c : Int} (hc : -1 ≤ c ∧ c ≤ 1) : RowOk M (cs.set j c) := by
  refine ⟨by rw [List.length_set]; exact h.1, fun d hd => ?_⟩
  rcases List.mem_or_eq_of_mem_set hd with q | q
  · exact h.2 d q
  · rw [q]; exact hc
theorem ix_nn {k : Nat} {i : Int} (h0 : 0 ≤ i) (h : i < k) : L2.ixN k i = some i.toNat := by
  unfold L2.ixN
  rw [if_pos h0, if_pos h]
def thenOf : CS → CSs
  | .ifS _ a _ => a
  | _ => .nil
def turn13 : CSs := loopOf (hd (tl (thenOf (hd (tl body13)))))
/-- the environment of the loop -/
abbrev en13 (b ls lh lr N M : Nat) (how i : Int) (fair : Bool) (l : Nat) (t2 t3 t4 : Option D) : DI.Env := [some (.loc 0), some (.int 4), some (.loc b), some (.int N), some (.int M), some (.int how), some (.loc ls), some (.loc lh), some (.bl fair), some (.loc lr), some (.int i), some (.loc l), t2, t3, t4]
section
variable [Pg] [Has 7] [Has 8] [Has 9] [Has 16]
theorem turn13_ (n : Nat) {S S' : Store} {b ls lh lr N M l : Nat} {how i : Int} {fair : Bool} {sg hs cs : List Int} {rs : List (List Int)} {t2 t3 t4 : Option D} (h : St13 S b ls lh lr sg hs rs S') (h0 : S.length ≤ b) (h1 : ls ≠ b) (h2 : lh ≠ b) (h3 : lr ≠ b) (hM0 : 1 ≤ M) (hM : M ≤ 4) (hhs : hs.length = M)
    (hl : S'[l]? = some (.lst (cs.map .int))) (hc : RowOk M cs) (l0 : S.length ≤ l) (l1 : b ≠ l) (l2 : ls ≠ l) (l3 : lh ≠ l) (l4 : lr ≠ l)
    {Nx : DI.Env → Store → Prop} {R : D → Store → Prop} (kk : ∀ (t4' : Option D) (cs' : List Int) (S2 : Store), S2[l]? = some (.lst (cs'.map .int)) → RowOk M cs' → St13 S b ls lh lr sg hs rs S2 → Nx (en13 b ls lh lr N M how i fair l t2 t3 t4') S2) :
    Ws (DI.execs Pg.G (calF Pg.G Pg.P (n + 3)) turn13 (en13 b ls lh lr N M how i fair l t2 t3 t4) S') Nx R := by
  obtain ⟨r, S2, e2, r0, r1, hB, hL⟩ := take_ (n + 2) b M S' h.box (by omega) (by omega)
  have hI := h.like hB hL h0 h1 h2 h3
  have hl2 := keep_like hL hl l1.symm
  have M0 : (M : Int) ≠ 0 := by omega
  show Ws (DI.execs Pg.G (calF Pg.G Pg.P (n + 3)) (.cons (.set 14 (.call 8 (.cons (.var 2) (.cons (.var 4) .nil)))) (.cons (.ifS (.andV (.cmp .lt (.b1 .sum (.lc (.one 12) (.rng1 (.var 4)) false (.cn .non) (.bin .mul (.idx (.var 11) (.var 12)) (.idx (.var 7) (.var 12))))) (.cn (.int 1))) (.cmp .ne (.var 14) (.bin .mod (.b1 .int_ (.var 10)) (.var 4)))) (.cons (.setI (.var 11) (.var 14) (.cn (.int 1))) .nil) .nil) .nil)) _ _) _ _
  refine ws_cons ?_
  simp [e2]
  refine ws_cons ?_
  simp only [exec_s7, ev_s6, ev_s8, ev_s24, ev_s28, evIt_s1, ev_s0, List.getElem?_cons_succ, List.getElem?_cons_zero, Res.bind_ok, ws_st, wp_bind]
  rw [if_pos (rng_ok M (by omega)), wp_ok]
  refine wp_lc (fun _ d => ∃ c : Int, d = .int c ∧ True) (fun S3 => S3 = S2) (fun S3 _ p hp => by cases hp) rfl (fun j x S3 hx hS => ?_) (fun ys S3 hy hq hS => ?_)
  · subst hS
    obtain ⟨hj, rfl⟩ := rngL_get hx
    have hj' : j < M := by simpa using hj
    obtain ⟨c, hcm, ec⟩ := at_map (ns := cs) (i := 0 + (j : Int)) (by omega) (by rw [hc.1]; omega)
    obtain ⟨d, hdm, ed⟩ := at_map (ns := hs) (i := 0 + (j : Int)) (by omega) (by rw [hhs]; omega)
    have mo : mulOk c d = true := by
      have := hc.2 c hcm
      have a1 : (-(2 ^ 64) : Int) < -1 := by decide
      have a2 : (1 : Int) < 2 ^ 64 := by decide
      unfold mulOk
      rw [decide_eq_true (show (-(2 ^ 64) : Int) < c by omega), decide_eq_true (show c < 2 ^ 64 by omega)]
      rfl
    simp only [Int.zero_add] at ec ed ⊢
    simp [bindTg, i_lst _ hl2, i_lst _ hI.hs_, ec, ed, bn_mul _ mo]
  obtain ⟨zs, rfl, _⟩ := ints_of hq
  subst hS
  simp [bn_mod _ M0]
  have ixr : L2.ixN cs.length r = some r.toNat := ix_nn r0 (by rw [hc.1]; exact r1)
  have ll : l < S3.length := (List.getElem?_eq_some_iff.mp hl2).1
  by_cases c1 : zs.sum < 1
  · by_cases c2 : r = i.fmod M
    · simp [c1, c2, execs_s0]
      exact kk _ cs S3 hl2 hc hI
    · simp [c1, c2, execs_s0, execs_s1, hl2, ixr]
      refine kk _ (cs.set r.toNat 1) _ ?_ (hc.set _ ⟨by decide, by decide⟩) (hI.set _ l0 l1 l2 l3 l4)
      rw [List.getElem?_set_self ll, List.map_set]
  · simp [c1, execs_s0]
    exact kk _ cs S3 hl2 hc hI
/-- the row is bent a little -/
theorem fix13 (n : Nat) {S S' : Store} {b ls lh lr N M l : Nat} {how i : Int} {fair : Bool} {sg hs cs : List Int} {rs : List (List Int)} {t2 t3 t4 : Option D} (h : St13 S b ls lh lr sg hs rs S') (h0 : S.length ≤ b) (h1 : ls ≠ b) (h2 : lh ≠ b) (h3 : lr ≠ b) (hM0 : 1 ≤ M) (hM : M ≤ 4) (hhs : hs.length = M)
    (hl : S'[l]? = some (.lst (cs.map .int))) (hc : RowOk M cs) (l0 : S.length ≤ l) (l1 : b ≠ l) (l2 : ls ≠ l) (l3 : lh ≠ l) (l4 : lr ≠ l)
    {Nx : DI.Env → Store → Prop} {R : D → Store → Prop} (kk : ∀ (t3' t4' : Option D) (cs' : List Int) (S2 : Store), S2[l]? = some (.lst (cs'.map .int)) → RowOk M cs' → St13 S b ls lh lr sg hs rs S2 → Nx (en13 b ls lh lr N M how i fair l t2 t3' t4') S2) :
    Ws (DI.exec Pg.G (calF Pg.G Pg.P (n + 3)) (hd (tl body13)) (en13 b ls lh lr N M how i fair l t2 t3 t4) S') Nx R := by
  have M0 : (M : Int) ≠ 0 := by omega
  have f0 : 0 ≤ i.fmod M := Int.fmod_nonneg_of_pos _ (by omega)
  have f1 : i.fmod M < M := Int.fmod_lt_of_pos _ (by omega)
  have ixi : L2.ixN cs.length (i.fmod M) = some (i.fmod M).toNat := ix_nn f0 (by rw [hc.1]; exact f1)
  have ll : l < S'.length := (List.getElem?_eq_some_iff.mp hl).1
  show Ws (DI.exec Pg.G (calF Pg.G Pg.P (n + 3)) (.ifS (.andV (.var 8) (.cmp .gt (.var 4) (.cn (.int 1)))) (.cons (.setI (.var 11) (.bin .mod (.b1 .int_ (.var 10)) (.var 4)) (.bin .add (.neg (.cn (.int 1))) (.b1 .int_ (.cmp .eq (.var 5) (.cn (.int 2)))))) (.cons (.forS (.one 13) (.rng1 (.cn (.int 6))) turn13) .nil)) .nil) _ _) _ _
  have go : Ws (DI.execs Pg.G (calF Pg.G Pg.P (n + 3)) (.cons (.setI (.var 11) (.bin .mod (.b1 .int_ (.var 10)) (.var 4)) (.bin .add (.neg (.cn (.int 1))) (.b1 .int_ (.cmp .eq (.var 5) (.cn (.int 2)))))) (.cons (.forS (.one 13) (.rng1 (.cn (.int 6))) turn13) .nil)) (en13 b ls lh lr N M how i fair l t2 t3 t4) S') Nx R := by
    refine ws_cons ?_
    simp [bn_mod _ M0, hl, ixi]
    generalize hv : (-1 + if how = 2 then (1 : Int) else 0) = v
    have hv2 : -1 ≤ v ∧ v ≤ 1 := by
      rw [← hv]
      by_cases q : how = 2
      · rw [if_pos q]; decide
      · rw [if_neg q]; decide
    refine ws_cons ?_
    simp only [exec_s8, evIt_s1, ev_s1, Res.bind_ok, ws_st]
    rw [if_pos (show okR 6 ∧ (6 : Int).toNat ≤ sizeLine from rng_ok 6 (by decide)), wp_ok]
    have hI := h.set (.lst ((cs.set (i.fmod M).toNat v).map .int)) l0 l1 l2 l3 l4
    have hl2 : (S'.set l (.lst ((cs.set (i.fmod M).toNat v).map .int)))[l]? = some (.lst ((cs.set (i.fmod M).toNat v).map .int)) := List.getElem?_set_self ll
    rw [List.map_set] at hI hl2
    refine ws_for (fun _ σ S2 => ∃ (t3' t4' : Option D) (cs' : List Int), σ = en13 b ls lh lr N M how i fair l t2 t3' t4' ∧ S2[l]? = some (.lst (cs'.map .int)) ∧ RowOk M cs' ∧ St13 S b ls lh lr sg hs rs S2) (fun _ _ _ _ p hp => by cases hp) (i := 0) ⟨t3, t4, cs.set (i.fmod M).toNat v, rfl, by rw [List.map_set]; exact hl2, hc.set _ hv2, hI⟩ (fun k x σ S2 hx ⟨u3, u4, ds, e, q1, q2, q3⟩ => ?_) fun σ' S2 ⟨u3, u4, ds, e, q1, q2, q3⟩ => ws_nil (by subst e; exact kk u3 u4 ds S2 q1 q2 q3)
    subst e
    obtain ⟨hk, rfl⟩ := rngL_get hx
    simp only [bindTg, List.set_cons_succ, List.set_cons_zero]
    exact turn13_ n q3 h0 h1 h2 h3 hM0 hM hhs q1 q2 l0 l1 l2 l3 l4 fun u es S3 z1 z2 z3 => ⟨_, u, es, rfl, z1, z2, z3⟩
  cases fair with
  | false => simp [execs_s0]; exact kk _ _ cs _ hl hc h
  | true =>
    by_cases c : 1 < M
    · have c' : (1 : Int) < M := by omega
      simp [c']
      exact go
    · have c' : ¬ (1 : Int) < M := by omega
      simp [c', execs_s0]
      exact kk _ _ cs _ hl hc h
theorem rows13 (n : Nat) (ns : List Int) (S : Store) (hS : S[0]? = some (.ro (ns.map .int))) (hn : ns.length < 1000) :
    Wp (calF Pg.G Pg.P (n + 4) 16 [.loc 0, .int 4] S) fun d S' => ∃ rs N M, RowsOk N M rs ∧ 1 ≤ N ∧ N ≤ 4 ∧ 1 ≤ M ∧ M ≤ 4 ∧ d = rowsD rs ∧ Old S S' := by
  have sz7 : 7 ≤ sizeLine := by decide
  rw [d16, wp_fin]
  simp only [b16]
  obtain ⟨x, y, eb⟩ := box_ (n + 2) 0 ns S hS (by omega) (by omega) hn
  generalize hbx : S.length = b at eb
  have hB0 : Box (S ++ [.lst [.int x, .int y]]) b := ⟨x, y, by rw [← hbx]; exact at_push _ _⟩
  have hO0 : Old S (S ++ [.lst [.int x, .int y]]) := Old.push _ _
  generalize S ++ [.lst [.int x, .int y]] = S1 at eb hB0 hO0
  refine ws_cons ?_
  simp [eb]
  -- n
  obtain ⟨d, hd, S2, e2, hB1, hL1⟩ := pickw (n + 1) b [.int 4, .int 4, .int 4, .int 3, .int 2, .int 1, .int 1] S1 hB0 (by decide) (by decide)
  have hO1 : Old S S2 := hO0.like (by omega) hL1
  obtain ⟨N, hN, rfl⟩ : ∃ N : Nat, (1 ≤ N ∧ N ≤ 4) ∧ d = .int N := by
    simp at hd
    rcases hd with rfl | rfl | rfl | rfl
    · exact ⟨4, by omega, rfl⟩
    · exact ⟨3, by omega, rfl⟩
    · exact ⟨2, by omega, rfl⟩
    · exact ⟨1, by omega, rfl⟩
  refine ws_cons ?_
  simp [sz7, e2]
  -- m
  obtain ⟨d, hd', S3, e3, hB2, hL2⟩ := pickw (n + 1) b [.int 4, .int 4, .int 4, .int 3, .int 2, .int 1, .int 1] S2 hB1 (by decide) (by decide)
  have hO2 : Old S S3 := hO1.like (by omega) hL2
  obtain ⟨M, hM, rfl⟩ : ∃ M : Nat, (1 ≤ M ∧ M ≤ 4) ∧ d = .int M := by
    simp at hd'
    rcases hd' with rfl | rfl | rfl | rfl
    · exact ⟨4, by omega, rfl⟩
    · exact ⟨3, by omega, rfl⟩
    · exact ⟨2, by omega, rfl⟩
    · exact ⟨1, by omega, rfl⟩
  refine ws_cons ?_
  simp [sz7, e3]
  -- how
  obtain ⟨how, S4, e4, hw0, hw1, hB3, hL3⟩ := take_ (n + 2) b 4 S3 hB2 (by decide) (by decide)
  have hO3 : Old S S4 := hO2.like (by omega) hL3
  refine ws_cons ?_
  simp [e4]
  -- signs
  have lb : b < S4.length := by obtain ⟨_, _, h⟩ := hB3; exact (List.getElem?_eq_some_iff.mp h).1
  have signs : ∃ (ls : Nat) (xs : List Int) (S5 : Store), DI.exec Pg.G (calF Pg.G Pg.P (n + 3)) (.set 6 (.idx (.lst (.cons (.lst (.cons (.cn (.int 1)) (.cons (.neg (.cn (.int 1))) .nil))) (.cons (.lst (.cons (.cn (.int 1)) (.cons (.cn (.int 1)) (.cons (.neg (.cn (.int 1))) .nil)))) (.cons (.lst (.cons (.cn (.int 1)) (.cons (.cn (.int 0)) (.cons (.neg (.cn (.int 1))) .nil)))) (.cons (.lst (.cons (.cn (.int 1)) (.cons (.cn (.int 1)) (.cons (.cn (.int 1)) (.cons (.cn (.int 0)) (.cons (.neg (.cn (.int 1))) .nil)))))) .nil))))) (.var 5)))
      [some (.loc 0), some (.int 4), some (.loc b), some (.int N), some (.int M), some (.int how), none, none, none, none, none, none, none, none, none] S4 =
      .nx [some (.loc 0), some (.int 4), some (.loc b), some (.int N), some (.int M), some (.int how), some (.loc ls), none, none, none, none, none, none, none, none] S5 ∧ S5[ls]? = some (.lst (xs.map .int)) ∧ S4.length ≤ ls ∧ 0 < xs.length ∧ xs.length < 100 ∧ (∀ c ∈ xs, -1 ≤ c ∧ c ≤ 1) ∧ Box S5 b ∧ Old S S5 := by
    have z5 : 5 ≤ sizeLine := by decide
    have z4 : 4 ≤ sizeLine := by decide
    have z3 : 3 ≤ sizeLine := by decide
    have z2 : 2 ≤ sizeLine := by decide
    have hc : how = 0 ∨ how = 1 ∨ how = 2 ∨ how = 3 := by omega
    rcases hc with rfl | rfl | rfl | rfl
    · have ea : ∀ a b c d : D, L2.atI [a, b, c, d] 0 = some a := fun _ _ _ _ => rfl
      exact ⟨S4.length + 0, [1, -1], S4 ++ [.lst [.int 1, .int (-1)], .lst [.int 1, .int 1, .int (-1)], .lst [.int 1, .int 0, .int (-1)], .lst [.int 1, .int 1, .int 1, .int 0, .int (-1)]], by simp [z5, z4, z3, z2, ea], by simp, by omega, by decide, by decide, by decide, hB3.app _, hO3.app _⟩
    · have ea : ∀ a b c d : D, L2.atI [a, b, c, d] 1 = some b := fun _ _ _ _ => rfl
      exact ⟨S4.length + 1, [1, 1, -1], S4 ++ [.lst [.int 1, .int (-1)], .lst [.int 1, .int 1, .int (-1)], .lst [.int 1, .int 0, .int (-1)], .lst [.int 1, .int 1, .int 1, .int 0, .int (-1)]], by simp [z5, z4, z3, z2, ea], by simp, by omega, by decide, by decide, by decide, hB3.app _, hO3.app _⟩
    · have ea : ∀ a b c d : D, L2.atI [a, b, c, d] 2 = some c := fun _ _ _ _ => rfl
      exact ⟨S4.length + 2, [1, 0, -1], S4 ++ [.lst [.int 1, .int (-1)], .lst [.int 1, .int 1, .int (-1)], .lst [.int 1, .int 0, .int (-1)], .lst [.int 1, .int 1, .int 1, .int 0, .int (-1)]], by simp [z5, z4, z3, z2, ea], by simp, by omega, by decide, by decide, by decide, hB3.app _, hO3.app _⟩
    · have ea : ∀ a b c d : D, L2.atI [a, b, c, d] 3 = some d := fun _ _ _ _ => rfl
      exact ⟨S4.length + 3, [1, 1, 1, 0, -1], S4 ++ [.lst [.int 1, .int (-1)], .lst [.int 1, .int 1, .int (-1)], .lst [.int 1, .int 0, .int (-1)], .lst [.int 1, .int 1, .int 1, .int 0, .int (-1)]], by simp [z5, z4, z3, z2, ea], by simp, by omega, by decide, by decide, by decide, hB3.app _, hO3.app _⟩
  obtain ⟨ls, sg, S5, e5, hls, lls, sg0, sg1, sgv, hB4, hO4⟩ := signs
  refine ws_cons ?_
  rw [e5, ws_nx]
  -- hidden
  have lbs : ls ≠ b := by omega
  refine ws_cons ?_
  simp only [exec_s0, ev_s28, evIt_s1, ev_s0, List.getElem?_cons_succ, List.getElem?_cons_zero, Res.bind_ok, ws_st, wp_bind]
  have hr : ∀ j : Nat, j ≤ 6 → (okR (j : Int) ∧ (j : Int).toNat ≤ sizeLine) := fun j hj => by
    have : sizeLine = 16777216 := sizeLine_eq
    refine ⟨⟨?_, ?_⟩, by omega⟩
    · have : (0 : Int) ≤ 2 ^ 62 := by decide
      omega
    · have : (7 : Int) < 2 ^ 62 := by decide
      omega
  rw [if_pos (hr M (by omega)), wp_ok]
  refine wp_lc (fun _ d => ∃ h : Int, d = .int h) (fun S' => Box S' b ∧ Like b S5 S') (fun S' _ p hp => by cases hp) ⟨hB4, Like.refl _ _⟩ (fun k x S' hx hI => ?_) (fun ys S6 hl hq hI => ?_)
  · obtain ⟨r, S7, e7, q0, q1, q2, q3⟩ := take_ (n + 2) b 4 S' hI.1 (by decide) (by decide)
    simp [bindTg, e7]
    exact ⟨q2, hI.2.trans q3⟩
  obtain ⟨hs, rfl⟩ : ∃ hs : List Int, ys = hs.map .int := by
    clear hl hI
    induction ys with
    | nil => exact ⟨[], rfl⟩
    | cons y ys ih =>
      obtain ⟨h, rfl⟩ := hq 0 y rfl
      obtain ⟨hs, rfl⟩ := ih fun k z hz => by
        obtain ⟨h', e⟩ := hq (k + 1) z (by simpa using hz)
        exact ⟨h', e⟩
      exact ⟨h :: hs, rfl⟩
  obtain ⟨hB5, hL5⟩ := hI
  have hO5 : Old S S6 := hO4.like (by omega) hL5
  have hls6 := keep_like hL5 hls lbs
  have hhl : hs.length = M := by simpa using hl
  simp only [List.nil_append, wp_ok, mat_fresh, ws_nx, List.set_cons_succ, List.set_cons_zero]
  generalize hlh : S6.length = lh
  have hlb : b < S6.length := by obtain ⟨_, _, h⟩ := hB5; exact (List.getElem?_eq_some_iff.mp h).1
  have lhb : lh ≠ b := by omega
  have hlsl : ls < S6.length := (List.getElem?_eq_some_iff.mp hls6).1
  have hh7 : (S6 ++ [.lst (hs.map .int)])[lh]? = some (.lst (hs.map .int)) := by rw [← hlh]; exact at_push _ _
  have hls7 := keep_push (c := .lst (hs.map .int)) hls6
  have hB6 := hB5.push (.lst (hs.map .int))
  have hO6 := hO5.trans (Old.push _ (.lst (hs.map .int)))
  have hlen7 : (S6 ++ [Cell.lst (hs.map .int)]).length = lh + 1 := by simp [hlh]
  generalize S6 ++ [Cell.lst (hs.map .int)] = S7 at hh7 hls7 hB6 hO6 hlen7
  -- fair
  obtain ⟨r8, S8, e8, _, _, hB7, hL7⟩ := take_ (n + 2) b 3 S7 hB6 (by decide) (by decide)
  have hO7 := hO6.like (by omega) hL7
  have hh8 := keep_like hL7 hh7 lhb
  have hls8 := keep_like hL7 hls7 lbs
  refine ws_cons ?_
  simp [e8]
  generalize decide (0 < r8) = fair
  -- rows
  refine ws_cons ?_
  simp
  generalize hlr : S8.length = lr
  have hl8 : lh + 1 ≤ S8.length := by have := hL7.1; omega
  have hr9 : (S8 ++ [.lst []])[lr]? = some (.lst []) := by rw [← hlr]; exact at_push _ _
  have hh9 := keep_push (c := .lst []) hh8
  have hls9 := keep_push (c := .lst []) hls8
  have hB8 := hB7.push (.lst [])
  have hO8 := hO7.trans (Old.push _ (.lst []))
  generalize S8 ++ [Cell.lst []] = S9 at hr9 hh9 hls9 hB8 hO8
  have szl : sizeLine = 16777216 := sizeLine_eq
  have llr : S8.length < S9.length := by
    have := (List.getElem?_eq_some_iff.mp hr9).1
    omega
  have st0 : St13 S b ls lh lr sg hs [] S9 := ⟨hB8, hO8, hls9, hh9, hr9⟩
  have lrb : lr ≠ b := by omega
  refine ws_cons ?_
  simp only [exec_s8, evIt_s1, ev_s0, List.getElem?_cons_succ, List.getElem?_cons_zero, Res.bind_ok, ws_st]
  rw [if_pos (rng_ok N (by omega)), wp_ok]
  refine ws_for (fun i σ S' => ∃ (rs : List (List Int)) (t0 t1 t2 t3 t4 : Option D), σ = [some (.loc 0), some (.int 4), some (.loc b), some (.int N), some (.int M), some (.int how), some (.loc ls), some (.loc lh), some (.bl fair), some (.loc lr), t0, t1, t2, t3, t4] ∧ rs.length = i ∧ (∀ r ∈ rs, RowOk M r) ∧ lr < S'.length ∧ St13 S b ls lh lr sg hs rs S')
    (fun _ _ _ _ p hp => by cases hp) (i := 0) ⟨[], none, none, none, none, none, rfl, rfl, by simp, by omega, st0⟩ (fun k x σ S' hx ⟨rs, t0, t1, t2, t3, t4, e, q1, q2, q3, q4⟩ => ?_) (fun σ' S' ⟨rs, t0, t1, t2, t3, t4, e, q1, q2, q3, q4⟩ => ?_)
  · subst e
    obtain ⟨hk, rfl⟩ := rngL_get hx
    simp only [bindTg, List.set_cons_succ, List.set_cons_zero]
    refine ws_cons (ws_mono (row13 n q4 (by omega) lbs lhb lrb (by omega) sg0 sg1 sgv) (fun σ' S2 ⟨l, cs, e, w1, w2, w3, w4⟩ => ?_) fun _ _ z => z.elim)
    subst e
    have a1 : ls < S'.length := (List.getElem?_eq_some_iff.mp q4.sg_).1
    have a2 : lh < S'.length := (List.getElem?_eq_some_iff.mp q4.hs_).1
    have a3 : b < S'.length := by obtain ⟨_, _, h⟩ := q4.box; exact (List.getElem?_eq_some_iff.mp h).1
    refine ws_cons (fix13 n w4 (by omega) lbs lhb lrb (by omega) (by omega) hhl w1 w2 (by have := q4.old.1; omega) (by omega) (by omega) (by omega) (by omega) fun t3' t4' ds S3 z1 z2 z3 => ?_)
    have lrl : rs.length < sizeLine := by omega
    have app : DI.exec Pg.G (calF Pg.G Pg.P (n + 3)) (.ex (.bm .append (.var 9) (.cons (.b1 .tuple_ (.var 11)) .nil))) (en13 b ls lh lr N M how k fair l t2 t3' t4') S3 = .nx (en13 b ls lh lr N M how k fair l t2 t3' t4') (S3.set lr (.lst (rs.map rowD ++ [rowD ds]))) := by
      simp [is_lst z3.rs_, o_tupL z1, z3.rs_, bmD, lrl, rowD]
    refine ws_cons ?_
    rw [show (0 : Int) + (k : Int) = k by omega]
    rw [app, ws_nx]
    refine ws_nil ⟨rs ++ [ds], _, _, _, _, _, rfl, by simp; omega, fun r hr => ?_, ?_, ⟨?_, ?_, ?_, ?_, ?_⟩⟩
    · rcases List.mem_append.mp hr with q | q
      · exact q2 r q
      · rw [show r = ds by simpa using q]; exact z2
    · have := (List.getElem?_eq_some_iff.mp z3.rs_).1
      simpa using this
    · obtain ⟨x, y, h⟩ := z3.box
      exact ⟨x, y, keep_set h lrb.symm⟩
    · exact z3.old.set (by omega) _
    · exact keep_set z3.sg_ (by omega)
    · exact keep_set z3.hs_ (by omega)
    · rw [List.getElem?_set_self (List.getElem?_eq_some_iff.mp z3.rs_).1]
      simp
  · subst e
    refine ws_cons ?_
    simp [o_tupL q4.rs_]
    refine ⟨rs, N, M, ⟨by simpa using q1, q2⟩, by omega, by omega, by omega, by omega, rfl, q4.old⟩
end
end DL
end

section
set_option Elab.async false
set_option linter.all false
set_option maxRecDepth 100000
set_option maxHeartbeats 0
/-! LbB: values that are data; games made; equality. -/
namespace DL
open PySem L2 DI
/-- what is asked of the class Game -/
class HasGame [Pg] : Prop where
  fl : Pg.G.flds 13 = [3, 4, 5]
  own : Pg.G.own.contains 13 = true
/-! ### values that are data -/
def Py (k : Nat) (S : Store) (d : D) : Prop := ∃ a, pyOf k S d = some a
theorem mapM_all {α β : Type} {f : α → Option β} : ∀ {xs : List α}, (∀ x ∈ xs, ∃ y, f x = some y) → ∃ ys, xs.mapM f = some ys
  | [], _ => ⟨[], rfl⟩
  | x :: xs, h => by
    obtain ⟨y, e⟩ := h x (by simp)
    obtain ⟨ys, e2⟩ := mapM_all (xs := xs) fun z hz => h z (by simp [hz])
    exact ⟨y :: ys, by rw [List.mapM_cons, e, e2]; rfl⟩
theorem mapM_each {α β : Type} {f : α → Option β} : ∀ {xs : List α} {ys : List β}, xs.mapM f = some ys → ∀ x ∈ xs, ∃ y, f x = some y
  | x :: xs, ys, h, z, hz => by
    obtain ⟨y, r, h1, h2, rfl⟩ := DI.mapM_cons h
    rcases List.mem_cons.mp hz with q | q
    · rw [q]; exact ⟨y, h1⟩
    · exact mapM_each h2 z q
theorem py_tup_iff {k : Nat} {S : Store} {xs : List D} : Py (k + 1) S (.tup xs) ↔ ∀ x ∈ xs, Py k S x := by
  constructor
  · rintro ⟨a, h⟩ x hx
    rw [py_tup] at h
    obtain ⟨ys, h1, h2⟩ := Option.map_eq_some_iff.mp h
    exact mapM_each h1 x hx
  · intro h
    obtain ⟨ys, e⟩ := mapM_all h
    exact ⟨.tuple ys, by rw [py_tup, e]; rfl⟩
theorem py_up : ∀ {k : Nat} {S : Store} {d : D}, Py k S d → Py (k + 1) S d := by
  intro k
  induction k with
  | zero =>
    intro S d ⟨a, h⟩
    cases d with
    | non => exact ⟨_, py_non S 1⟩
    | bl b => exact ⟨_, py_bl S 1 b⟩
    | int i => exact ⟨_, py_int S 1 i⟩
    | str s => exact ⟨a, h⟩
    | _ => cases h
  | succ k ih =>
    intro S d hd
    cases d with
    | non => exact ⟨_, py_non S _⟩
    | bl b => exact ⟨_, py_bl S _ b⟩
    | int i => exact ⟨_, py_int S _ i⟩
    | str s => obtain ⟨a, h⟩ := hd; exact ⟨a, h⟩
    | tup xs => exact py_tup_iff.mpr fun x hx => ih (py_tup_iff.mp hd x hx)
    | loc n =>
      obtain ⟨a, h⟩ := hd
      simp only [pyOf] at h ⊢
      unfold Py
      simp only [pyOf]
      split at h
      · rename_i xs hc
        obtain ⟨ys, h1, h2⟩ := Option.map_eq_some_iff.mp h
        obtain ⟨zs, e⟩ := mapM_all fun x hx => ih (mapM_each h1 x hx)
        rw [show List.mapM (pyOf (k + 1) S) xs = some zs from e]
        exact ⟨_, rfl⟩
      · rename_i xs hc
        obtain ⟨ys, h1, h2⟩ := Option.map_eq_some_iff.mp h
        obtain ⟨zs, e⟩ := mapM_all fun x hx => ih (mapM_each h1 x hx)
        rw [show List.mapM (pyOf (k + 1) S) xs = some zs from e]
        exact ⟨_, rfl⟩
      · cases h
    | obj c fs => obtain ⟨a, h⟩ := hd; cases h
    | tupI xs => obtain ⟨a, h⟩ := hd; cases h
    | err c f d => obtain ⟨a, h⟩ := hd; cases h
def kdD : D → Kd
  | .non => .non | .bl _ => .bl | .int _ => .int | .str _ => .str | .tup _ => .tup | .loc _ => .lst | .obj c _ => .own c | .tupI _ => .non | .err _ _ _ => .non
section
variable [Pg]
theorem py_kind {k : Nat} {S : Store} {d : D} (h : Py k S d) : kindOf Pg.G S (.val d) = some (kdD d) := by
  obtain ⟨a, h⟩ := h
  cases d with
  | loc n =>
    cases k with
    | zero => cases h
    | succ k =>
      simp only [pyOf] at h
      simp only [kindOf]
      split at h
      · rename_i xs hc; rw [hc]; rfl
      · rename_i xs hc; rw [hc]; rfl
      · cases h
  | obj c fs => cases k <;> cases h
  | tupI xs => cases k <;> cases h
  | err c f d => cases k <;> cases h
  | _ => rfl
end
def isI : D → Bool
  | .int _ => true
  | _ => false
section
variable [Pg] [Has 0] [Has 1] [Has 2] [Has 3] [Has 4] [Has 5] [Has 6]
theorem int0 (n : Nat) {k : Nat} {d : D} {S : Store} (h : Py k S d) : calF Pg.G Pg.P (n + 1) 0 [d] S = .ok (.bl (isI d)) S := by
  have hk := py_kind h
  rw [d0]
  simp only [b0, execs_s1, execs_s0]
  cases d <;> simp [hk, kdD, isTy, isI]
end
def cellB : D → Bool
  | .int i => decide (-1 ≤ i ∧ i ≤ 1)
  | _ => false
section
variable [Pg] [Has 0] [Has 1] [Has 2] [Has 3] [Has 4] [Has 5] [Has 6]
theorem sign3 (n : Nat) {k : Nat} {d : D} {S : Store} (h : Py k S d) : calF Pg.G Pg.P (n + 3) 3 [d] S = .ok (.bl (cellB d)) S := by
  rw [d3]
  simp only [b3, execs_s1, execs_s0]
  have e1 : calF Pg.G Pg.P (n + 2) 1 [d, .int (-1), .int 1] S = .ok (.bl (cellB d)) S := by
    rw [d1]
    simp only [b1, execs_s1, execs_s0]
    cases d with
    | int i =>
      simp [int0 n h, isI]
      by_cases c : -1 ≤ i
      · simp [c, cellB]
      · simp [c, cellB]
    | _ => simp [int0 n h, isI, cellB]
  simp [e1]
end
def isT (m : Int) : D → Bool
  | .tup xs => decide ((xs.length : Int) = m)
  | _ => false
section
variable [Pg] [Has 0] [Has 1] [Has 2] [Has 3] [Has 4] [Has 5] [Has 6]
theorem tup2 (n : Nat) {k : Nat} {d : D} {m : Int} {S : Store} (h : Py k S d) : calF Pg.G Pg.P (n + 1) 2 [d, .int m] S = .ok (.bl (isT m d)) S := by
  have hk := py_kind h
  rw [d2]
  simp only [b2, execs_s1, execs_s0]
  cases d <;> simp [hk, kdD, isTy, isT]
end
def rowB (m : Nat) : D → Bool
  | .tup cs => decide (cs.length = m) && cs.all cellB
  | _ => false
def rowsB : D → Bool
  | .tup (.tup c :: rs) => decide (rs.length + 1 ≤ 4) && (decide (1 ≤ c.length ∧ c.length ≤ 4) && (D.tup c :: rs).all (rowB c.length))
  | _ => false
/-- two pieces of the text -/
def eIn : CE := .b1 .all_ (.lc (.one 3) (.e (.var 2)) false (.cn .non) (.call 3 (.cons (.var 3) .nil)))
def eRow : CE := .andV (.call 2 (.cons (.var 2) (.cons (.var 1) .nil))) eIn
def eAll : CE := .b1 .all_ (.lc (.one 2) (.e (.var 0)) false (.cn .non) eRow)
section
variable [Pg] [Has 0] [Has 1] [Has 2] [Has 3] [Has 4] [Has 5] [Has 6]
theorem eIn_ (n : Nat) {k : Nat} {S : Store} {a b t : Option D} {ds : List D} (h : Py (k + 1) S (.tup ds)) : ev Pg.G (calF Pg.G Pg.P (n + 3)) eIn [a, b, some (.tup ds), t] S = .ok (.val (.bl (ds.all cellB))) S :=
  all_lc (xs := ds) (g := []) (f := cellB) (by simp [walkOf]) (fun p hp => by cases hp) fun z hz => by simp [sign3 n (py_tup_iff.mp h z hz)]
theorem eRow_ (n : Nat) {k m : Nat} {S : Store} {a t : Option D} {y : D} (h : Py (k + 1) S y) : ev Pg.G (calF Pg.G Pg.P (n + 3)) eRow [a, some (.int m), some y, t] S = .ok (.val (.bl (rowB m y))) S := by
  unfold eRow
  have in1 := fun ds (e : y = .tup ds) => eIn_ n (a := a) (b := some (.int m)) (t := t) (e ▸ h)
  generalize eIn = E at in1
  cases y with
  | tup ds =>
    have in2 := in1 ds rfl
    by_cases c5 : ds.length = m
    · have c6 : (ds.length : Int) = m := by omega
      simp [tup2 (n + 2) h, isT, c6, in2, rowB, c5]
    · have c6 : ¬ (ds.length : Int) = m := by omega
      simp [tup2 (n + 2) h, isT, c6, rowB, c5]
  | _ => simp [tup2 (n + 2) h, isT, rowB]
theorem rows4 (n : Nat) {k : Nat} {d : D} {S : Store} (h : Py (k + 2) S d) : calF Pg.G Pg.P (n + 4) 4 [d] S = .ok (.bl (rowsB d)) S := by
  have hk := py_kind h
  rw [d4, show b4 = .cons (.ifS (.orV (.notT (.isi (.var 0) [.tuple])) (.orV (.notT (.chain .le .le (.cn (.int 1)) (.b1 .len (.var 0)) (.gint 0 4))) (.notT (.isi (.idx (.var 0) (.cn (.int 0))) [.tuple])))) (.cons (.ret (.cn (.bl false))) .nil) .nil) (.cons (.set 1 (.b1 .len (.idx (.var 0) (.cn (.int 0))))) (.cons (.ifS (.notT (.chain .le .le (.cn (.int 1)) (.var 1) (.gint 0 4))) (.cons (.ret (.cn (.bl false))) .nil) .nil) (.cons (.ret eAll) .nil))) from rfl]
  cases d with
  | tup xs =>
    have hx := py_tup_iff.mp h
    cases xs with
    | nil => simp [execs_s1, execs_s0, hk, kdD, isTy, rowsB]
    | cons x xs =>
      have hkx := py_kind (hx x (by simp))
      have a0 : L2.atI (x :: xs) 0 = some x := by
        have := at_nat (xs := x :: xs) (i := 0) (by decide) (by show (0 : Int) < ((xs.length + 1 : Nat) : Int); omega)
        simpa using this
      have fin : ∀ m : Nat, ev Pg.G (calF Pg.G Pg.P (n + 3)) eAll [some (.tup (x :: xs)), some (.int m), none, none] S = .ok (.val (.bl ((x :: xs).all (rowB m)))) S := fun m =>
        all_lc (xs := x :: xs) (g := []) (f := rowB m) (by simp [walkOf]) (fun p hp => by cases hp) fun z hz => eRow_ n (hx z hz)
      generalize eAll = E at fin
      by_cases c1 : xs.length + 1 ≤ 4
      · have c1' : (xs.length : Int) + 1 ≤ 4 := by omega
        have c0 : (1 : Int) ≤ xs.length + 1 := by omega
        cases x with
        | tup cs =>
          by_cases c2 : 1 ≤ cs.length
          · have c3 : (1 : Int) ≤ cs.length := by omega
            by_cases c4 : cs.length ≤ 4
            · have c5 : (cs.length : Int) ≤ 4 := by omega
              simp [hk, hkx, kdD, isTy, a0, c0, c1, c1', c2, c3, c4, c5, execs_s1, execs_s0, fin, rowsB]
            · have c5 : ¬ (cs.length : Int) ≤ 4 := by omega
              simp [hk, hkx, kdD, isTy, a0, c0, c1, c1', c2, c3, c4, c5, execs_s1, execs_s0, rowsB]
          · have c3 : ¬ (1 : Int) ≤ cs.length := by omega
            simp [hk, hkx, kdD, isTy, a0, c0, c1, c1', c2, c3, execs_s1, execs_s0, rowsB]
        | _ => simp [hk, hkx, kdD, isTy, a0, c0, c1', execs_s1, execs_s0, rowsB]
      · have c1' : ¬ (xs.length : Int) + 1 ≤ 4 := by omega
        have c0 : (1 : Int) ≤ xs.length + 1 := by omega
        cases x <;> simp [hk, kdD, isTy, c0, c1, c1', execs_s1, execs_s0, rowsB]
  | _ => simp [execs_s1, execs_s0, hk, kdD, isTy, rowsB]
end
theorem filter_nil {p : D → Bool} {xs : List D} : (xs.filter p).isEmpty = xs.all fun x => !p x := by
  induction xs with
  | nil => rfl
  | cons x xs ih =>
    rw [List.filter_cons, List.all_cons]
    cases p x with
    | true => simp
    | false => simpa using ih

def lenN : D → Nat
  | .tup xs => xs.length
  | _ => 0
def lenM : D → Nat
  | .tup (.tup c :: _) => c.length
  | _ => 0
def gameD (d : D) : D := .obj 13 [(3, d), (4, .int (lenN d)), (5, .int (lenM d))]
section
variable [Pg] [Has 0] [Has 1] [Has 2] [Has 3] [Has 4] [Has 5] [Has 6] [HasGame]
theorem fl0 : 3 ∈ Pg.G.flds 13 := by rw [HasGame.fl]; simp
theorem fl1 : 4 ∈ Pg.G.flds 13 := by rw [HasGame.fl]; simp
theorem fl2 : 5 ∈ Pg.G.flds 13 := by rw [HasGame.fl]; simp
theorem init5_no (n : Nat) {k m : Nat} {d : D} {S : Store} (h : Py (k + 2) S d) (hr : rowsB d = false) : calF Pg.G Pg.P (n + 5) 5 [.loc m, d] S = .exc 2 d S := by
  rw [d5]
  simp only [b5, execs_s1, execs_s0]
  simp [rows4 n h, hr, execs_s1, execs_s0]
end
theorem py_set {k m : Nat} {S : Store} {c c' : Cell} (hm : S[m]? = some c) (hc : ∀ xs, c ≠ .lst xs) (hc2 : ∀ xs, c ≠ .ro xs) (hc' : ∀ xs, c' ≠ .lst xs) (hc2' : ∀ xs, c' ≠ .ro xs) : ∀ d : D, pyOf k (S.set m c') d = pyOf k S d := by
  induction k with
  | zero => intro d; cases d <;> rfl
  | succ k ih =>
    intro d
    have e : pyOf k (S.set m c') = pyOf k S := funext ih
    cases d with
    | tup xs => rw [py_tup, py_tup, e]
    | loc j =>
      simp only [pyOf, e]
      by_cases q : m = j
      · subst q
        rw [List.getElem?_set_self (List.getElem?_eq_some_iff.mp hm).1, hm]
        cases c <;> cases c' <;> first | rfl | exact absurd rfl (hc _) | exact absurd rfl (hc2 _) | exact absurd rfl (hc' _) | exact absurd rfl (hc2' _)
      · rw [List.getElem?_set_ne q]
    | _ => rfl
section
variable [Pg] [Has 0] [Has 1] [Has 2] [Has 3] [Has 4] [Has 5] [Has 6] [HasGame]
theorem init5_ok (n : Nat) {k m : Nat} {d : D} {S : Store} (h : Py (k + 2) S d) (hr : rowsB d = true) (hm : S[m]? = some (.ins 13 [])) :
    calF Pg.G Pg.P (n + 5) 5 [.loc m, d] S = .ok .non (S.set m (.ins 13 [(3, d), (4, .int (lenN d)), (5, .int (lenM d))])) := by
  have hl : m < S.length := (List.getElem?_eq_some_iff.mp hm).1
  obtain ⟨c, rs, rfl⟩ : ∃ c rs, d = .tup (.tup c :: rs) := by
    cases d with
    | tup xs =>
      cases xs with
      | nil => simp [rowsB] at hr
      | cons x xs => cases x <;> simp [rowsB] at hr ⊢
    | _ => simp [rowsB] at hr
  have a0 : L2.atI (D.tup c :: rs) 0 = some (.tup c) := by
    have := at_nat (xs := D.tup c :: rs) (i := 0) (by decide) (by show (0 : Int) < ((rs.length + 1 : Nat) : Int); omega)
    simpa using this
  rw [d5]
  simp only [b5, execs_s1, execs_s0]
  have s1 : ∀ c : Cell, (S.set m c)[m]? = some c := fun c => List.getElem?_set_self hl
  clear hl
  simp [rows4 n h, hr, execs_s1, execs_s0, hm, fl0, fl1, fl2, putA, s1, a0, lenN, lenM]
theorem mk_no (n : Nat) {k : Nat} {d : D} {S : Store} {σ : DI.Env} {e : CE} (h : Py (k + 2) (S ++ [.ins 13 []]) d) (hr : rowsB d = false) (he : ev Pg.G (calF Pg.G Pg.P (n + 5)) e σ S = .ok (.val d) S) :
    ev Pg.G (calF Pg.G Pg.P (n + 5)) (.mk 13 5 true (.cons e .nil)) σ S = .exc 2 d (S ++ [.ins 13 []]) := by
  simp [he, init5_no n h hr]
theorem mk_ok (n : Nat) {k : Nat} {d : D} {S : Store} {σ : DI.Env} {e : CE} (h : Py (k + 2) (S ++ [.ins 13 []]) d) (hr : rowsB d = true) (he : ev Pg.G (calF Pg.G Pg.P (n + 5)) e σ S = .ok (.val d) S) :
    ev Pg.G (calF Pg.G Pg.P (n + 5)) (.mk 13 5 true (.cons e .nil)) σ S = .ok (.val (gameD d)) (S ++ [.dead]) := by
  have hm : (S ++ [Cell.ins 13 []])[S.length]? = some (.ins 13 []) := at_push _ _
  simp [he, init5_ok n h hr hm, gameD]
end
theorem py_app {T : Store} : ∀ {k : Nat} {S : Store} {d : D} {a : PyData}, pyOf k S d = some a → pyOf k (S ++ T) d = some a := by
  intro k
  induction k with
  | zero => intro S d a h; cases d <;> first | exact h | cases h
  | succ k ih =>
    intro S d a h
    have all : ∀ {xs : List D} {ys : List PyData}, xs.mapM (pyOf k S) = some ys → xs.mapM (pyOf k (S ++ T)) = some ys := fun {xs} => by
      induction xs with
      | nil => exact fun h => h
      | cons x xs ihx =>
        intro ys hy
        obtain ⟨y, r, h1, h2, rfl⟩ := DI.mapM_cons hy
        rw [List.mapM_cons, ih h1, ihx h2]; rfl
    cases d with
    | tup xs =>
      rw [py_tup] at h ⊢
      obtain ⟨ys, h1, h2⟩ := Option.map_eq_some_iff.mp h
      rw [all h1]; exact congrArg some h2
    | loc j =>
      simp only [pyOf] at h ⊢
      split at h
      · rename_i xs hc
        rw [List.getElem?_append_left (List.getElem?_eq_some_iff.mp hc).1, hc]
        obtain ⟨ys, h1, h2⟩ := Option.map_eq_some_iff.mp h
        dsimp only
        rw [all h1]; exact congrArg some h2
      · rename_i xs hc
        rw [List.getElem?_append_left (List.getElem?_eq_some_iff.mp hc).1, hc]
        obtain ⟨ys, h1, h2⟩ := Option.map_eq_some_iff.mp h
        dsimp only
        rw [all h1]; exact congrArg some h2
      · cases h
    | obj c fs => cases h
    | _ => exact h
theorem Py.app {k : Nat} {S : Store} {d : D} (h : Py k S d) (T : Store) : Py k (S ++ T) d := let ⟨a, e⟩ := h; ⟨a, py_app e⟩
theorem Py.le {j k : Nat} {S : Store} {d : D} (h : Py j S d) (hj : j ≤ k) : Py k S d := by
  have : ∀ m, Py (j + m) S d := fun m => by
    induction m with
    | zero => exact h
    | succ m ih => exact py_up ih
  obtain ⟨m, e⟩ := Nat.exists_eq_add_of_le hj
  rw [e]; exact this m
section
variable [Pg] [Has 0] [Has 1] [Has 2] [Has 3] [Has 4] [Has 5] [Has 6] [HasGame]
theorem attr0 (d : D) (S : Store) : attrD Pg.G S (gameD d) 3 = some d := by
  unfold attrD gameD
  simp only [fsD, Option.bind_some]
  rw [if_pos (by rw [HasGame.fl]; rfl)]; rfl
theorem attr1 (d : D) (S : Store) : attrD Pg.G S (gameD d) 4 = some (.int (lenN d)) := by
  unfold attrD gameD
  simp only [fsD, Option.bind_some]
  rw [if_pos (by rw [HasGame.fl]; rfl)]; rfl
theorem attr2 (d : D) (S : Store) : attrD Pg.G S (gameD d) 5 = some (.int (lenM d)) := by
  unfold attrD gameD
  simp only [fsD, Option.bind_some]
  rw [if_pos (by rw [HasGame.fl]; rfl)]; rfl
theorem kind_game (d : D) (S : Store) : kindOf Pg.G S (.val (gameD d)) = some (.own 13) := by
  unfold gameD
  simp only [kindOf]
  rw [if_pos (HasGame.own)]
theorem eq6_game (n : Nat) {d e : D} {S : Store} {b : Bool} (h : cmpD .eq S (.val d) (.val e) = some b) : calF Pg.G Pg.P (n + 1) 6 [gameD d, gameD e] S = .ok (.bl b) S := by
  rw [d6]
  simp only [b6, execs_s1, execs_s0]
  have k := kind_game e S
  have a := attr0 d S
  have a' := attr0 e S
  generalize gameD d = g at a
  generalize gameD e = g' at a' k
  simp [k, isTy, a, a', h]
theorem eq6_tup (n : Nat) {d : D} {xs : List D} {S : Store} : calF Pg.G Pg.P (n + 1) 6 [gameD d, .tup xs] S = .ok (.bl false) S := by
  rw [d6]
  simp only [b6, execs_s1, execs_s0]
  generalize gameD d = g
  simp [kindOf, isTy]
end
/-- == and != of one and the same value -/
theorem pd_refl : ∀ {k : Nat} {S : Store} {d : D} {a : PyData}, pyOf k S d = some a → PyData.eqv a a = true := by
  intro k
  induction k with
  | zero =>
    intro S d a h
    cases d with
    | non => cases h; rfl
    | bl b => cases h; simp [PyData.eqv]
    | int i => cases h; simp [PyData.eqv]
    | str s =>
      simp only [pyOf] at h
      split at h
      · cases h; simp [PyData.eqv]
      · cases h
    | _ => cases h
  | succ k ih =>
    intro S d a h
    have all : ∀ {xs : List D} {ys : List PyData}, xs.mapM (pyOf k S) = some ys → PyData.eqvAll ys ys = true := fun {xs} => by
      induction xs with
      | nil => intro ys h; cases h; rfl
      | cons x xs ihx =>
        intro ys hy
        obtain ⟨y, r, h1, h2, rfl⟩ := DI.mapM_cons hy
        simp [PyData.eqvAll, ih h1, ihx h2]
    cases d with
    | non => cases h; rfl
    | bl b => cases h; simp [PyData.eqv]
    | int i => cases h; simp [PyData.eqv]
    | str s =>
      simp only [pyOf] at h
      split at h
      · cases h; simp [PyData.eqv]
      · cases h
    | tup xs =>
      rw [py_tup] at h
      obtain ⟨ys, h1, rfl⟩ := Option.map_eq_some_iff.mp h
      simp [PyData.eqv, all h1]
    | loc j =>
      simp only [pyOf] at h
      split at h
      · obtain ⟨ys, h1, rfl⟩ := Option.map_eq_some_iff.mp h
        simp [PyData.eqv, all h1]
      · obtain ⟨ys, h1, rfl⟩ := Option.map_eq_some_iff.mp h
        simp [PyData.eqv, all h1]
      · cases h
    | obj c fs => cases h
    | tupI xs => cases h
    | err c f d => cases h
theorem ne_same {d : D} {S : Store} (h : Py 60 S d) : cmpD .ne S (.val d) (.val d) = some false := by
  obtain ⟨a, e⟩ := h
  simp only [cmpD, pyQ, e, pd_refl e]
  rfl
theorem eq_same {d : D} {S : Store} (h : Py 60 S d) : cmpD .eq S (.val d) (.val d) = some true := by
  obtain ⟨a, e⟩ := h
  simp only [cmpD, pyQ, e, pd_refl e]
theorem eq_comm_ {d e : D} {S : Store} (h : Py 60 S d) (g : Py 60 S e) : ∃ b, cmpD .eq S (.val d) (.val e) = some b ∧ cmpD .eq S (.val e) (.val d) = some b := by
  obtain ⟨x, e1⟩ := h
  obtain ⟨y, e2⟩ := g
  refine ⟨PyData.eqv x y, by simp only [cmpD, pyQ, e1, e2], ?_⟩
  simp only [cmpD, pyQ, e1, e2]
  rw [PySem.W.eqv_comm y x]

section
variable [Pg] [Has 13]
theorem whole13 (n : Nat) {k : Nat} {d : D} {S : Store} (h : Py k S d) : calF Pg.G Pg.P (n + 1) 13 [d] S = .ok (.bl (isI d)) S := by
  have hk := py_kind h
  rw [d13]
  simp only [b13, execs_s1, execs_s0]
  cases d <;> simp [hk, kdD, isTy, isI]
end
section
variable [Pg] [Has 14]
theorem due14 (n : Nat) (a b : Bool) (S : Store) : calF Pg.G Pg.P (n + 1) 14 [.bl a, .bl b] S = .ok (.bl (decide (a = b))) S := by
  rw [d14]
  simp only [b14, execs_s1, execs_s0]
  cases a <;> cases b <;> simp
end
theorem six_nat (n d i : Nat) (h : i ≤ n) : HT.sIx n d (some (i : Int)) = i := by
  have e : HT.sIx n d (some (i : Int)) = min i n := HT.sIx_nat n d i
  omega
theorem cut_take {xs : List D} {i : Nat} (h : i ≤ xs.length) : cut xs none (some (i : Int)) = xs.take i := by
  unfold cut
  simp only [six_nat _ _ _ h]
  have : HT.sIx xs.length 0 none = 0 := rfl
  rw [this]
  simp
theorem cut_drop {xs : List D} {i : Nat} (h : i ≤ xs.length) : cut xs (some (i : Int)) none = xs.drop i := by
  unfold cut
  simp only [six_nat _ _ _ h]
  have : HT.sIx xs.length xs.length none = xs.length := rfl
  rw [this]
  rw [List.take_of_length_le (by simp)]
theorem set_cut {xs : List D} {i : Nat} (x : D) (h : i < xs.length) : xs.take i ++ x :: xs.drop (i + 1) = xs.set i x := by
  rw [List.set_eq_take_append_cons_drop, if_pos h]
def Pu (t : Nat) (d : D) : Prop := ∀ S, Py t S d
theorem cut_mem {xs : List D} {lo hi : Option Int} {x : D} (h : x ∈ cut xs lo hi) : x ∈ xs := List.mem_of_mem_drop (List.mem_of_mem_take h)
theorem cut_len (xs : List D) (lo hi : Option Int) : (cut xs lo hi).length ≤ xs.length := by
  unfold cut
  simp only [List.length_take, List.length_drop]
  omega
theorem c_hi (S : Store) (xs : List D) (k : Int) : cutD S (.val (.tup xs)) none (some k) = some (.val (.tup (cut xs none (some k)))) := rfl
theorem c_lo (S : Store) (xs : List D) (k : Int) : cutD S (.val (.tup xs)) (some k) none = some (.val (.tup (cut xs (some k) none))) := rfl
theorem c_both (S : Store) (xs : List D) (k m : Int) : cutD S (.val (.tup xs)) (some k) (some m) = some (.val (.tup (cut xs (some k) (some m)))) := rfl
theorem ne_unit {t : Nat} {xs : List D} {S : Store} (ht : t ≤ 58) (h : ∀ x ∈ xs, Py t S x) : cmpD .ne S (.val (.tup xs)) (.val (.tup [])) = some (!xs.isEmpty) := by
  have e : ∃ as, xs.mapM (pyOf 59 S) = some as ∧ as.isEmpty = xs.isEmpty := by
    obtain ⟨as, e⟩ := mapM_all (f := pyOf 59 S) fun x hx => (h x hx).le (by omega)
    refine ⟨as, e, ?_⟩
    cases xs with
    | nil => cases e; rfl
    | cons x xs =>
      obtain ⟨y, r, _, _, rfl⟩ := DI.mapM_cons e
      rfl
  obtain ⟨as, e1, e2⟩ := e
  have p1 : pyOf 60 S (.tup xs) = some (.tuple as) := by rw [py_tup, e1]; rfl
  have p2 : pyOf 60 S (.tup []) = some (.tuple []) := rfl
  simp only [cmpD, pyQ, p1, p2]
  rw [← e2]
  cases as <;> rfl
theorem pu_int (i : Int) : Pu 0 (.int i) := fun S => ⟨_, py_int S 0 i⟩
theorem pu_row (cs : List Int) : Pu 1 (rowD cs) := fun S => py_tup_iff.mpr fun x hx => by
  obtain ⟨c, _, rfl⟩ := List.mem_map.mp hx
  exact pu_int c S
theorem pu_rows (rs : List (List Int)) : Pu 2 (rowsD rs) := fun S => py_tup_iff.mpr fun x hx => by
  obtain ⟨c, _, rfl⟩ := List.mem_map.mp hx
  exact pu_row c S
theorem rows_ok {rs : List (List Int)} {N M : Nat} (h : RowsOk N M rs) (hN : 1 ≤ N ∧ N ≤ 4) (hM : 1 ≤ M ∧ M ≤ 4) : rowsB (rowsD rs) = true ∧ lenN (rowsD rs) = N ∧ lenM (rowsD rs) = M := by
  obtain ⟨h1, h2⟩ := h
  cases rs with
  | nil => simp at h1; omega
  | cons r rs =>
    have hr := h2 r (by simp)
    have cell : ∀ cs ∈ r :: rs, rowB M (rowD cs) = true := fun cs hc => by
      have q := h2 cs hc
      simp only [rowB, rowD, List.length_map, q.1, decide_true, Bool.true_and]
      refine List.all_eq_true.mpr fun x hx => ?_
      obtain ⟨c, hc', rfl⟩ := List.mem_map.mp hx
      have := q.2 c hc'
      simp [cellB, this]
    refine ⟨?_, by simp [rowsD, lenN] at h1 ⊢; exact h1, by simp [rowsD, rowD, lenM]; exact hr.1⟩
    have l1 : (rs.map rowD).length + 1 ≤ 4 := by rw [List.length_map]; simp at h1; omega
    show (decide ((rs.map rowD).length + 1 ≤ 4) && (decide (1 ≤ (r.map D.int).length ∧ (r.map D.int).length ≤ 4) && (D.tup (r.map D.int) :: rs.map rowD).all (rowB (r.map D.int).length))) = true
    have lr : (r.map D.int).length = M := by rw [List.length_map]; exact hr.1
    rw [lr]
    simp only [l1, hM, decide_true, and_self, Bool.true_and]
    refine List.all_eq_true.mpr fun x hx => ?_
    have hx' : x ∈ (r :: rs).map rowD := by simpa [rowD] using hx
    obtain ⟨cs, hc, rfl⟩ := List.mem_map.mp hx'
    exact cell cs hc
/-- the comparison of what is told -/
theorem py_sub {k : Nat} {xs ys : List D} {S : Store} (h : Py (k + 1) S (.tup xs)) (g : ∀ y ∈ ys, y ∈ xs) : Py (k + 1) S (.tup ys) := by
  rw [py_tup_iff] at h ⊢
  exact fun y hy => h y (g y hy)
theorem ok_rev {N M : Nat} {rs : List (List Int)} (h : RowsOk N M rs) : RowsOk N M rs.reverse := ⟨by simpa using h.1, fun r hr => h.2 r (by simpa using hr)⟩
theorem ok_revs {N M : Nat} {rs : List (List Int)} (h : RowsOk N M rs) : RowsOk N M (rs.map List.reverse) := ⟨by simpa using h.1, fun r hr => by
  obtain ⟨c, hc, rfl⟩ := List.mem_map.mp hr
  have q := h.2 c hc
  exact ⟨by simpa using q.1, fun x hx => q.2 x (by simpa using hx)⟩⟩
/-- the second loop's values -/
theorem lc_push {k : Nat} {body : D → Store → Res (Option D)} : ∀ (xs acc : List D) (S : Store), (∀ x ∈ xs, ∀ S', ∃ d T, body x S' = .ok (some d) (S' ++ T) ∧ Py k (S' ++ T) d) → (∀ y ∈ acc, Py k S y) →
    ∃ ys T, lcLoop [] body xs acc S = .ok ys (S ++ T) ∧ ∀ y ∈ ys, Py k (S ++ T) y
  | [], acc, S, _, ha => ⟨acc, [], by
      unfold lcLoop guarded
      rw [if_pos (show grdOk [] S from fun _ hp => by cases hp), List.append_nil], by simpa using ha⟩
  | x :: xs, acc, S, hb, ha => by
    obtain ⟨d, T, e, hd⟩ := hb x (by simp) S
    obtain ⟨ys, T2, e2, h2⟩ := lc_push xs (acc ++ [d]) (S ++ T) (fun y hy => hb y (by simp [hy])) (fun y hy => by
      rcases List.mem_append.mp hy with q | q
      · exact (ha y q).app T
      · rw [show y = d by simpa using q]; exact hd)
    refine ⟨ys, T ++ T2, ?_, ?_⟩
    · unfold lcLoop guarded
      rw [if_pos (show grdOk [] S from fun _ hp => by cases hp), e]
      simp only [Res.calm_ok, Res.bind_ok]
      rw [e2, List.append_assoc]
    · rw [← List.append_assoc]; exact h2
theorem mapM_ints {k : Nat} {S : Store} : ∀ c : List Int, (c.map D.int).mapM (pyOf k S) = some (c.map PyData.int)
  | [] => rfl
  | a :: c => by rw [List.map_cons, List.mapM_cons, mapM_ints c, py_int]; rfl
end DL
end

section
set_option Elab.async false
set_option linter.all false
set_option maxRecDepth 100000
set_option maxHeartbeats 0
/-! LbC: comprehensions over mapped lists; numbers of a kind; counts; ratios. -/
namespace DL
open PySem L2 DI
/-! ### comprehensions -/
section
variable {ι : Type} {g : Grd} {body : D → Store → Res (Option D)}
theorem lc_map {S : Store} {h f : ι → D} (hg : grdOk g S) : ∀ {xs : List ι} {acc : List D}, (∀ x ∈ xs, body (h x) S = .ok (some (f x)) S) → lcLoop g body (xs.map h) acc S = .ok (acc ++ xs.map f) S
  | [], acc, _ => by
    rw [List.map_nil]
    unfold lcLoop guarded
    rw [if_pos hg]; simp
  | x :: xs, acc, hx => by
    rw [List.map_cons]
    unfold lcLoop guarded
    rw [if_pos hg, hx x (by simp)]
    simp only [Res.calm_ok, Res.bind_ok]
    rw [lc_map hg fun y hy => hx y (by simp [hy])]
    simp
theorem lc_fm {S : Store} {h f : ι → D} {p : ι → Bool} (hg : grdOk g S) : ∀ {xs : List ι} {acc : List D}, (∀ x ∈ xs, body (h x) S = .ok (if p x = true then some (f x) else none) S) → lcLoop g body (xs.map h) acc S = .ok (acc ++ (xs.filter p).map f) S
  | [], acc, _ => by
    rw [List.map_nil]
    unfold lcLoop guarded
    rw [if_pos hg]; simp
  | x :: xs, acc, hx => by
    rw [List.map_cons]
    unfold lcLoop guarded
    rw [if_pos hg, hx x (by simp)]
    simp only [Res.calm_ok, Res.bind_ok]
    cases q : p x with
    | true =>
      simp only [if_true]
      rw [lc_fm hg fun y hy => hx y (by simp [hy])]
      simp [q]
    | false =>
      simp only [Bool.false_eq_true, if_false]
      rw [lc_fm hg fun y hy => hx y (by simp [hy])]
      simp [q]
/-- where each turn may leave something behind -/
theorem lc_grow {S : Store} {h f : ι → D} (hg : ∀ T, grdOk g (S ++ T)) : ∀ {xs : List ι} {acc : List D} {T : Store}, (∀ x ∈ xs, ∀ T, ∃ T', body (h x) (S ++ T) = .ok (some (f x)) (S ++ T ++ T')) → ∃ T', lcLoop g body (xs.map h) acc (S ++ T) = .ok (acc ++ xs.map f) (S ++ T ++ T')
  | [], acc, T, _ => by
    rw [List.map_nil]
    unfold lcLoop guarded
    rw [if_pos (hg T)]
    exact ⟨[], by simp⟩
  | x :: xs, acc, T, hx => by
    rw [List.map_cons]
    unfold lcLoop guarded
    obtain ⟨T1, e1⟩ := hx x (by simp) T
    obtain ⟨T2, e2⟩ := lc_grow hg (xs := xs) (acc := acc ++ [f x]) (T := T ++ T1) fun y hy => hx y (by simp [hy])
    rw [if_pos (hg T), e1]
    simp only [Res.calm_ok, Res.bind_ok]
    refine ⟨T1 ++ T2, ?_⟩
    rw [show S ++ T ++ T1 = S ++ (T ++ T1) by simp, e2]
    simp
end
theorem zipD_map {α β : Type} {f : α → D} {g : β → D} : ∀ {xs : List α} {ys : List β}, zipD (xs.map f) (ys.map g) = (xs.zip ys).map fun p => .tup [f p.1, g p.2]
  | [], _ => by simp [zipD]
  | x :: xs, [] => by simp [zipD]
  | x :: xs, y :: ys => by simp [zipD, zipD_map (xs := xs) (ys := ys)]
theorem mulR {i j : Int} (h1 : -(2 ^ 64) < j) (h2 : j < 2 ^ 64) : mulOk i j = true := by
  unfold mulOk
  rw [decide_eq_true h1, decide_eq_true h2]
  simp
theorem mulL {i j : Int} (h1 : -(2 ^ 64) < i) (h2 : i < 2 ^ 64) : mulOk i j = true := by
  unfold mulOk
  rw [decide_eq_true h1, decide_eq_true h2]
  simp
theorem mulS {i j : Int} (h : -1 ≤ j ∧ j ≤ 1) : mulOk i j = true := mulR (by omega) (by omega)
def dot (xs ys : List Int) : Int := ((xs.zip ys).map fun p => p.1 * p.2).sum
@[simp] theorem walk_tup_ (S : Store) (xs : List D) : walkOf S (.val (.tup xs)) = some (xs, []) := rfl
@[simp] theorem walk_fresh_ (S : Store) (xs : List D) : walkOf S (.fresh xs) = some (xs, []) := rfl
theorem grd_nil (S : Store) : grdOk [] S := fun p hp => by cases hp
@[simp] theorem bind_two (i j : Nat) (x y : D) (σ : DI.Env) : bindTg (.two i j) (.tup [x, y]) σ = some ((σ.set i (some x)).set j (some y)) := rfl
@[simp] theorem bind_one (i : Nat) (x : D) (σ : DI.Env) : bindTg (.one i) x σ = some (σ.set i (some x)) := rfl
/-- sum([x * y for x, y in zip(xs, ys)]) -/
theorem sum_zip {G : Gx} {cal : Nat → List D → Store → Res D} {σ : DI.Env} {S : Store} {i j : Nat} {a b c : CE} {xs ys : List Int} (ha : ev G cal a σ S = .ok (.val (.tup (xs.map .int))) S) (hb : ev G cal b σ S = .ok (.val (.tup (ys.map .int))) S)
    (hi : i < σ.length) (hj : j < σ.length) (hij : i ≠ j) (hm : ∀ p ∈ xs.zip ys, mulOk p.1 p.2 = true) :
    ev G cal (.b1 .sum (.lc (.two i j) (.zip a b) false c (.bin .mul (.var i) (.var j)))) σ S = .ok (.val (.int (dot xs ys))) S := by
  rw [ev_s24, ev_s28, evIt_s4, ha]
  simp only [Res.bind_ok, hb, walk_tup_, List.append_nil, zipD_map]
  rw [lc_map (f := fun p : Int × Int => .int (p.1 * p.2)) (grd_nil S)]
  · simp only [List.nil_append, Res.bind_ok]
    rw [show ((xs.zip ys).map fun p => D.int (p.1 * p.2)) = ((xs.zip ys).map fun p => p.1 * p.2).map D.int by simp, o_sumF]
    rfl
  · intro p hp
    have e1 : ((σ.set i (some (D.int p.1))).set j (some (D.int p.2)))[i]? = some (some (.int p.1)) := by
      rw [List.getElem?_set_ne (Ne.symm hij), List.getElem?_set_self hi]
    have e2 : ((σ.set i (some (D.int p.1))).set j (some (D.int p.2)))[j]? = some (some (.int p.2)) := List.getElem?_set_self (by simpa using hj)
    simp [e1, e2, bn_mul S (hm p hp)]
/-! ### lists of numbers as data -/
@[simp] theorem o_minT (S : Store) (ns : List Int) : b1D .min S (.val (.tup (ns.map .int))) = (minL ns).map fun m => .val (.int m) := by
  show (((some (ns.map D.int)).bind intsOf).bind minL).map _ = _
  simp [ints_map]
@[simp] theorem o_maxT (S : Store) (ns : List Int) : b1D .max S (.val (.tup (ns.map .int))) = (maxL ns).map fun m => .val (.int m) := by
  show (((some (ns.map D.int)).bind intsOf).bind maxL).map _ = _
  simp [ints_map]
@[simp] theorem o_minF (S : Store) (ns : List Int) : b1D .min S (.fresh (ns.map .int)) = (minL ns).map fun m => .val (.int m) := by
  show (((some (ns.map D.int)).bind intsOf).bind minL).map _ = _
  simp [ints_map]
@[simp] theorem o_maxF (S : Store) (ns : List Int) : b1D .max S (.fresh (ns.map .int)) = (maxL ns).map fun m => .val (.int m) := by
  show (((some (ns.map D.int)).bind intsOf).bind maxL).map _ = _
  simp [ints_map]
theorem seq_lst {S : Store} {n : Nat} {xs : List D} (h : S[n]? = some (.lst xs)) : seqOf S (.val (.loc n)) = some xs := by simp only [seqOf, lstOf, h]
theorem o_minL {S : Store} {n : Nat} {ns : List Int} (h : S[n]? = some (.lst (ns.map .int))) : b1D .min S (.val (.loc n)) = (minL ns).map fun m => .val (.int m) := by
  show (((seqOf S (.val (.loc n))).bind intsOf).bind minL).map _ = _
  rw [seq_lst h]; simp [ints_map]
theorem o_maxL {S : Store} {n : Nat} {ns : List Int} (h : S[n]? = some (.lst (ns.map .int))) : b1D .max S (.val (.loc n)) = (maxL ns).map fun m => .val (.int m) := by
  show (((seqOf S (.val (.loc n))).bind intsOf).bind maxL).map _ = _
  rw [seq_lst h]; simp [ints_map]
theorem o_sumL {S : Store} {n : Nat} {ns : List Int} (h : S[n]? = some (.lst (ns.map .int))) : b1D .sum S (.val (.loc n)) = some (.val (.int ns.sum)) := by
  show ((seqOf S (.val (.loc n))).bind intsOf).map _ = _
  rw [seq_lst h]; simp [ints_map]
@[simp] theorem b2_gcd (i j : Int) : b2D .gcd (.val (.int i)) (.val (.int j)) = some (.val (.int (Int.gcd i j : Nat))) := rfl
theorem minL_some : ∀ {ns : List Int}, ns ≠ [] → ∃ m, minL ns = some m
  | [], h => absurd rfl h
  | _ :: _, _ => ⟨_, rfl⟩
theorem maxL_some : ∀ {ns : List Int}, ns ≠ [] → ∃ m, maxL ns = some m
  | [], h => absurd rfl h
  | _ :: _, _ => ⟨_, rfl⟩
theorem eq_nil {S : Store} {ys : List D} (h : ∀ y ∈ ys, ∃ a, pyOf 59 S y = some a) : cmpD .eq S (.fresh ys) (.fresh []) = some ys.isEmpty := by
  have e : ∃ as, ys.mapM (pyOf 59 S) = some as ∧ as.isEmpty = ys.isEmpty := by
    cases ys with
    | nil => exact ⟨[], rfl, rfl⟩
    | cons y ys =>
      obtain ⟨a, e1⟩ := h y (by simp)
      obtain ⟨bs, e3⟩ := mapM_all fun z hz => h z (List.mem_cons_of_mem y hz)
      exact ⟨a :: bs, by rw [List.mapM_cons, e1, e3]; rfl, rfl⟩
  obtain ⟨as, e1, e2⟩ := e
  simp only [cmpD, pyQ, e1]
  rw [← e2]
  cases as <;> rfl
/-- a value that is data, for comparisons -/
theorem Py.at59 {k : Nat} {S : Store} {d : D} (h : Py k S d) (hk : k ≤ 59) : ∃ a, pyOf 59 S d = some a := h.le hk
/-! ### numbers of a kind -/
def numB (lo hi : Int) : D → Bool
  | .int i => decide (lo ≤ i ∧ i ≤ hi)
  | _ => false
def intsB (lo hi : Int) : D → Bool
  | .tup xs => xs.all (numB lo hi)
  | _ => false
def sumD : D → Int
  | .tup xs => match intsOf xs with
    | some ns => ns.sum
    | none => 0
  | _ => 0
def countsB (m : Int) : D → Bool
  | .tup xs => xs.all (numB 0 999999) && (decide ((xs.length : Int) = m) && decide (0 < sumD (.tup xs)))
  | _ => false
theorem ints_all {lo hi : Int} : ∀ {xs : List D}, xs.all (numB lo hi) = true → ∃ ns : List Int, xs = ns.map .int ∧ ∀ n ∈ ns, lo ≤ n ∧ n ≤ hi
  | [], _ => ⟨[], rfl, by simp⟩
  | x :: xs, h => by
    rw [List.all_cons, Bool.and_eq_true] at h
    obtain ⟨ns, e, q⟩ := ints_all h.2
    cases x with
    | int i =>
      have := of_decide_eq_true h.1
      exact ⟨i :: ns, by rw [e]; rfl, by simpa using ⟨this, q⟩⟩
    | _ => simp [numB] at h
theorem all_ints {lo hi : Int} {ns : List Int} (h : ∀ n ∈ ns, lo ≤ n ∧ n ≤ hi) : (ns.map D.int).all (numB lo hi) = true := by
  rw [List.all_map, List.all_eq_true]
  intro n hn
  simpa [numB] using h n hn
@[simp] theorem sumD_ints (ns : List Int) : sumD (.tup (ns.map .int)) = ns.sum := by simp [sumD, ints_map]
theorem counts_is {m : Int} {d : D} (h : countsB m d = true) : ∃ ns : List Int, d = .tup (ns.map .int) ∧ (∀ n ∈ ns, 0 ≤ n ∧ n ≤ 999999) ∧ (ns.length : Int) = m ∧ 0 < ns.sum := by
  cases d with
  | tup xs =>
    simp only [countsB, Bool.and_eq_true, decide_eq_true_eq] at h
    obtain ⟨h1, h2, h3⟩ := h
    obtain ⟨ns, rfl, q⟩ := ints_all h1
    exact ⟨ns, rfl, q, by simpa using h2, by simpa using h3⟩
  | _ => simp [countsB] at h
theorem counts_of {m : Int} {ns : List Int} (h1 : ∀ n ∈ ns, 0 ≤ n ∧ n ≤ 999999) (h2 : (ns.length : Int) = m) (h3 : 0 < ns.sum) : countsB m (.tup (ns.map .int)) = true := by
  simp [countsB, all_ints h1, h2, h3]
section
variable [Pg] [Has 0] [Has 1]
theorem in1 (n : Nat) {k : Nat} {lo hi : Int} {d : D} {S : Store} (h : Py k S d) : calF Pg.G Pg.P (n + 2) 1 [d, .int lo, .int hi] S = .ok (.bl (numB lo hi d)) S := by
  have h0 : calF Pg.G Pg.P (n + 1) 0 [d] S = .ok (.bl (isI d)) S := by
    have hk := py_kind h
    rw [d0]
    simp only [b0, execs_s1, execs_s0]
    cases d <;> simp [hk, kdD, isTy, isI]
  rw [d1]
  simp only [b1, execs_s1, execs_s0]
  cases d with
  | int i =>
    simp [h0, isI]
    by_cases c : lo ≤ i
    · simp [c, numB]
    · simp [c, numB]
  | _ => simp [h0, isI, numB]
variable [Has 20]
theorem ints20 (n : Nat) {k : Nat} {lo hi : Int} {d : D} {S : Store} (h : Py (k + 1) S d) : calF Pg.G Pg.P (n + 3) 20 [d, .int lo, .int hi] S = .ok (.bl (intsB lo hi d)) S := by
  have hk := py_kind h
  rw [d20]
  simp only [b20, execs_s1, execs_s0]
  generalize hE : CE.b1 .all_ (.lc (.one 3) (.e (.var 0)) false (.cn .non) (.call 1 (.cons (.var 3) (.cons (.var 1) (.cons (.var 2) .nil))))) = E
  cases d with
  | tup xs =>
    have e : ev Pg.G (calF Pg.G Pg.P (n + 2)) E [some (.tup xs), some (.int lo), some (.int hi), none] S = .ok (.val (.bl (xs.all (numB lo hi)))) S := by
      subst hE
      exact all_lc (xs := xs) (g := []) (f := numB lo hi) (by simp) (grd_nil S) fun z hz => by simp [in1 n (py_tup_iff.mp h z hz)]
    simp [hk, kdD, isTy, e, intsB]
  | _ => simp [hk, kdD, isTy, intsB]
variable [Has 22]
theorem counts22 (n : Nat) {k : Nat} {m : Int} {d : D} {S : Store} (h : Py (k + 1) S d) : calF Pg.G Pg.P (n + 4) 22 [d, .int m] S = .ok (.bl (countsB m d)) S := by
  rw [d22]
  simp only [b22, execs_s1, execs_s0]
  cases d with
  | tup xs =>
    cases q : xs.all (numB 0 999999) with
    | true =>
      obtain ⟨ns, rfl, hn⟩ := ints_all q
      by_cases c : (ns.length : Int) = m
      · simp [ints20 n h, intsB, q, countsB, c]
      · simp [ints20 n h, intsB, q, countsB, c]
    | false => simp [ints20 n h, intsB, q, countsB]
  | _ => simp [ints20 n h, intsB, countsB]
end
/-! ### what a game tells of itself -/
/-- a game of rows that are right -/
def gm (rs : List (List Int)) : D := gameD (rowsD rs)
@[simp] theorem lenN_rows (rs : List (List Int)) : lenN (rowsD rs) = rs.length := by simp [rowsD, lenN]
theorem lenM_rows {N M : Nat} {rs : List (List Int)} (h : RowsOk N M rs) (hN : 1 ≤ N) : lenM (rowsD rs) = M := by
  cases rs with
  | nil => have := h.1; simp at this; omega
  | cons r rs => simp [rowsD, rowD, lenM, (h.2 r (by simp)).1]
section
variable [Pg] [HasGame]
@[simp] theorem at_rows (S : Store) (rs : List (List Int)) : attrD Pg.G S (gm rs) 3 = some (rowsD rs) := by
  unfold attrD gm gameD
  simp only [fsD, Option.bind_some]
  rw [if_pos (by rw [HasGame.fl]; rfl)]; rfl
@[simp] theorem at_exs (S : Store) (rs : List (List Int)) : attrD Pg.G S (gm rs) 4 = some (.int rs.length) := by
  unfold attrD gm gameD
  simp only [fsD, Option.bind_some]
  rw [if_pos (by rw [HasGame.fl]; rfl), ← lenN_rows]; rfl
theorem at_rules {N M : Nat} {rs : List (List Int)} (h : RowsOk N M rs) (hN : 1 ≤ N) (S : Store) : attrD Pg.G S (gm rs) 5 = some (.int M) := by
  unfold attrD gm gameD
  simp only [fsD, Option.bind_some]
  rw [if_pos (by rw [HasGame.fl]; rfl), ← lenM_rows h hN]; rfl
end
/-! ### ratios -/
def ratD (a b : Int) : D := .tup [.int (a.fdiv (Int.gcd a b : Nat)), .int (b.fdiv (Int.gcd a b : Nat))]
theorem gcd_pos {a b : Int} (hb : 0 < b) : (0 : Int) < (Int.gcd a b : Nat) := by
  have : 0 < Int.gcd a b := Int.gcd_pos_of_ne_zero_right a (by omega)
  omega
theorem gcd_le {a b : Int} (hb : 0 < b) : ((Int.gcd a b : Nat) : Int) ≤ b := Int.le_of_dvd hb (Int.gcd_dvd_right ..)
theorem gcd_small {a b : Int} (hb : 0 < b) (h2 : b < 2 ^ 200) : ((Int.gcd a b : Nat) : Int).natAbs < 2 ^ 200 := by
  have h1 := gcd_le (a := a) hb
  rw [Int.natAbs_natCast]
  have : ((Int.gcd a b : Nat) : Int) < 2 ^ 200 := by omega
  exact Int.ofNat_lt.mp (by simpa using this)
section
variable [Pg] [Has 21]
theorem ratio21 (n : Nat) {a b : Int} {S : Store} (hb : 0 < b) (h2 : b < 2 ^ 200) : calF Pg.G Pg.P (n + 1) 21 [.int a, .int b] S = .ok (ratD a b) S := by
  have g0 := gcd_pos (a := a) hb
  have g1 : ((Int.gcd a b : Nat) : Int) ≠ 0 := by omega
  have g2 := gcd_small (a := a) hb h2
  have z : 2 ≤ sizeLine := by decide
  rw [d21]
  simp only [b21, execs_s1, execs_s0]
  generalize hg : ((Int.gcd a b : Nat) : Int) = g at *
  simp [hg, bn_fdivB S g1 g2, z, ratD]
end
end DL
end

section
set_option Elab.async false
set_option linter.all false
set_option maxRecDepth 100000
set_option maxHeartbeats 0
/-! LbD: votes, weights, margins, edges. -/
namespace DL
open PySem L2 DI
def gainsL (rs : List (List Int)) (vs : List Int) : List Int := rs.map fun r => dot vs r
def edgeL (rs : List (List Int)) (ws : List Int) (j : Nat) : Int := ((ws.zip rs).map fun p => p.1 * p.2.getD j 0).sum
def edgesL (M : Nat) (rs : List (List Int)) (ws : List Int) : List Int := (List.range M).map (edgeL rs ws)
theorem rowsD_eq (rs : List (List Int)) : rowsD rs = .tup (rs.map rowD) := rfl
theorem edgesL_len (M : Nat) (rs : List (List Int)) (ws : List Int) : (edgesL M rs ws).length = M := by simp [edgesL]
theorem row_get {M : Nat} {r : List Int} (h : RowOk M r) {j : Nat} (hj : j < M) : L2.atI (r.map D.int) (j : Int) = some (.int (r.getD j 0)) ∧ -1 ≤ r.getD j 0 ∧ r.getD j 0 ≤ 1 := by
  have hl : j < r.length := by rw [h.1]; exact hj
  have e : r.getD j 0 = r[j] := by simp [List.getD, hl]
  rw [e]
  refine ⟨?_, h.2 _ (List.getElem_mem hl)⟩
  rw [at_nat (by omega) (by simpa using hl)]
  simp [hl]
theorem gainsL_ne {N M : Nat} {rs : List (List Int)} (h : RowsOk N M rs) (hN : 1 ≤ N) (vs : List Int) : gainsL rs vs ≠ [] := by
  intro z
  have := congrArg List.length z
  simp [gainsL, h.1] at this
  omega
theorem edgesL_ne {M : Nat} (hM : 1 ≤ M) (rs : List (List Int)) (ws : List Int) : edgesL M rs ws ≠ [] := by
  intro z
  have := congrArg List.length z
  simp [edgesL] at this
  omega
/-- the least margin, the greatest edge -/
def marD (rs : List (List Int)) (vs : List Int) : D := ratD ((minL (gainsL rs vs)).getD 0) vs.sum
def edgD (M : Nat) (rs : List (List Int)) (ws : List Int) : D := ratD ((maxL (edgesL M rs ws)).getD 0) ws.sum
theorem sum_small {ns : List Int} (h : ∀ n ∈ ns, 0 ≤ n ∧ n ≤ 999999) (hl : ns.length ≤ 4) : ns.sum ≤ 3999996 := by
  have : ∀ ns : List Int, (∀ n ∈ ns, 0 ≤ n ∧ n ≤ 999999) → ns.sum ≤ 999999 * ns.length := fun ns => by
    induction ns with
    | nil => simp
    | cons a ns ih =>
      intro h
      have := ih fun n hn => h n (by simp [hn])
      have := (h a (by simp)).2
      simp only [List.sum_cons, List.length_cons]
      omega
  have := this ns h
  omega
theorem o_tupIL {S : Store} {n : Nat} {xs : List D} (h : S[n]? = some (.lst xs)) : b1D .tupleI S (.val (.loc n)) = some (.val (.tupI xs)) := by
  show (lstOf S (.val (.loc n))).map _ = _
  simp only [lstOf, h]; rfl
@[simp] theorem o_maxI (S : Store) (ns : List Int) : b1D .max S (.val (.tupI (ns.map .int))) = (maxL ns).map fun m => .val (.int m) := by
  show (((some (ns.map D.int)).bind intsOf).bind maxL).map _ = _
  simp [ints_map]
section
variable [Pg] [HasGame] [Has 25]
theorem gains25 (n : Nat) {N M : Nat} {rs : List (List Int)} {vs : List Int} {S : Store} (h : RowsOk N M rs) : calF Pg.G Pg.P (n + 1) 25 [gm rs, .tup (vs.map .int)] S = .ok (.tup ((gainsL rs vs).map .int)) S := by
  rw [d25]
  simp only [b25, execs_s1, execs_s0]
  have e2 : ∀ r ∈ rs, ev Pg.G (calF Pg.G Pg.P n) (.b1 .sum (.lc (.two 3 4) (.zip (.var 1) (.var 2)) false (.cn .non) (.bin .mul (.var 3) (.var 4)))) [some (gm rs), some (.tup (vs.map .int)), some (rowD r), none, none] S = .ok (.val (.int (dot vs r))) S := fun r hr =>
    sum_zip (by simp) (by simp [rowD]) (by simp) (by simp) (by decide) fun p hp => mulS ((h.2 r hr).2 _ (List.of_mem_zip hp).2)
  generalize CE.b1 .sum (.lc (.two 3 4) (.zip (.var 1) (.var 2)) false (.cn .non) (.bin .mul (.var 3) (.var 4))) = E at e2
  have e3 : ev Pg.G (calF Pg.G Pg.P n) (.lc (.one 2) (.e (.attr (.var 0) 3)) false (.cn .non) E) [some (gm rs), some (.tup (vs.map .int)), none, none, none] S = .ok (.fresh ((gainsL rs vs).map .int)) S := by
    rw [ev_s28, evIt_s0]
    simp only [ev_s20, ev_s0, List.getElem?_cons_zero, Res.bind_ok, at_rows, lift_some, rowsD_eq, walk_tup_]
    rw [lc_map (f := fun r => .int (dot vs r)) (grd_nil S)]
    · simp [gainsL]
    · intro r hr
      simp [e2 r hr]
  rw [exec_s10, ev_s24, e3]
  simp
end
section
variable [Pg] [HasGame] [Has 26]
theorem edge_turn {cal : Nat → List D → Store → Res D} {N M j : Nat} {rs : List (List Int)} {ws : List Int} {S : Store} {t2 t4 t5 : Option D} (h : RowsOk N M rs) (hj : j < M) :
    ev Pg.G cal (.b1 .sum (.lc (.two 4 5) (.zip (.var 1) (.attr (.var 0) 3)) false (.cn .non) (.bin .mul (.var 4) (.idx (.var 5) (.var 3))))) [some (gm rs), some (.tup (ws.map .int)), t2, some (.int j), t4, t5] S = .ok (.val (.int (edgeL rs ws j))) S := by
  rw [ev_s24, ev_s28, evIt_s4]
  simp only [ev_s20, ev_s0, List.getElem?_cons_succ, List.getElem?_cons_zero, Res.bind_ok, at_rows, lift_some, rowsD_eq, walk_tup_, List.append_nil, zipD_map]
  rw [lc_map (f := fun p : Int × List Int => .int (p.1 * p.2.getD j 0)) (grd_nil S)]
  · simp only [List.nil_append, Res.bind_ok]
    rw [show ((ws.zip rs).map fun p => D.int (p.1 * p.2.getD j 0)) = ((ws.zip rs).map fun p => p.1 * p.2.getD j 0).map D.int by simp, o_sumF]
    rfl
  · intro p hp
    obtain ⟨q1, q2, q3⟩ := row_get (h.2 p.2 (List.of_mem_zip hp).2) hj
    simp only [List.getD_eq_getElem?_getD] at q1 q2 q3
    simp [rowD, q1, bn_mul S (mulS ⟨q2, q3⟩)]
theorem edges26 (n : Nat) {N M : Nat} {rs : List (List Int)} {ws : List Int} {S : Store} (h : RowsOk N M rs) (hN : 1 ≤ N) (hM : M ≤ 4) : calF Pg.G Pg.P (n + 1) 26 [gm rs, .tup (ws.map .int)] S = .ok (.tupI ((edgesL M rs ws).map .int)) (S ++ [.lst ((edgesL M rs ws).map .int)]) := by
  suffices hw : Wp (calF Pg.G Pg.P (n + 1) 26 [gm rs, .tup (ws.map .int)] S) fun d S' => d = .tupI ((edgesL M rs ws).map .int) ∧ S' = S ++ [.lst ((edgesL M rs ws).map .int)] by
    obtain ⟨d, S', e, rfl, rfl⟩ := wp_get hw
    exact e
  rw [d26, wp_fin]
  have z0 : 0 ≤ sizeLine := by decide
  have hturn : ∀ (j : Nat) (t2 t4 t5 : Option D) (S : Store), j < M → ev Pg.G (calF Pg.G Pg.P n) (.b1 .sum (.lc (.two 4 5) (.zip (.var 1) (.attr (.var 0) 3)) false (.cn .non) (.bin .mul (.var 4) (.idx (.var 5) (.var 3))))) [some (gm rs), some (.tup (ws.map .int)), t2, some (.int j), t4, t5] S = .ok (.val (.int (edgeL rs ws j))) S := fun j t2 t4 t5 S hj => edge_turn h hj
  simp only [b26]
  generalize CE.b1 .sum (.lc (.two 4 5) (.zip (.var 1) (.attr (.var 0) 3)) false (.cn .non) (.bin .mul (.var 4) (.idx (.var 5) (.var 3)))) = E at hturn
  refine ws_cons ?_
  simp only [exec_s0, ev_s13, evs_s0, Res.bind_ok, List.length_nil, z0, if_true, Res.st_ok, mat_fresh, ws_nx, List.set_cons_succ, List.set_cons_zero]
  refine ws_cons ?_
  simp only [exec_s8, evIt_s1, ev_s20, ev_s0, List.getElem?_cons_zero, Res.bind_ok, at_rules h hN, lift_some]
  rw [if_pos (rng_ok M (by omega))]
  simp only [Res.st_ok]
  have es : (edgesL M rs ws).map D.int = (List.range M).map fun j => D.int (edgeL rs ws j) := by simp [edgesL]
  rw [es]
  refine ws_for (fun k σ S' => S' = S ++ [.lst ((List.range k).map fun j => D.int (edgeL rs ws j))] ∧ ∃ t3, σ = [some (gm rs), some (.tup (ws.map .int)), some (.loc S.length), t3, none, none]) (fun _ _ _ _ => grd_nil _) (i := 0) ⟨by simp, none, rfl⟩ (fun k x σ S' hx ⟨e1, t3, e2⟩ => ?_) (fun σ S' ⟨e1, t3, e2⟩ => ?_)
  · subst e1 e2
    obtain ⟨hk, rfl⟩ := rngL_get hx
    have hk' : k < M := by simpa using hk
    simp only [Nat.zero_add, bind_one, List.set_cons_succ, List.set_cons_zero, Int.zero_add]
    refine ws_cons ?_
    have hn : (S ++ [Cell.lst ((List.range k).map fun j => D.int (edgeL rs ws j))])[S.length]? = some (.lst ((List.range k).map fun j => D.int (edgeL rs ws j))) := at_push _ _
    have hz : k < sizeLine := by have : sizeLine = 16777216 := sizeLine_eq; omega
    simp [hturn k _ _ _ _ hk', is_lst hn, hn, bmD, hz]
    refine ws_nil ?_
    simp [List.range_succ]
  · subst e1 e2
    refine ws_cons ?_
    have hr : 0 + (rngL 0 (M : Int).toNat).length = M := by simp
    rw [hr]
    have hn : (S ++ [Cell.lst ((List.range M).map fun j => D.int (edgeL rs ws j))])[S.length]? = some (.lst ((List.range M).map fun j => D.int (edgeL rs ws j))) := at_push _ _
    simp only [exec_s10, ev_s24, ev_s0, List.getElem?_cons_succ, List.getElem?_cons_zero, Res.bind_ok, o_tupIL hn, lift_some, Res.st_ok, mat_val, ws_rt]
    simp
end
section
variable [Pg] [HasGame] [Has 0] [Has 1] [Has 20] [Has 22]
theorem votes23 [Has 23] (n : Nat) {k N M : Nat} {rs : List (List Int)} {d : D} {S : Store} (h : RowsOk N M rs) (hN : 1 ≤ N) (hd : Py (k + 1) S d) : calF Pg.G Pg.P (n + 5) 23 [gm rs, d] S = .ok (.bl (countsB M d)) S := by
  rw [d23]
  simp only [b23, execs_s1, execs_s0]
  simp [at_rules h hN, counts22 n hd]
theorem weights24 [Has 24] (n : Nat) {k N M : Nat} {rs : List (List Int)} {d : D} {S : Store} (h : RowsOk N M rs) (hd : Py (k + 1) S d) : calF Pg.G Pg.P (n + 5) 24 [gm rs, d] S = .ok (.bl (countsB N d)) S := by
  rw [d24]
  simp only [b24, execs_s1, execs_s0]
  simp [h.1, counts22 n hd]
variable [Has 23] [Has 24] [Has 25] [Has 26] [Has 27] [Has 28] [Has 29] [Has 21]
theorem gains27 (n : Nat) {N M : Nat} {rs : List (List Int)} {vs : List Int} {S : Store} (h : RowsOk N M rs) (hN : 1 ≤ N) (hv : countsB M (.tup (vs.map .int)) = true) : calF Pg.G Pg.P (n + 6) 27 [gm rs, .tup (vs.map .int)] S = .ok (.tup ((gainsL rs vs).map .int)) S := by
  rw [d27]
  simp only [b27, execs_s1, execs_s0]
  have hp : Py 1 S (.tup (vs.map .int)) := pu_row vs S
  simp [votes23 n (k := 0) h hN hp, hv, gains25 (n + 4) h, execs_s0]
theorem gains27_no (n : Nat) {k N M : Nat} {rs : List (List Int)} {d : D} {S : Store} (h : RowsOk N M rs) (hN : 1 ≤ N) (hd : Py (k + 1) S d) (hv : countsB M d = false) : calF Pg.G Pg.P (n + 6) 27 [gm rs, d] S = .exc 4 d S := by
  rw [d27]
  simp only [b27, execs_s1, execs_s0]
  simp [votes23 n h hN hd, hv, execs_s1]
theorem least28 (n : Nat) {N M : Nat} {rs : List (List Int)} {vs : List Int} {S : Store} (h : RowsOk N M rs) (hN : 1 ≤ N) (hM : M ≤ 4) (hv : countsB M (.tup (vs.map .int)) = true) : calF Pg.G Pg.P (n + 7) 28 [gm rs, .tup (vs.map .int)] S = .ok (marD rs vs) S := by
  obtain ⟨ns, e, h1, h2, h3⟩ := counts_is hv
  have : ns = vs := by
    have := D.tup.inj e
    exact (List.map_inj_right fun a b q => by cases q; rfl).mp this.symm
  subst this
  obtain ⟨m, hm⟩ := minL_some (gainsL_ne h hN ns)
  have sm := sum_small h1 (by omega)
  rw [d28]
  simp only [b28, execs_s1, execs_s0]
  simp [gains27 n h hN hv, hm, ratio21 (n + 5) h3 (show ns.sum < 2 ^ 200 by omega), marD]
theorem least28_no (n : Nat) {k N M : Nat} {rs : List (List Int)} {d : D} {S : Store} (h : RowsOk N M rs) (hN : 1 ≤ N) (hd : Py (k + 1) S d) (hv : countsB M d = false) : calF Pg.G Pg.P (n + 7) 28 [gm rs, d] S = .exc 4 d S := by
  rw [d28]
  simp only [b28, execs_s1, execs_s0]
  simp [gains27_no n h hN hd hv]
theorem great29 (n : Nat) {N M : Nat} {rs : List (List Int)} {ws : List Int} {S : Store} (h : RowsOk N M rs) (hN : 1 ≤ N ∧ N ≤ 4) (hM : 1 ≤ M ∧ M ≤ 4) (hv : countsB N (.tup (ws.map .int)) = true) : calF Pg.G Pg.P (n + 6) 29 [gm rs, .tup (ws.map .int)] S = .ok (edgD M rs ws) (S ++ [.lst ((edgesL M rs ws).map .int)]) := by
  obtain ⟨ns, e, h1, h2, h3⟩ := counts_is hv
  have : ns = ws := by
    have := D.tup.inj e
    exact (List.map_inj_right fun a b q => by cases q; rfl).mp this.symm
  subst this
  obtain ⟨m, hm⟩ := maxL_some (edgesL_ne hM.1 rs ns)
  have sm := sum_small h1 (by omega)
  rw [d29]
  simp only [b29, execs_s1, execs_s0]
  have hp : Py 1 S (.tup (ns.map .int)) := pu_row ns S
  simp [weights24 n (k := 0) h hp, hv, edges26 (n + 4) h hN.1 hM.2, execs_s0, hm, ratio21 (n + 4) h3 (show ns.sum < 2 ^ 200 by omega), edgD]
theorem great29_no (n : Nat) {k N M : Nat} {rs : List (List Int)} {d : D} {S : Store} (h : RowsOk N M rs) (hd : Py (k + 1) S d) (hv : countsB N d = false) : calF Pg.G Pg.P (n + 6) 29 [gm rs, d] S = .exc 5 d S := by
  rw [d29]
  simp only [b29, execs_s1, execs_s0]
  simp [weights24 n h hd, hv, execs_s1]
end
end DL
end

section
set_option Elab.async false
set_option linter.all false
set_option maxRecDepth 100000
set_option maxHeartbeats 0
/-! LbE: the laws' own reckonings. -/
namespace DL
open PySem L2 DI
/-! ### the greatest common divisor by turns -/
def body31 : CSs := loopOf (hd b31)
theorem b31_eq : b31 = .cons (.forS (.one 2) (.rng1 (.cn (.int 9999))) body31) (.cons (.ret (.cn (.int 1))) .nil) := rfl
section
variable [Pg]
theorem gcd_turns {cal : Nat → List D → Store → Res D} {S : Store} {R : D → Store → Prop} {N : DI.Env → Store → Prop} : ∀ (k : Nat) (a b : Int) (xs : List D) (t : Option D), 0 ≤ a → 0 ≤ b → b < 2 ^ k → 2 * k < xs.length → R (.int (Int.gcd a b : Nat)) S →
    Ws (forLoop [] (fun x σ2 S2 => match bindTg (.one 2) x σ2 with
      | some σ3 => DI.execs Pg.G cal body31 σ3 S2
      | none => .bad) xs [some (.int a), some (.int b), t] S) N R
  | k, a, b, [], t, _, _, _, hl, _ => by simp at hl
  | k, a, b, x :: xs, t, ha, hb, hk, hl, hR => by
    unfold forLoop guardS
    rw [if_pos (grd_nil S)]
    by_cases q : b = 0
    · subst q
      rw [Int.gcd_zero_right] at hR
      have e : ((a.natAbs : Nat) : Int) = a := Int.natAbs_of_nonneg ha
      rw [e] at hR
      simp [body31, loopOf, hd, b31, execs_s1, execs_s0]
      exact hR
    · have h1 : DI.execs Pg.G cal body31 [some (.int a), some (.int b), some x] S = .nx [some (.int b), some (.int (a.fmod b)), some x] S := by
        simp [body31, loopOf, hd, b31, execs_s1, execs_s0, q, bn_mod S q]
      simp only [bind_one, List.set_cons_succ, List.set_cons_zero, h1, SRes.turn_nx]
      have m0 : 0 ≤ a.fmod b := Int.fmod_nonneg_of_pos _ (by omega)
      have m1 : a.fmod b < b := Int.fmod_lt_of_pos _ (by omega)
      have g1 : Int.gcd b (a.fmod b) = Int.gcd a b := by
        rw [Int.fmod_eq_emod_of_nonneg a hb, Int.emod_def, Int.gcd_sub_mul_left_right, Int.gcd_comm]
      cases k with
      | zero => omega
      | succ k =>
        cases xs with
        | nil => simp at hl
        | cons y ys =>
          unfold forLoop guardS
          rw [if_pos (grd_nil S)]
          by_cases q2 : a.fmod b = 0
          · have h2 : DI.execs Pg.G cal body31 [some (.int b), some (.int (a.fmod b)), some y] S = .rt (.int b) S := by
              simp [body31, loopOf, hd, b31, execs_s1, execs_s0, q2]
            simp only [bind_one, List.set_cons_succ, List.set_cons_zero, h2, SRes.turn_rt, ws_rt]
            rw [q2, Int.gcd_zero_right] at g1
            rw [← g1, Int.natAbs_of_nonneg hb] at hR
            exact hR
          · have h2 : DI.execs Pg.G cal body31 [some (.int b), some (.int (a.fmod b)), some y] S = .nx [some (.int (a.fmod b)), some (.int (b.fmod (a.fmod b))), some y] S := by
              simp [body31, loopOf, hd, b31, execs_s1, execs_s0, q2, bn_mod S q2]
            simp only [bind_one, List.set_cons_succ, List.set_cons_zero, h2, SRes.turn_nx]
            have n0 : 0 ≤ b.fmod (a.fmod b) := Int.fmod_nonneg_of_pos _ (by omega)
            have n1 : b.fmod (a.fmod b) < a.fmod b := Int.fmod_lt_of_pos _ (by omega)
            have g2 : Int.gcd (a.fmod b) (b.fmod (a.fmod b)) = Int.gcd b (a.fmod b) := by
              rw [Int.fmod_eq_emod_of_nonneg b m0, Int.emod_def, Int.gcd_sub_mul_left_right, Int.gcd_comm]
            have half : b.fmod (a.fmod b) < 2 ^ k := by
              have e2 : (2 : Int) ^ (k + 1) = 2 * 2 ^ k := by rw [Int.pow_succ]; omega
              generalize (2 : Int) ^ k = w at *
              by_cases q3 : a.fmod b ≤ w
              · omega
              · have hq : b.fmod (a.fmod b) = b - a.fmod b := by
                  rw [Int.fmod_eq_emod_of_nonneg b m0]
                  generalize a.fmod b = r at *
                  have h3 : b % r = (b - r) % r := by rw [Int.sub_emod_right]
                  rw [h3]
                  exact Int.emod_eq_of_lt (by omega) (by omega)
                omega
            refine gcd_turns k _ _ ys (some y) m0 n0 half ?_ ?_
            · simp at hl ⊢; omega
            · rw [g2, g1]; exact hR
theorem gcd31 [Has 31] (n : Nat) {a b : Int} {S : Store} (ha : 0 ≤ a) (hb : 0 ≤ b) (h2 : b < 2 ^ 200) : calF Pg.G Pg.P (n + 1) 31 [.int a, .int b] S = .ok (.int (Int.gcd a b : Nat)) S := by
  suffices hw : Wp (calF Pg.G Pg.P (n + 1) 31 [.int a, .int b] S) fun d S' => d = .int (Int.gcd a b : Nat) ∧ S' = S by
    obtain ⟨d, S', e, rfl, rfl⟩ := wp_get hw
    exact e
  rw [d31, wp_fin, b31_eq]
  refine ws_cons ?_
  rw [exec_s8, evIt_s1, ev_s1]
  simp only [Res.bind_ok]
  have hz : okR (9999 : Int) ∧ (9999 : Int).toNat ≤ sizeLine := by
    have : sizeLine = 16777216 := sizeLine_eq
    refine ⟨⟨?_, ?_⟩, by omega⟩
    · have : (0 : Int) ≤ 2 ^ 62 := by decide
      omega
    · decide
  rw [if_pos hz]
  simp only [Res.st_ok]
  exact gcd_turns 200 a b _ _ ha hb h2 (by simp) ⟨rfl, rfl⟩
end
section
variable [Pg] [Has 31] [Has 33]
theorem ratio33 (n : Nat) {a b : Int} {S : Store} (hb : 0 < b) (h2 : b < 2 ^ 200) : calF Pg.G Pg.P (n + 2) 33 [.int a, .int b] S = .ok (ratD a b) S := by
  have g0 := gcd_pos (a := a) hb
  have g1 : ((Int.gcd a b : Nat) : Int) ≠ 0 := by omega
  have g2 := gcd_small (a := a) hb h2
  have z : 2 ≤ sizeLine := by decide
  have ea : Int.gcd (if a < 0 then -a else a) b = Int.gcd a b := by
    split
    · exact Int.neg_gcd
    · rfl
  have h := gcd31 n (a := if a < 0 then -a else a) (b := b) (S := S) (by split <;> omega) (by omega) h2
  rw [ea] at h
  rw [d33]
  simp only [b33, execs_s1, execs_s0]
  unfold ratD
  generalize hg : ((Int.gcd a b : Nat) : Int) = g at *
  simp [h, bn_fdivB S g1 g2, z]
end
/-! ### by places -/
theorem dot_range : ∀ {vs r : List Int}, vs.length = r.length → ((List.range vs.length).map fun j => vs.getD j 0 * r.getD j 0).sum = dot vs r
  | [], [], _ => rfl
  | v :: vs, c :: r, h => by
    have ih := dot_range (vs := vs) (r := r) (by simpa using h)
    rw [List.length_cons, List.range_succ_eq_map]
    simp only [List.map_cons, List.map_map, List.sum_cons, List.getD_cons_zero, Function.comp_def, List.getD_cons_succ]
    rw [ih]
    simp [dot]
  | [], _ :: _, h => by simp at h
  | _ :: _, [], h => by simp at h
theorem edge_range {j : Nat} : ∀ {ws : List Int} {rs : List (List Int)}, ws.length = rs.length → ((List.range rs.length).map fun i => ws.getD i 0 * (rs.getD i []).getD j 0).sum = edgeL rs ws j
  | [], [], _ => rfl
  | v :: ws, r :: rs, h => by
    have ih := edge_range (j := j) (ws := ws) (rs := rs) (by simpa using h)
    rw [List.length_cons, List.range_succ_eq_map]
    simp only [List.map_cons, List.map_map, List.sum_cons, List.getD_cons_zero, Function.comp_def, List.getD_cons_succ]
    rw [ih]
    simp [edgeL]
  | [], _ :: _, h => by simp at h
  | _ :: _, [], h => by simp at h
theorem rngL_map (n : Nat) : rngL 0 n = (List.range n).map fun (i : Nat) => D.int (i : Int) := by
  unfold rngL
  simp
/-- numbers read by place: of a tuple or of a list -/
structure Nums (S : Store) (w : D) (ws : List Int) : Prop where
  len : b1D .len S (.val w) = some (.val (.int ws.length))
  at_ : ∀ i : Nat, i < ws.length → idxD S (.val w) (i : Int) = some (.val (.int (ws.getD i 0)))
theorem getD_at {ws : List Int} {i : Nat} (h : i < ws.length) : L2.atI (ws.map D.int) (i : Int) = some (.int (ws.getD i 0)) := by
  rw [at_nat (by omega) (by simpa using h)]
  simp [h]
theorem nums_tup (S : Store) (ws : List Int) : Nums S (.tup (ws.map .int)) ws := ⟨by simp, fun i h => by rw [i_tup, getD_at h]; rfl⟩
theorem nums_lst {S : Store} {n : Nat} {ws : List Int} (h : S[n]? = some (.lst (ws.map .int))) : Nums S (.loc n) ws := ⟨by rw [o_lenL S h]; simp, fun i hi => by rw [i_lst S h, getD_at hi]; rfl⟩
section
variable [Pg]
theorem rowAt {N M : Nat} {rs : List (List Int)} (h : RowsOk N M rs) {i : Nat} (hi : i < N) : L2.atI (rs.map rowD) (i : Int) = some (rowD (rs.getD i [])) := by
  have hl : i < rs.length := by rw [h.1]; exact hi
  rw [at_nat (by omega) (by simpa using hl)]
  simp [hl]
theorem gains32 [Has 32] (n : Nat) {N M : Nat} {rs : List (List Int)} {vs : List Int} {v : D} {S : Store} (h : RowsOk N M rs) (hM : M ≤ 4) (hv : Nums S v vs) (hl : vs.length = M) :
    calF Pg.G Pg.P (n + 1) 32 [rowsD rs, v] S = .ok (.loc S.length) (S ++ [.lst ((gainsL rs vs).map .int)]) := by
  rw [d32]
  simp only [b32, execs_s1, execs_s0]
  have e2 : ∀ r ∈ rs, ev Pg.G (calF Pg.G Pg.P n) (.b1 .sum (.lc (.one 3) (.rng1 (.b1 .len (.var 1))) false (.cn .non) (.bin .mul (.idx (.var 1) (.var 3)) (.idx (.var 2) (.var 3))))) [some (rowsD rs), some v, some (rowD r), none] S = .ok (.val (.int (dot vs r))) S := fun r hr => by
    have hr' := h.2 r hr
    rw [ev_s24, ev_s28, evIt_s1]
    simp only [ev_s24, ev_s0, List.getElem?_cons_succ, List.getElem?_cons_zero, Res.bind_ok, hv.len, lift_some]
    rw [if_pos (rng_ok vs.length (by omega))]
    simp only [Res.bind_ok, Int.toNat_natCast, rngL_map]
    rw [lc_map (f := fun j : Nat => .int (vs.getD j 0 * r.getD j 0)) (grd_nil S)]
    · simp only [List.nil_append, Res.bind_ok]
      rw [show ((List.range vs.length).map fun j : Nat => D.int (vs.getD j 0 * r.getD j 0)) = ((List.range vs.length).map fun j => vs.getD j 0 * r.getD j 0).map D.int by simp, o_sumF, dot_range (by rw [hl, hr'.1])]
      rfl
    · intro j hj
      have hj' : j < vs.length := List.mem_range.mp hj
      obtain ⟨q1, q2, q3⟩ := row_get hr' (show j < M by omega)
      have q4 := hv.at_ j hj'
      simp only [List.getD_eq_getElem?_getD] at q1 q2 q3 q4
      simp [rowD, q1, q4, bn_mul S (mulS ⟨q2, q3⟩)]
  generalize CE.b1 .sum (.lc (.one 3) (.rng1 (.b1 .len (.var 1))) false (.cn .non) (.bin .mul (.idx (.var 1) (.var 3)) (.idx (.var 2) (.var 3)))) = E at e2
  have e3 : ev Pg.G (calF Pg.G Pg.P n) (.lc (.one 2) (.e (.var 0)) false (.cn .non) E) [some (rowsD rs), some v, none, none] S = .ok (.fresh ((gainsL rs vs).map .int)) S := by
    rw [ev_s28, evIt_s0]
    simp only [ev_s0, List.getElem?_cons_zero, Res.bind_ok, lift_some, rowsD_eq, walk_tup_]
    rw [lc_map (f := fun r => .int (dot vs r)) (grd_nil S)]
    · simp [gainsL]
    · intro r hr
      have := e2 r hr
      rw [rowsD_eq] at this
      simp [this]
  rw [exec_s10, e3]
  simp
theorem edges35 [Has 35] (n : Nat) {N M : Nat} {rs : List (List Int)} {ws : List Int} {w : D} {S : Store} (h : RowsOk N M rs) (hN : 1 ≤ N ∧ N ≤ 4) (hM : M ≤ 4) (hw : Nums S w ws) (hl : ws.length = N) :
    calF Pg.G Pg.P (n + 1) 35 [rowsD rs, w] S = .ok (.loc S.length) (S ++ [.lst ((edgesL M rs ws).map .int)]) := by
  rw [d35]
  simp only [b35, execs_s1, execs_s0]
  have e2 : ∀ j, j < M → ev Pg.G (calF Pg.G Pg.P n) (.b1 .sum (.lc (.one 3) (.rng1 (.b1 .len (.var 0))) false (.cn .non) (.bin .mul (.idx (.var 1) (.var 3)) (.idx (.idx (.var 0) (.var 3)) (.var 2))))) [some (rowsD rs), some w, some (.int (j : Nat)), none] S = .ok (.val (.int (edgeL rs ws j))) S := fun j hj => by
    rw [ev_s24, ev_s28, evIt_s1]
    simp only [ev_s24, ev_s0, List.getElem?_cons_succ, List.getElem?_cons_zero, Res.bind_ok, rowsD_eq, o_len, lift_some]
    rw [if_pos (rng_ok (rs.map rowD).length (by rw [List.length_map, h.1]; omega))]
    simp only [Res.bind_ok, Int.toNat_natCast, rngL_map, List.length_map]
    rw [lc_map (f := fun i : Nat => .int (ws.getD i 0 * (rs.getD i []).getD j 0)) (grd_nil S)]
    · simp only [List.nil_append, Res.bind_ok]
      rw [show ((List.range rs.length).map fun i : Nat => D.int (ws.getD i 0 * (rs.getD i []).getD j 0)) = ((List.range rs.length).map fun i => ws.getD i 0 * (rs.getD i []).getD j 0).map D.int by simp, o_sumF, edge_range (rs := rs) (by rw [hl, h.1])]
      rfl
    · intro i hi
      have hi' : i < rs.length := List.mem_range.mp hi
      have hiN : i < N := by rw [← h.1]; exact hi'
      have hr' : RowOk M (rs.getD i []) := by
        have : rs.getD i [] = rs[i] := by simp [hi']
        rw [this]; exact h.2 _ (List.getElem_mem hi')
      have q0 := rowAt h hiN
      obtain ⟨q1, q2, q3⟩ := row_get hr' hj
      have q4 := hw.at_ i (by omega)
      simp only [List.getD_eq_getElem?_getD] at q0 q1 q2 q3 q4
      simp [rowD, q0, q1, q4, bn_mul S (mulS ⟨q2, q3⟩)]
  generalize CE.b1 .sum (.lc (.one 3) (.rng1 (.b1 .len (.var 0))) false (.cn .non) (.bin .mul (.idx (.var 1) (.var 3)) (.idx (.idx (.var 0) (.var 3)) (.var 2)))) = E at e2
  have e3 : ev Pg.G (calF Pg.G Pg.P n) (.lc (.one 2) (.rng1 (.b1 .len (.idx (.var 0) (.cn (.int 0))))) false (.cn .non) E) [some (rowsD rs), some w, none, none] S = .ok (.fresh ((edgesL M rs ws).map .int)) S := by
    have q0 := rowAt h (show 0 < N by omega)
    have hr' : RowOk M (rs.getD 0 []) := by
      have : rs.getD 0 [] = rs[0]'(by rw [h.1]; omega) := by simp [show 0 < rs.length by rw [h.1]; omega]
      rw [this]; exact h.2 _ (List.getElem_mem _)
    rw [ev_s28, evIt_s1]
    simp only [ev_s24, ev_s14, ev_s0, ev_s1, List.getElem?_cons_zero, Res.bind_ok, lift_some, rowsD_eq, i_tup]
    simp only [Int.natCast_zero] at q0
    rw [q0]
    simp only [Option.map_some, lift_some, Res.bind_ok, rowD, o_len, List.length_map]
    have hlen : (rs.getD 0 []).length = M := hr'.1
    rw [hlen]
    rw [if_pos (rng_ok M (by omega))]
    simp only [Res.bind_ok, Int.toNat_natCast, rngL_map]
    rw [lc_map (f := fun j : Nat => .int (edgeL rs ws j)) (grd_nil S)]
    · simp [edgesL]
    · intro j hj
      have := e2 j (List.mem_range.mp hj)
      rw [rowsD_eq] at this
      simp [this]
  rw [exec_s10, e3]
  simp
variable [Has 31] [Has 33]
theorem margin34 [Has 32] [Has 34] (n : Nat) {N M : Nat} {rs : List (List Int)} {vs : List Int} {S : Store} (h : RowsOk N M rs) (hN : 1 ≤ N) (hM : M ≤ 4) (hl : vs.length = M) (h0 : 0 < vs.sum) (h1 : vs.sum < 2 ^ 200) :
    calF Pg.G Pg.P (n + 3) 34 [rowsD rs, .tup (vs.map .int)] S = .ok (marD rs vs) (S ++ [.lst ((gainsL rs vs).map .int)]) := by
  obtain ⟨m, hm⟩ := minL_some (gainsL_ne h hN vs)
  rw [d34]
  simp only [b34, execs_s1, execs_s0]
  have hn : (S ++ [Cell.lst ((gainsL rs vs).map D.int)])[S.length]? = some (.lst ((gainsL rs vs).map .int)) := at_push _ _
  simp [gains32 (n + 1) h hM (nums_tup S vs) hl, o_minL hn, hm, ratio33 n h0 h1, marD]
theorem edge36 [Has 35] [Has 36] (n : Nat) {N M : Nat} {rs : List (List Int)} {ws : List Int} {S : Store} (h : RowsOk N M rs) (hN : 1 ≤ N ∧ N ≤ 4) (hM : 1 ≤ M ∧ M ≤ 4) (hl : ws.length = N) (h0 : 0 < ws.sum) (h1 : ws.sum < 2 ^ 200) :
    calF Pg.G Pg.P (n + 3) 36 [rowsD rs, .tup (ws.map .int)] S = .ok (edgD M rs ws) (S ++ [.lst ((edgesL M rs ws).map .int)]) := by
  obtain ⟨m, hm⟩ := maxL_some (edgesL_ne hM.1 rs ws)
  rw [d36]
  simp only [b36, execs_s1, execs_s0]
  have hn : (S ++ [Cell.lst ((edgesL M rs ws).map D.int)])[S.length]? = some (.lst ((edgesL M rs ws).map .int)) := at_push _ _
  simp [edges35 (n + 1) h hN hM.2 (nums_tup S ws) hl, o_maxL hn, hm, ratio33 n h0 h1, edgD]
theorem less37 [Has 37] (n : Nat) {a b c d : Int} {S : Store} (h1 : mulOk a d = true) (h2 : mulOk c b = true) : calF Pg.G Pg.P (n + 1) 37 [.tup [.int a, .int b], .tup [.int c, .int d]] S = .ok (.bl (decide (a * d < c * b))) S := by
  have e0 : ∀ x y : D, L2.atI [x, y] 0 = some x := fun _ _ => rfl
  have e1 : ∀ x y : D, L2.atI [x, y] 1 = some y := fun _ _ => rfl
  rw [d37]
  simp only [b37, execs_s1, execs_s0]
  simp [e0, e1, bn_mul S h1, bn_mul S h2]
end
/-! ### the laws' looks -/
section
variable [Pg] [Has 13] [Has 30]
def nz : D → Bool
  | .int i => decide (i ≠ 0)
  | _ => true
def tN (m : Int) : D → Bool
  | .int i => decide (i < 0) || decide (m ≤ i)
  | _ => true
theorem tN_not (m : Int) (d : D) : (!tN m d) = numB 0 (m - 1) d := by
  cases d with
  | int i =>
    simp only [tN, numB]
    by_cases h1 : i < 0
    · have : ¬ (0 ≤ i ∧ i ≤ m - 1) := by omega
      simp [h1, this]
    · by_cases h2 : m ≤ i
      · have : ¬ (0 ≤ i ∧ i ≤ m - 1) := by omega
        simp [h1, h2, this]
      · have : 0 ≤ i ∧ i ≤ m - 1 := by omega
        simp [h1, h2, this]
  | _ => rfl
theorem numbers30 (n : Nat) {k : Nat} {m : Int} {d : D} {S : Store} (h : Py (k + 1) S d) (hk : k ≤ 59) : calF Pg.G Pg.P (n + 2) 30 [d, .int m] S = .ok (.bl (intsB 0 (m - 1) d)) S := by
  have hk' := py_kind h
  have z0 : 0 ≤ sizeLine := by decide
  rw [d30]
  simp only [b30, execs_s1, execs_s0]
  generalize hE : CE.lc (.one 2) (.e (.var 0)) true (.orV (.notT (.call 13 (.cons (.var 2) .nil))) (.orV (.cmp .lt (.var 2) (.cn (.int 0))) (.cmp .ge (.var 2) (.var 1)))) (.var 2) = E
  cases d with
  | tup xs =>
    have hx := py_tup_iff.mp h
    have e : ev Pg.G (calF Pg.G Pg.P (n + 1)) E [some (.tup xs), some (.int m), none] S = .ok (.fresh (xs.filter (tN m))) S := by
      subst hE
      refine filt_lc (xs := xs) (g := []) (p := tN m) (by simp) (by simp) (grd_nil S) fun x hx' => ?_
      cases x with
      | int i =>
        by_cases c : i < 0
        · simp [whole13 n (hx _ hx'), isI, tN, c]
        · by_cases c2 : m ≤ i
          · simp [whole13 n (hx _ hx'), isI, tN, c, c2]
          · simp [whole13 n (hx _ hx'), isI, tN, c, c2]
      | _ => simp [whole13 n (hx _ hx'), isI, tN]
    have e2 := eq_nil (S := S) (ys := xs.filter (tN m)) fun y hy => (hx y (List.mem_filter.mp hy).1).at59 hk
    have e3 : (xs.filter (tN m)).isEmpty = xs.all (numB 0 (m - 1)) := by
      rw [filter_nil]
      congr 1
      funext x
      exact tN_not m x
    rw [e3] at e2
    simp [hk', kdD, isTy, e, e2, z0, intsB, execs_s1, execs_s0]
  | _ => simp [hk', kdD, isTy, intsB, execs_s1, execs_s0]
theorem sum_pos : ∀ {ns : List Int}, (∀ n ∈ ns, 0 ≤ n) → ((0 < ns.sum) ↔ ∃ n ∈ ns, n ≠ 0)
  | [], _ => by simp
  | a :: ns, h => by
    have ih := sum_pos (ns := ns) fun n hn => h n (by simp [hn])
    have h0 := h a (by simp)
    have hs : 0 ≤ ns.sum := by
      have : ∀ ns : List Int, (∀ n ∈ ns, 0 ≤ n) → 0 ≤ ns.sum := fun ns => by
        induction ns with
        | nil => simp
        | cons b ns ih => intro h; have := ih fun n hn => h n (by simp [hn]); have := h b (by simp); simp; omega
      exact this ns fun n hn => h n (by simp [hn])
    rw [List.sum_cons]
    constructor
    · intro h1
      by_cases q : a = 0
      · obtain ⟨n, h2, h3⟩ := ih.mp (by omega)
        exact ⟨n, by simp [h2], h3⟩
      · exact ⟨a, by simp, q⟩
    · rintro ⟨n, h1, h2⟩
      rcases List.mem_cons.mp h1 with e | h1
      · subst e; omega
      · have := ih.mpr ⟨n, h1, h2⟩
        omega
theorem counts38 [Has 38] (n : Nat) {k : Nat} {m : Int} {d : D} {S : Store} (h : Py (k + 1) S d) (hk : k ≤ 59) : calF Pg.G Pg.P (n + 3) 38 [d, .int m] S = .ok (.bl (countsB m d)) S := by
  have z0 : 0 ≤ sizeLine := by decide
  have h30 := numbers30 n (m := 1000000) h hk
  rw [show (1000000 : Int) - 1 = 999999 by decide] at h30
  rw [d38]
  simp only [b38, execs_s1, execs_s0]
  generalize hE : CE.lc (.one 2) (.e (.var 0)) true (.cmp .ne (.var 2) (.cn (.int 0))) (.var 2) = E
  cases d with
  | tup xs =>
    have hx := py_tup_iff.mp h
    cases q : xs.all (numB 0 999999) with
    | false => simp [h30, intsB, q, countsB]
    | true =>
      obtain ⟨ns, rfl, hn⟩ := ints_all q
      have e : ev Pg.G (calF Pg.G Pg.P (n + 2)) E [some (.tup (ns.map .int)), some (.int m), none] S = .ok (.fresh ((ns.map D.int).filter nz)) S := by
        subst hE
        refine filt_lc (xs := ns.map .int) (g := []) (p := nz) (by simp) (by simp) (grd_nil S) fun x hx' => ?_
        obtain ⟨i, _, rfl⟩ := List.mem_map.mp hx'
        simp [nz]
      have e2 := ne_nil (S := S) (ys := (ns.map D.int).filter nz) fun y hy => (hx y (List.mem_filter.mp hy).1).at59 hk
      have e3 : (!((ns.map D.int).filter nz).isEmpty) = decide (0 < ns.sum) := by
        rw [Bool.eq_iff_iff, decide_eq_true_iff, sum_pos fun n hn' => (hn n hn').1]
        rw [filter_nil, Bool.not_eq_true', ← Bool.not_eq_true, List.all_eq_true]
        constructor
        · intro h1
          apply Classical.byContradiction
          intro h2
          refine h1 fun x hx => ?_
          obtain ⟨i, hi, rfl⟩ := List.mem_map.mp hx
          have : i = 0 := Classical.byContradiction fun z => h2 ⟨i, hi, z⟩
          subst this; simp [nz]
        · rintro ⟨i, hi, hz⟩ h1
          have := h1 (.int i) (List.mem_map_of_mem hi)
          simp [nz] at this
          exact hz this
      rw [e3] at e2
      by_cases c : (ns.length : Int) = m
      · simp [h30, intsB, q, countsB, c, e, e2, z0]
      · simp [h30, intsB, q, countsB, c]
  | _ => simp [h30, intsB, countsB]
end
end DL
end

section
set_option Elab.async false
set_option linter.all false
set_option maxRecDepth 100000
set_option maxHeartbeats 0
/-! LbF: ratios as numbers; margins and edges; what draws leave. -/
namespace DL
open PySem L2 DI
/-! ### ratios -/
theorem fdiv_exact {a g : Int} (hg : 0 < g) (h : g ∣ a) : g * a.fdiv g = a := by
  rw [Int.fdiv_eq_ediv_of_nonneg a (by omega)]
  exact Int.mul_ediv_cancel' h
theorem rat_spec {a b : Int} (hb : 0 < b) : ∃ p q g : Int, ratD a b = .tup [.int p, .int q] ∧ a = g * p ∧ b = g * q ∧ 0 < g ∧ 0 < q ∧ q ≤ b ∧ p.natAbs ≤ a.natAbs ∧ Int.gcd p q = 1 := by
  have g0 := gcd_pos (a := a) hb
  have d1 : ((Int.gcd a b : Nat) : Int) ∣ a := Int.gcd_dvd_left ..
  have d2 : ((Int.gcd a b : Nat) : Int) ∣ b := Int.gcd_dvd_right ..
  have e1 := fdiv_exact g0 d1
  have e2 := fdiv_exact g0 d2
  refine ⟨_, _, _, rfl, e1.symm, e2.symm, g0, ?_, ?_, ?_, ?_⟩
  · generalize b.fdiv _ = q at *
    apply Classical.byContradiction
    intro h
    have : ((Int.gcd a b : Nat) : Int) * q ≤ 0 := Int.mul_nonpos_of_nonneg_of_nonpos (by omega) (by omega)
    omega
  · generalize hq : b.fdiv _ = q at *
    have hq0 : 0 ≤ q := by
      apply Classical.byContradiction
      intro h
      have : ((Int.gcd a b : Nat) : Int) * q ≤ 0 := Int.mul_nonpos_of_nonneg_of_nonpos (by omega) (by omega)
      omega
    have : 1 * q ≤ ((Int.gcd a b : Nat) : Int) * q := Int.mul_le_mul_of_nonneg_right (by omega) hq0
    omega
  · generalize hp : a.fdiv _ = p at *
    have h1 : (((Int.gcd a b : Nat) : Int) * p).natAbs = a.natAbs := by rw [e1]
    rw [Int.natAbs_mul, Int.natAbs_natCast] at h1
    have : 1 * p.natAbs ≤ Int.gcd a b * p.natAbs := Nat.mul_le_mul_right _ (by omega)
    omega
  · generalize hp : a.fdiv _ = p at *
    generalize hq : b.fdiv _ = q at *
    have h1 : Int.gcd (((Int.gcd a b : Nat) : Int) * p) (((Int.gcd a b : Nat) : Int) * q) = Int.gcd a b := by rw [e1, e2]
    rw [Int.gcd_mul_left, Int.natAbs_natCast] at h1
    have : Int.gcd a b * Int.gcd p q = Int.gcd a b * 1 := by omega
    exact Nat.eq_of_mul_eq_mul_left (by omega) this
theorem rat_less {a b c d p q r s g k : Int} (h1 : a = g * p) (h2 : b = g * q) (hg : 0 < g) (h3 : c = k * r) (h4 : d = k * s) (hk : 0 < k) : (p * s < r * q) ↔ (a * d < c * b) := by
  have e1 : a * d = (g * k) * (p * s) := by rw [h1, h4]; grind
  have e2 : c * b = (g * k) * (r * q) := by rw [h3, h2]; grind
  rw [e1, e2]
  have hgk : 0 < g * k := Int.mul_pos hg hk
  exact ⟨fun h => Int.mul_lt_mul_of_pos_left h hgk, fun h => Int.lt_of_mul_lt_mul_left h (by omega)⟩
/-! ### the least margin of any votes is at most the greatest edge of any weights -/
theorem sum_lin (g r e : Nat → Int) (c : Int) : ∀ l : List Nat, (l.map fun j => g j * (c * r j + e j)).sum = c * (l.map fun j => g j * r j).sum + (l.map fun j => g j * e j).sum
  | [] => by simp
  | a :: l => by
    simp only [List.map_cons, List.sum_cons, sum_lin g r e c l]
    grind
theorem dot_map {vs : List Int} {M : Nat} (h : vs.length = M) (e : Nat → Int) : dot vs ((List.range M).map e) = ((List.range M).map fun j => vs.getD j 0 * e j).sum := by
  rw [← dot_range (by simp [h]), h]
  congr 1
  refine List.map_congr_left fun j hj => ?_
  have hj' := List.mem_range.mp hj
  simp [hj']
theorem dot_row {vs r : List Int} {M : Nat} (h : vs.length = M) (hr : r.length = M) : dot vs r = ((List.range M).map fun j => vs.getD j 0 * r.getD j 0).sum := by
  rw [← dot_range (by omega), h]
theorem dual {M : Nat} {vs : List Int} (hv : vs.length = M) : ∀ {rs : List (List Int)} {ws : List Int}, (∀ r ∈ rs, r.length = M) → ws.length = rs.length → dot ws (gainsL rs vs) = dot vs (edgesL M rs ws)
  | [], [], _, _ => by
    rw [edgesL, dot_map hv]
    have : ∀ l : List Nat, (l.map fun j => vs.getD j 0 * edgeL [] [] j).sum = 0 := fun l => by
      induction l with
      | nil => rfl
      | cons a l ih => simp only [List.map_cons, List.sum_cons, ih]; simp [edgeL]
    rw [this]
    rfl
  | r :: rs, w :: ws, h, hl => by
    have ih := dual hv (rs := rs) (ws := ws) (fun r hr => h r (by simp [hr])) (by simpa using hl)
    rw [edgesL, dot_map hv] at ih ⊢
    have e : ∀ j, edgeL (r :: rs) (w :: ws) j = w * r.getD j 0 + edgeL rs ws j := fun j => by simp [edgeL]
    simp only [e]
    rw [sum_lin, ← ih, ← dot_row hv (h r (by simp))]
    simp [dot, gainsL]
  | [], _ :: _, _, h => by simp at h
  | _ :: _, [], _, h => by simp at h
theorem dot_low {m : Int} : ∀ {ws gs : List Int}, (∀ w ∈ ws, 0 ≤ w) → (∀ g ∈ gs, m ≤ g) → ws.length = gs.length → m * ws.sum ≤ dot ws gs
  | [], [], _, _, _ => by simp [dot]
  | w :: ws, g :: gs, h1, h2, hl => by
    have ih := dot_low (m := m) (ws := ws) (gs := gs) (fun x hx => h1 x (by simp [hx])) (fun x hx => h2 x (by simp [hx])) (by simpa using hl)
    have hw := h1 w (by simp)
    have hg := h2 g (by simp)
    have : m * w ≤ w * g := by rw [Int.mul_comm]; exact Int.mul_le_mul_of_nonneg_left hg hw
    have e : dot (w :: ws) (g :: gs) = w * g + dot ws gs := by simp [dot]
    rw [e, List.sum_cons, Int.mul_add]
    omega
  | [], _ :: _, _, _, h => by simp at h
  | _ :: _, [], _, _, h => by simp at h
theorem dot_high {m : Int} : ∀ {ws gs : List Int}, (∀ w ∈ ws, 0 ≤ w) → (∀ g ∈ gs, g ≤ m) → ws.length = gs.length → dot ws gs ≤ m * ws.sum
  | [], [], _, _, _ => by simp [dot]
  | w :: ws, g :: gs, h1, h2, hl => by
    have ih := dot_high (m := m) (ws := ws) (gs := gs) (fun x hx => h1 x (by simp [hx])) (fun x hx => h2 x (by simp [hx])) (by simpa using hl)
    have hw := h1 w (by simp)
    have hg := h2 g (by simp)
    have : w * g ≤ m * w := by rw [Int.mul_comm m]; exact Int.mul_le_mul_of_nonneg_left hg hw
    have e : dot (w :: ws) (g :: gs) = w * g + dot ws gs := by simp [dot]
    rw [e, List.sum_cons, Int.mul_add]
    omega
  | [], _ :: _, _, _, h => by simp at h
  | _ :: _, [], _, _, h => by simp at h
theorem weak {N M : Nat} {rs : List (List Int)} {vs ws : List Int} {m e : Int} (h : RowsOk N M rs) (hv : vs.length = M) (hw : ws.length = N) (v0 : ∀ v ∈ vs, 0 ≤ v) (w0 : ∀ w ∈ ws, 0 ≤ w) (hm : ∀ g ∈ gainsL rs vs, m ≤ g) (he : ∀ g ∈ edgesL M rs ws, g ≤ e) : m * ws.sum ≤ e * vs.sum := by
  have d := dual hv (rs := rs) (ws := ws) (fun r hr => (h.2 r hr).1) (by rw [hw, h.1])
  have a := dot_low w0 hm (by simp [gainsL, hw, h.1])
  have b := dot_high v0 he (by simp [edgesL, hv])
  omega
/-! ### draws -/
section
variable [Pg] [Has 7] [Has 8] [Has 9] [Has 16]
/-- [take(box, wide) for x in range(cnt)] -/
theorem lc_take (n : Nat) {σ : DI.Env} {S : Store} {b cnt ib iw ic j : Nat} {wide : Int} {c : CE} (hB : Box S b) (h1 : σ[ib]? = some (some (.loc b))) (h2 : σ[iw]? = some (some (.int wide))) (h3 : σ[ic]? = some (some (.int cnt))) (j1 : j ≠ ib) (j2 : j ≠ iw) (hc : cnt ≤ 6) (w0 : 0 < wide) (w1 : wide < 1073741824) :
    Wp (ev Pg.G (calF Pg.G Pg.P (n + 1)) (.lc (.one j) (.rng1 (.var ic)) false c (.call 8 (.cons (.var ib) (.cons (.var iw) .nil)))) σ S) fun q S' => ∃ ns : List Int, q = .fresh (ns.map .int) ∧ ns.length = cnt ∧ (∀ x ∈ ns, 0 ≤ x ∧ x < wide) ∧ Box S' b ∧ Like b S S' := by
  rw [ev_s28, evIt_s1]
  simp only [ev_s0, h3, Res.bind_ok, wp_bind]
  rw [if_pos (rng_ok cnt hc), wp_ok]
  refine wp_lc (fun _ d => ∃ r : Int, d = .int r ∧ (0 ≤ r ∧ r < wide)) (fun S2 => Box S2 b ∧ Like b S S2) (fun S2 _ => grd_nil S2) ⟨hB, Like.refl _ _⟩ (fun k x S2 hx hI => ?_) (fun ys S2 hl hq hI => ?_)
  · obtain ⟨r, S3, e3, q0, q1, q2, q3⟩ := take_ n b wide S2 hI.1 w0 w1
    have a1 : (σ.set j (some x))[ib]? = some (some (.loc b)) := by rw [List.getElem?_set_ne j1]; exact h1
    have a2 : (σ.set j (some x))[iw]? = some (some (.int wide)) := by rw [List.getElem?_set_ne j2]; exact h2
    simp [a1, a2, e3]
    exact ⟨⟨q0, q1⟩, q2, hI.2.trans q3⟩
  · obtain ⟨ns, rfl, hns⟩ := ints_of hq
    simp only [List.nil_append, wp_ok]
    exact ⟨ns, rfl, by simpa using hl, hns, hI.1, hI.2⟩
end
theorem py_str {k : Nat} {S : Store} {s : Str} (h : PyData.strOk s = true) : Py k S (.str s) := ⟨.str s, by cases k <;> simp [pyOf, h]⟩
theorem py_pair {k : Nat} {S : Store} {a b : D} (ha : Py k S a) (hb : Py k S b) : Py (k + 1) S (.tup [a, b]) := py_tup_iff.mpr fun x hx => by
  rcases List.mem_cons.mp hx with q | q
  · rw [q]; exact ha
  · rw [show x = b by simpa using q]; exact hb
theorem ne_told {k : Nat} {S : Store} {s : Str} {d : D} (h : PyData.strOk s = true) (hd : Py k S d) (hk : k ≤ 59) : cmpD .ne S (.val (.tup [.str s, d])) (.val (.tup [.str s, d])) = some false := ne_same ((py_pair (py_str h) hd).le (by omega))
theorem pu_rat (a b : Int) : Pu 1 (ratD a b) := fun S => py_pair (pu_int _ S) (pu_int _ S)
/-! ### errors caught -/
class HasX [Pg] (c a : Nat) : Prop where
  exc : Pg.G.exc.contains c = true
  xa : Pg.G.xattr c = a
class HasSub [Pg] (c h : Nat) (b : Bool) : Prop where
  eq : Pg.G.sub c h = b
section
variable [Pg]
theorem handle_yes {c a h slot : Nat} {t : Str} {d : D} {S : Store} {hs : List Hd} [HasX c a] [HasSub c h true] : handle Pg.G c d S (⟨h, slot, some t, a⟩ :: hs) = .rt (.tup [.str t, d]) S := by
  simp only [handle]
  rw [if_pos (HasX.exc a), if_pos HasSub.eq, if_pos HasX.xa]
theorem handle_one {c a h slot : Nat} {d : D} {S : Store} {hs : List Hd} [HasX c a] [HasSub c h true] : handle Pg.G c d S (⟨h, slot, none, a⟩ :: hs) = .rt d S := by
  simp only [handle]
  rw [if_pos (HasX.exc a), if_pos HasSub.eq, if_pos HasX.xa]
theorem handle_no {c a a' h slot : Nat} {t : Option Str} {d : D} {S : Store} {hs : List Hd} [HasX c a'] [HasSub c h false] : handle Pg.G c d S (⟨h, slot, t, a⟩ :: hs) = handle Pg.G c d S hs := by
  conv => lhs; unfold handle
  rw [if_pos (HasX.exc a'), if_neg (by rw [HasSub.eq (b := false)]; simp)]
end
end DL
end

section
set_option Elab.async false
set_option linter.all false
set_option maxRecDepth 100000
set_option maxHeartbeats 0
/-! LawK01: the law of the errors. -/
namespace DL
open PySem L2 DI
def asked01 : List Nat := [0, 1, 2, 3, 4, 5, 6, 7, 8, 9, 10, 11, 12, 999]
class HasIs [Pg] : Prop where
  icl : (asked01.all fun k => Pg.G.icl.contains k) = true
  is : ((List.range' 1 12).all fun c => asked01.all fun k => Pg.G.isub c k == (k == c || (k == 0 || k == 999))) = true
section
variable [Pg] [HasIs]
theorem mkE_ev (c a : Nat) [HasX c a] {cal : Nat → List D → Store → Res D} (e : CE) (σ : DI.Env) (S : Store) : ev Pg.G cal (.mkE c e) σ S = (ev Pg.G cal e σ S).bind fun p S1 => (mat p S1).bind fun d S2 => .ok (.val (.err c a d)) S2 := by
  conv => lhs; unfold ev
  simp only [HasX.exc (c := c) a, HasX.xa (c := c) (a := a), if_true]
theorem xat_ev (c a : Nat) [HasX c a] {cal : Nat → List D → Store → Res D} {e : CE} {σ : DI.Env} {S S1 : Store} {d : D} (h : ev Pg.G cal e σ S = .ok (.val (.err c a d)) S1) : ev Pg.G cal (.xat e a) σ S = .ok (.val d) S1 := by
  conv => lhs; unfold ev
  rw [h]
  simp only [Res.bind_ok]
  rw [if_pos ⟨HasX.exc a, HasX.xa, trivial⟩]
def isB (c k : Nat) : Bool := k == c || (k == 0 || k == 999)
theorem isE_ev {c a f k : Nat} [HasX c a] (hc : c ∈ List.range' 1 12) (hk : k ∈ asked01) {cal : Nat → List D → Store → Res D} {σ : DI.Env} {S : Store} {d : D} : ev Pg.G cal (.isE (.var 0) k) (some (.err c f d) :: σ) S = .ok (.val (.bl (isB c k))) S := by
  have h1 := List.all_eq_true.mp HasIs.icl k hk
  have h2 := eq_of_beq (List.all_eq_true.mp (List.all_eq_true.mp HasIs.is c hc) k hk)
  conv => lhs; unfold ev
  simp only [ev_s0, List.getElem?_cons_zero, Res.bind_ok]
  rw [if_pos ⟨HasX.exc a, h1⟩, h2]
  rfl
/-! ### the classes of an error -/
def kindsB (c : Nat) : List Bool := (asked01.filter fun k => k != 0 && k != 999).map (isB c) ++ [isB c 0, isB c 999]
section
variable [Has 11]
theorem kinds11 (n : Nat) {c a f : Nat} [HasX c a] (hc : c ∈ List.range' 1 12) (d : D) (S : Store) : ∃ T, calF Pg.G Pg.P (n + 1) 11 [.err c f d] S = .ok (.loc (S ++ T).length) (S ++ T ++ [.lst ((kindsB c).map .bl)]) := by
  have e : ∀ k ∈ asked01, ∀ σ S, ev Pg.G (calF Pg.G Pg.P n) (.isE (.var 0) k) (some (.err c f d) :: σ) S = .ok (.val (.bl (isB c k))) S := fun k hk σ S => isE_ev (a := a) hc hk
  have e0 := e 0 (by decide)
  have e1 := e 1 (by decide)
  have e2 := e 2 (by decide)
  have e3 := e 3 (by decide)
  have e4 := e 4 (by decide)
  have e5 := e 5 (by decide)
  have e6 := e 6 (by decide)
  have e7 := e 7 (by decide)
  have e8 := e 8 (by decide)
  have e9 := e 9 (by decide)
  have e10 := e 10 (by decide)
  have e11 := e 11 (by decide)
  have e12 := e 12 (by decide)
  have e99 := e 999 (by decide)
  clear e
  have z : ∀ k, k ≤ 14 → k ≤ sizeLine := fun k hk => Nat.le_trans hk (by decide)
  let L1 : List D := [.bl (isB c 1), .bl (isB c 2), .bl (isB c 3), .bl (isB c 4)]
  let L2 : List D := L1 ++ [.bl (isB c 5), .bl (isB c 6), .bl (isB c 7)]
  let L3 : List D := L2 ++ [.bl (isB c 8), .bl (isB c 9), .bl (isB c 10)]
  let L4 : List D := L3 ++ [.bl (isB c 11), .bl (isB c 12)]
  refine ⟨[.lst L1, .lst L2, .lst L3, .lst L4], ?_⟩
  have a1 : (S ++ [Cell.lst L1])[S.length]? = some (.lst L1) := at_push _ _
  have a2 : (S ++ [Cell.lst L1, .lst L2])[S.length + 1]? = some (.lst L2) := by rw [List.getElem?_append_right (by omega)]; simp
  have a3 : (S ++ [Cell.lst L1, .lst L2, .lst L3])[S.length + 2]? = some (.lst L3) := by rw [List.getElem?_append_right (by omega)]; simp
  have a4 : (S ++ [Cell.lst L1, .lst L2, .lst L3, .lst L4])[S.length + 3]? = some (.lst L4) := by rw [List.getElem?_append_right (by omega)]; simp
  have out : (kindsB c).map D.bl = L4 ++ [.bl (isB c 0), .bl (isB c 999)] := rfl
  rw [out]
  have x1 : ∀ σ S, ev Pg.G (calF Pg.G Pg.P n) (.lst (.cons (.isE (.var 0) 1) (.cons (.isE (.var 0) 2) (.cons (.isE (.var 0) 3) (.cons (.isE (.var 0) 4) .nil))))) (some (.err c f d) :: σ) S = .ok (.fresh L1) S := fun σ S => by
    simp [e1, e2, e3, e4, z, L1]
  have x2 : ∀ σ S, ev Pg.G (calF Pg.G Pg.P n) (.lst (.cons (.isE (.var 0) 5) (.cons (.isE (.var 0) 6) (.cons (.isE (.var 0) 7) .nil)))) (some (.err c f d) :: σ) S = .ok (.fresh [.bl (isB c 5), .bl (isB c 6), .bl (isB c 7)]) S := fun σ S => by
    simp [e5, e6, e7, z]
  have x3 : ∀ σ S, ev Pg.G (calF Pg.G Pg.P n) (.lst (.cons (.isE (.var 0) 8) (.cons (.isE (.var 0) 9) (.cons (.isE (.var 0) 10) .nil)))) (some (.err c f d) :: σ) S = .ok (.fresh [.bl (isB c 8), .bl (isB c 9), .bl (isB c 10)]) S := fun σ S => by
    simp [e8, e9, e10, z]
  have x4 : ∀ σ S, ev Pg.G (calF Pg.G Pg.P n) (.lst (.cons (.isE (.var 0) 11) (.cons (.isE (.var 0) 12) .nil))) (some (.err c f d) :: σ) S = .ok (.fresh [.bl (isB c 11), .bl (isB c 12)]) S := fun σ S => by
    simp [e11, e12, z]
  have x5 : ∀ σ S, ev Pg.G (calF Pg.G Pg.P n) (.lst (.cons (.isE (.var 0) 0) (.cons (.isE (.var 0) 999) .nil))) (some (.err c f d) :: σ) S = .ok (.fresh [.bl (isB c 0), .bl (isB c 999)]) S := fun σ S => by
    simp [e0, e99, z]
  have j1 : ∀ S', S'[S.length]? = some (.lst L1) → addD S' (.val (.loc S.length)) (.fresh [.bl (isB c 5), .bl (isB c 6), .bl (isB c 7)]) = some (.fresh L2) := fun S' h => by
    simp [addD, ownOf, h, L2, L1, z]
  have j2 : ∀ S', S'[S.length + 1]? = some (.lst L2) → addD S' (.val (.loc (S.length + 1))) (.fresh [.bl (isB c 8), .bl (isB c 9), .bl (isB c 10)]) = some (.fresh L3) := fun S' h => by
    simp [addD, ownOf, h, L3, L2, L1, z]
  have j3 : ∀ S', S'[S.length + 2]? = some (.lst L3) → addD S' (.val (.loc (S.length + 2))) (.fresh [.bl (isB c 11), .bl (isB c 12)]) = some (.fresh L4) := fun S' h => by
    simp [addD, ownOf, h, L4, L3, L2, L1, z]
  have j4 : ∀ S', S'[S.length + 3]? = some (.lst L4) → addD S' (.val (.loc (S.length + 3))) (.fresh [.bl (isB c 0), .bl (isB c 999)]) = some (.fresh (L4 ++ [.bl (isB c 0), .bl (isB c 999)])) := fun S' h => by
    simp [addD, ownOf, h, L4, L3, L2, L1, z]
  replace j1 := j1 _ a1
  replace j2 := j2 _ a2
  replace j3 := j3 _ a3
  replace j4 := j4 _ a4
  clear_value L1 L2 L3 L4
  rw [d11]
  simp only [b11, execs_s1, execs_s0]
  simp only [exec_s0, exec_s10, ev_s3, ev_s0, x1, x2, x3, x4, x5, Res.st_ok, Res.bind_ok, mat_fresh, SRes.seq_nx, List.set_cons_succ, List.set_cons_zero, List.getElem?_cons_succ, List.getElem?_cons_zero, binD, List.length_append, List.length_cons, List.length_nil, List.append_assoc, List.cons_append, List.nil_append, Nat.zero_add, Nat.add_assoc, j1, j2, j3, j4, lift_some, Nat.reduceAdd]
  simp [j1, j2, j3, j4]
end
/-! ### the errors with one value -/
variable [HasX 1 0] [HasX 2 0] [HasX 3 0] [HasX 4 0] [HasX 5 0] [HasX 6 0] [HasX 7 0] [HasX 8 0] [HasX 9 0] [HasX 10 0] [HasX 11 1] [HasX 12 2]
def onesL (v : D) : List D := (List.range' 1 10).map fun c => .err c 0 v
section
variable [Has 10]
theorem ones10 (n : Nat) (v : D) (S : Store) : ∃ c, calF Pg.G Pg.P (n + 1) 10 [v] S = .ok (.loc (S.length + 1)) (S ++ [c, .lst (onesL v)]) := by
  have z : ∀ k, k ≤ 14 → k ≤ sizeLine := fun k hk => Nat.le_trans hk (by decide)
  let L1 : List D := (List.range' 1 6).map fun c => .err c 0 v
  let L2 : List D := (List.range' 7 4).map fun c => .err c 0 v
  have a1 : (S ++ [Cell.lst L1])[S.length]? = some (.lst L1) := at_push _ _
  have j1 : addD (S ++ [Cell.lst L1]) (.val (.loc S.length)) (.fresh L2) = some (.fresh (L1 ++ L2)) := by
    simp [addD, ownOf, L1, L2, z]
  have x1 : ev Pg.G (calF Pg.G Pg.P n) (.lst (.cons (.mkE 1 (.var 0)) (.cons (.mkE 2 (.var 0)) (.cons (.mkE 3 (.var 0)) (.cons (.mkE 4 (.var 0)) (.cons (.mkE 5 (.var 0)) (.cons (.mkE 6 (.var 0)) .nil))))))) [some v, none] S = .ok (.fresh L1) S := by
    simp [mkE_ev 1 0, mkE_ev 2 0, mkE_ev 3 0, mkE_ev 4 0, mkE_ev 5 0, mkE_ev 6 0, z, L1, List.range']
  have x2 : ∀ σ S, ev Pg.G (calF Pg.G Pg.P n) (.lst (.cons (.mkE 7 (.var 0)) (.cons (.mkE 8 (.var 0)) (.cons (.mkE 9 (.var 0)) (.cons (.mkE 10 (.var 0)) .nil))))) (some v :: σ) S = .ok (.fresh L2) S := fun σ S => by
    simp [mkE_ev 7 0, mkE_ev 8 0, mkE_ev 9 0, mkE_ev 10 0, z, L2, List.range']
  have out : onesL v = L1 ++ L2 := rfl
  refine ⟨.lst L1, ?_⟩
  rw [out]
  clear_value L1 L2
  rw [d10]
  simp only [b10, execs_s1, execs_s0]
  simp only [exec_s0, exec_s10, ev_s3, ev_s0, x1, x2, Res.st_ok, Res.bind_ok, mat_fresh, SRes.seq_nx, List.set_cons_succ, List.set_cons_zero, List.getElem?_cons_succ, List.getElem?_cons_zero, binD, j1, lift_some]
  simp
end
/-! ### the drawn values -/
/-- data in every store where the cell l is this list -/
def Vd (l : Nat) (c : Cell) (v : D) : Prop := ∀ S : Store, S[l]? = some c → Py 2 S v
def text01 (r : Nat) : Str := ("text " : Str) ++ (toString (r : Int) : String)
theorem text01_ok : ∀ r < 99, PyData.strOk (text01 r) = true ∧ ("text " : Str).length + (Str.ofString (toString (r : Int))).length ≤ 100 := by decide +kernel
section
variable [Has 7] [Has 8] [Has 9]
def some01a : CE := .lst (.cons (.bin .sub (.call 8 (.cons (.var 1) (.cons (.bin .pow (.cn (.int 10)) (.cn (.int 6))) .nil))) (.cn (.int 500000))) (.cons (.bin .add (.cn (.str "text ")) (.b1 .str_ (.call 8 (.cons (.var 1) (.cons (.cn (.int 99)) .nil))))) (.cons (.tup (.cons (.cn (.int 1)) (.cons (.call 8 (.cons (.var 1) (.cons (.cn (.int 9)) .nil))) .nil))) .nil)))
theorem some_a (n : Nat) {S : Store} {b : Nat} {s : Option D} {σ : DI.Env} (hB : Box S b) : ∃ (x : Int) (y : Nat) (z : Int) (S' : Store), ev Pg.G (calF Pg.G Pg.P (n + 1)) some01a (s :: some (.loc b) :: σ) S = .ok (.fresh [.int x, .str (text01 y), .tup [.int 1, .int z]]) S' ∧ y < 99 ∧ Box S' b ∧ Like b S S' := by
  obtain ⟨r1, S1, e1, _, _, B1, k1⟩ := take_ n b 1000000 S hB (by decide) (by decide)
  obtain ⟨r2, S2, e2, h2, h2', B2, k2⟩ := take_ n b 99 S1 B1 (by decide) (by decide)
  obtain ⟨r3, S3, e3, _, _, B3, k3⟩ := take_ n b 9 S2 B2 (by decide) (by decide)
  obtain ⟨y, rfl⟩ : ∃ y : Nat, r2 = y := ⟨r2.toNat, by omega⟩
  have hy : y < 99 := by omega
  refine ⟨r1 - 500000, y, r3, S3, ?_, hy, B3, (k1.trans k2).trans k3⟩
  have pw : powOk 10 6 = true := by decide
  have z : ∀ k, k ≤ 100 → k ≤ sizeLine := fun k hk => Nat.le_trans hk (by decide)
  have st : b1D .str_ S2 (.val (.int y)) = some (.val (.str (Str.ofString (toString (y : Int))))) := by
    simp only [b1D]
    rw [if_pos (by
      rw [Int.natAbs_natCast]
      have : y.log2 ≤ y := Nat.log2_le_self y
      omega)]
  have ad : addD S2 (.val (.str "text ")) (.val (.str (Str.ofString (toString (y : Int))))) = some (.val (.str (text01 y))) := by
    simp only [addD]
    rw [if_pos (z _ (text01_ok y hy).2)]
    rfl
  generalize text01 y = w at ad
  generalize Str.ofString (toString (y : Int)) = w2 at st ad
  have ad' : binD .add S2 (.val (.str "text ")) (.val (.str w2)) = some (.val (.str w)) := ad
  have sb : ∀ i j S, binD .sub S (.val (.int i)) (.val (.int j)) = some (.val (.int (i - j))) := fun _ _ _ => rfl
  clear ad
  simp [some01a, bn_pow S pw, e1, e2, e3, st, ad', z, sb]
def some01b : CE := .bin .add (.var 2) (.lst (.cons (.lst (.cons (.call 8 (.cons (.var 1) (.cons (.cn (.int 9)) .nil))) .nil)) (.cons (.cn .non) (.cons (.cn (.bl true)) (.cons (.tup .nil) .nil)))))
theorem some_b (n : Nat) {S : Store} {b l : Nat} {s : Option D} {xs : List D} {σ : DI.Env} (hB : Box S b) (hl : S[l]? = some (.lst xs)) (hlb : l ≠ b) (hx : xs.length = 3) : ∃ (x : Int) (S' : Store), ev Pg.G (calF Pg.G Pg.P (n + 1)) some01b (s :: some (.loc b) :: some (.loc l) :: σ) S = .ok (.fresh (xs ++ [.loc S'.length, .non, .bl true, .tup []])) (S' ++ [.lst [.int x]]) ∧ Box S' b ∧ Like b S S' := by
  obtain ⟨r1, S1, e1, _, _, B1, k1⟩ := take_ n b 9 S hB (by decide) (by decide)
  refine ⟨r1, S1, ?_, B1, k1⟩
  have z : ∀ k, k ≤ 100 → k ≤ sizeLine := fun k hk => Nat.le_trans hk (by decide)
  have hl' : (S1 ++ [Cell.lst [.int r1]])[l]? = some (.lst xs) := keep_push (keep_like k1 hl hlb)
  have ad : addD (S1 ++ [Cell.lst [.int r1]]) (.val (.loc l)) (.fresh [.loc S1.length, .non, .bl true, .tup []]) = some (.fresh (xs ++ [.loc S1.length, .non, .bl true, .tup []])) := by
    simp only [addD, ownOf, hl', List.length_cons, List.length_nil]
    rw [if_pos (z _ (by omega))]
  simp [some01b, e1, binD, ad, z]
end
/-! ### the law -/
theorem walkE {S : Store} {n : Nat} {xs : List D} (h : S[n]? = some (.lst xs)) : walkOf S (.val (.loc n)) = some (xs, [(n, xs)]) := by simp only [walkOf, h]
def for12a : CS := .forS (.one 5) (.e (.var 4)) (.cons (.ifS (.cmp .ne (.xat (.var 5) 0) (.var 3)) (.cons (.ret (.cn (.bl false))) .nil) .nil) .nil)
def if12 : CS := .ifS (.orV (.cmp .ne (.xat (.var 8) 1) (.var 3)) (.cmp .ne (.xat (.var 9) 2) (.var 3))) (.cons (.ret (.cn (.bl false))) .nil) .nil
def due12 : CE := .lc (.one 10) (.rng1 (.bin .add (.b1 .len (.var 4)) (.cn (.int 2)))) false (.cn .non) (.orV (.cmp .eq (.var 10) (.var 6)) (.cmp .ge (.var 10) (.b1 .len (.var 4))))
def turn12 : CSs := .cons (.ifS (.cmp .ne (.call 11 (.cons (.idx (.var 4) (.var 6)) .nil)) due12) (.cons (.ret (.cn (.bl false))) .nil) .nil) .nil
def for12b : CS := .forS (.one 6) (.rng1 (.b1 .len (.var 4))) turn12
def body12 : CSs := .cons (.ex (.mk 13 5 true (.cons (.tup .nil) .nil))) (.cons (.ret (.cn (.bl false))) .nil)
theorem b12_eq : b12 = .cons (.set 1 (.call 7 (.cons (.var 0) (.cons (.cn (.int 0)) .nil)))) (.cons (.set 2 some01a) (.cons (.set 2 some01b) (.cons (.set 3 (.call 9 (.cons (.var 1) (.cons (.var 2) .nil)))) (.cons (.set 4 (.call 10 (.cons (.var 3) .nil))) (.cons for12a (.cons (.par 8 9 (.mkE 11 (.var 3)) (.mkE 12 (.var 3))) (.cons if12
  (.cons (.set 4 (.bin .add (.var 4) (.lst (.cons (.var 8) (.cons (.var 9) .nil))))) (.cons for12b (.cons (.tryI body12 0 2 0) .nil)))))))))) := rfl
theorem hasx1 {c : Nat} (h : c ∈ List.range' 1 10) : HasX c 0 := by
  simp only [List.range', List.mem_cons, List.not_mem_nil, or_false] at h
  rcases h with rfl | rfl | rfl | rfl | rfl | rfl | rfl | rfl | rfl | rfl <;> infer_instance
/-- the value of each error of the first ten -/
theorem for_a (n : Nat) {S : Store} {l b s : Nat} {v : D} {t5 t6 t7 t8 t9 t10 : Option D} (hl : S[l]? = some (.lst (onesL v))) (hv : Py 60 S v) {Nx : DI.Env → Store → Prop} {R : D → Store → Prop}
    (kk : ∀ t, Nx [some (.loc 0), some (.loc b), some (.loc s), some v, some (.loc l), t, t6, t7, t8, t9, t10] S) :
    Ws (exec Pg.G (calF Pg.G Pg.P n) for12a [some (.loc 0), some (.loc b), some (.loc s), some v, some (.loc l), t5, t6, t7, t8, t9, t10] S) Nx R := by
  unfold for12a
  rw [exec_s8, evIt_s0]
  simp only [ev_s0, List.getElem?_cons_succ, List.getElem?_cons_zero, Res.bind_ok, walkE hl, lift_some, Res.st_ok]
  refine ws_for (fun i σ S' => S' = S ∧ ∃ t, σ = [some (.loc 0), some (.loc b), some (.loc s), some v, some (.loc l), t, t6, t7, t8, t9, t10]) (fun i σ S' ⟨q, _⟩ p hp => ?_) (i := 0) ⟨rfl, t5, rfl⟩ (fun i x σ S' hx ⟨q, t, e⟩ => ?_) (fun σ S' ⟨q, t, e⟩ => ?_)
  · rw [List.mem_singleton.mp hp, q]
    exact .inl hl
  · subst q e
    obtain ⟨c, hc, rfl⟩ := List.mem_map.mp (List.mem_of_getElem? hx)
    haveI := hasx1 hc
    simp only [bind_one, List.set_cons_succ, List.set_cons_zero]
    refine ws_cons ?_
    have x := xat_ev c 0 (cal := calF Pg.G Pg.P n) (e := .var 5) (σ := [some (.loc 0), some (.loc b), some (.loc s), some v, some (.loc l), some (.err c 0 v), t6, t7, t8, t9, t10]) (S := S') (S1 := S') (d := v) (by simp)
    have nv := ne_same hv
    simp [x, nv]
    exact ws_nil (ws_nil ⟨rfl, _, rfl⟩)
  · subst q e
    exact kk t
/-- the errors of the last two -/
theorem if_12 (n : Nat) {S : Store} {l b s : Nat} {v : D} {t5 t6 t7 t10 : Option D} (hv : Py 60 S v) : exec Pg.G (calF Pg.G Pg.P n) if12 [some (.loc 0), some (.loc b), some (.loc s), some v, some (.loc l), t5, t6, t7, some (.err 11 1 v), some (.err 12 2 v), t10] S =
      .nx [some (.loc 0), some (.loc b), some (.loc s), some v, some (.loc l), t5, t6, t7, some (.err 11 1 v), some (.err 12 2 v), t10] S := by
  have x := xat_ev 11 1 (cal := calF Pg.G Pg.P n) (e := .var 8) (σ := [some (.loc 0), some (.loc b), some (.loc s), some v, some (.loc l), t5, t6, t7, some (.err 11 1 v), some (.err 12 2 v), t10]) (S := S) (S1 := S) (d := v) (by simp)
  have y := xat_ev 12 2 (cal := calF Pg.G Pg.P n) (e := .var 9) (σ := [some (.loc 0), some (.loc b), some (.loc s), some v, some (.loc l), t5, t6, t7, some (.err 11 1 v), some (.err 12 2 v), t10]) (S := S) (S1 := S) (d := v) (by simp)
  have nv := ne_same hv
  unfold if12
  generalize CE.xat (.var 8) 1 = A at x
  generalize CE.xat (.var 9) 2 = B at y
  simp [x, y, nv, execs_s0]
/-- what is due of the error k -/
def dueB (k : Nat) : List Bool := (List.range 14).map fun j => j == k || decide (12 ≤ j)
theorem due_is : ∀ k < 12, kindsB (k + 1) = dueB k := by decide
def allL (v : D) : List D := onesL v ++ [.err 11 1 v, .err 12 2 v]
theorem all_at (v : D) {k : Nat} (h : k < 12) : ∃ f, (allL v)[k]? = some (.err (k + 1) f v) ∧ ∃ _ : HasX (k + 1) f, k + 1 ∈ List.range' 1 12 := by
  have c : k = 0 ∨ k = 1 ∨ k = 2 ∨ k = 3 ∨ k = 4 ∨ k = 5 ∨ k = 6 ∨ k = 7 ∨ k = 8 ∨ k = 9 ∨ k = 10 ∨ k = 11 := by omega
  rcases c with rfl | rfl | rfl | rfl | rfl | rfl | rfl | rfl | rfl | rfl | rfl | rfl
  all_goals exact ⟨_, rfl, inferInstance, by decide⟩
theorem due_ev (n : Nat) {S : Store} {l b s k : Nat} {v : D} {t5 t7 t8 t9 t10 : Option D} (hl : S[l]? = some (.lst (allL v))) :
    ev Pg.G (calF Pg.G Pg.P n) due12 [some (.loc 0), some (.loc b), some (.loc s), some v, some (.loc l), t5, some (.int k), t7, t8, t9, t10] S = .ok (.fresh ((dueB k).map .bl)) S := by
  have len : b1D .len S (.val (.loc l)) = some (.val (.int 12)) := o_lenL S hl
  have r14 : okR (14 : Int) ∧ (14 : Int).toNat ≤ sizeLine := by
    refine ⟨by simp [okR], by decide⟩
  unfold due12
  rw [ev_s28, evIt_s1]
  simp only [ev_s3, ev_s24, ev_s1, ev_s0, List.getElem?_cons_succ, List.getElem?_cons_zero, Res.bind_ok, len, lift_some]
  have ad : binD .add S (.val (.int 12)) (.val (.int 2)) = some (.val (.int 14)) := rfl
  simp only [ad, lift_some, Res.bind_ok]
  rw [if_pos r14]
  simp only [Res.bind_ok]
  have e : rngL 0 (14 : Int).toNat = (List.range 14).map fun j : Nat => D.int (j : Int) := by simp [rngL]
  rw [e, lc_map (f := fun j : Nat => D.bl (j == k || decide (12 ≤ j))) (grd_nil S)]
  · simp [dueB]
  · intro j hj
    have q1 : cmpD .eq S (.val (.int (j : Int))) (.val (.int (k : Int))) = some (j == k) := by
      simp only [cmpD, pyQ, pyOf, PyData.eqv]
      congr 1
      rw [Bool.eq_iff_iff]
      simp only [decide_eq_true_eq, beq_iff_eq]
      omega
    have q2 : cmpD .ge S (.val (.int (j : Int))) (.val (.int 12)) = some (decide (12 ≤ j)) := by
      have : cmpD .ge S (.val (.int (j : Int))) (.val (.int 12)) = some (decide ((12 : Int) ≤ (j : Int))) := rfl
      rw [this]
      congr 1
      rw [decide_eq_decide]
      omega
    simp only [bind_one, List.set_cons_succ, List.set_cons_zero, Bool.false_eq_true, if_false]
    have o : ev Pg.G (calF Pg.G Pg.P n) (.orV (.cmp .eq (.var 10) (.var 6)) (.cmp .ge (.var 10) (.b1 .len (.var 4)))) [some (.loc 0), some (.loc b), some (.loc s), some v, some (.loc l), t5, some (.int k), t7, t8, t9, some (.int (j : Int))] S = .ok (.val (.bl (j == k || decide (12 ≤ j)))) S := by
      cases q : (j == k) with
      | true =>
        rw [q] at q1
        simp only [ev_s7, ev_s8, ev_s0, ev_s24, List.getElem?_cons_succ, List.getElem?_cons_zero, Res.bind_ok, q1, lift_some, truthQ, truthD, if_true, Bool.true_or]
      | false =>
        rw [q] at q1
        simp only [ev_s7, ev_s8, ev_s0, ev_s24, List.getElem?_cons_succ, List.getElem?_cons_zero, Res.bind_ok, q1, len, q2, lift_some, truthQ, truthD, Bool.false_eq_true, if_false, Bool.false_or]
    rw [o]
    rfl
section
variable [Has 11]
theorem for_b (n : Nat) {S : Store} {l b s : Nat} {v : D} {t5 t6 t7 t8 t9 t10 : Option D} (hl : S[l]? = some (.lst (allL v))) {Nx : DI.Env → Store → Prop} {R : D → Store → Prop} (kk : ∀ t T, Nx [some (.loc 0), some (.loc b), some (.loc s), some v, some (.loc l), t5, t, t7, t8, t9, t10] (S ++ T)) :
    Ws (exec Pg.G (calF Pg.G Pg.P (n + 1)) for12b [some (.loc 0), some (.loc b), some (.loc s), some v, some (.loc l), t5, t6, t7, t8, t9, t10] S) Nx R := by
  have len : b1D .len S (.val (.loc l)) = some (.val (.int 12)) := o_lenL S hl
  have r12 : okR (12 : Int) ∧ (12 : Int).toNat ≤ sizeLine := by
    refine ⟨by simp [okR], by decide⟩
  unfold for12b
  rw [exec_s8, evIt_s1]
  simp only [ev_s24, ev_s0, List.getElem?_cons_succ, List.getElem?_cons_zero, Res.bind_ok, len, lift_some]
  rw [if_pos r12]
  simp only [Res.st_ok]
  refine ws_for (fun i σ S' => ∃ t T, S' = S ++ T ∧ σ = [some (.loc 0), some (.loc b), some (.loc s), some v, some (.loc l), t5, t, t7, t8, t9, t10]) (fun _ _ _ _ => grd_nil _) (i := 0) ⟨t6, [], by simp, rfl⟩ (fun i x σ S' hx ⟨t, T, q, e⟩ => ?_) (fun σ S' ⟨t, T, q, e⟩ => ?_)
  · subst q e
    have hi : i < 12 ∧ x = .int i := by
      have e : rngL 0 (12 : Int).toNat = (List.range 12).map fun j : Nat => D.int (j : Int) := by simp [rngL]
      rw [e, List.getElem?_map] at hx
      obtain ⟨j, hj, rfl⟩ := Option.map_eq_some_iff.mp hx
      obtain ⟨h1, h2⟩ := List.getElem?_eq_some_iff.mp hj
      simp at h1 h2
      subst h2
      exact ⟨h1, rfl⟩
    obtain ⟨hi, rfl⟩ := hi
    simp only [bind_one, List.set_cons_succ, List.set_cons_zero]
    have hl2 : (S ++ T)[l]? = some (.lst (allL v)) := by rw [List.getElem?_append_left (List.getElem?_eq_some_iff.mp hl).1]; exact hl
    obtain ⟨f, ha, hx1, hc⟩ := all_at v hi
    haveI := hx1
    obtain ⟨T2, ek⟩ := kinds11 n (a := f) (f := f) hc v (S ++ T)
    have ix := (i_lst (S ++ T) hl2 (i : Int)).trans (by rw [at_nat (by omega) (by simp [allL, onesL]; omega), Int.toNat_natCast, ha])
    rw [due_is i hi] at ek
    let S2 : Store := S ++ T ++ T2 ++ [.lst ((dueB i).map .bl)]
    have hl3 : S2[l]? = some (.lst (allL v)) := by
      have h1 := (List.getElem?_eq_some_iff.mp hl2).1
      show (S ++ T ++ T2 ++ _)[l]? = _
      rw [List.append_assoc (S ++ T), List.getElem?_append_left h1]; exact hl2
    have de := due_ev (n + 1) (S := S2) (b := b) (s := s) (k := i) (t5 := t5) (t7 := t7) (t8 := t8) (t9 := t9) (t10 := t10) hl3
    have same : cmpD .ne S2 (.val (.loc (S ++ T ++ T2).length)) (.fresh ((dueB i).map .bl)) = some false := by
      have at2 : S2[(S ++ T ++ T2).length]? = some (.lst ((dueB i).map .bl)) := at_push _ _
      obtain ⟨as, e⟩ := mapM_all (f := pyOf 59 S2) (xs := (dueB i).map D.bl) fun x hx => by
        obtain ⟨w, _, rfl⟩ := List.mem_map.mp hx
        exact ⟨.bool w, rfl⟩
      have p1 : pyOf 60 S2 (.loc (S ++ T ++ T2).length) = some (.list as) := by
        simp only [pyOf, at2, e, Option.map_some]
      have r := pd_refl p1
      simp only [cmpD, pyQ, p1, e, Option.map_some, r, Bool.not_true]
    refine ws_cons ?_
    generalize due12 = E at de
    have S2e : S ++ (T ++ (T2 ++ [Cell.lst ((dueB i).map D.bl)])) = S2 := by simp [S2]
    simp only [List.length_append, List.append_assoc] at ek same
    rw [S2e] at ek
    clear_value S2
    simp [turn12, ix, ek, de, same]
    exact ws_nil (ws_nil ⟨⟨_, S2e.symm⟩, _, rfl⟩)
  · subst q e
    exact kk t T
end
section
variable [HasGame] [Has 0] [Has 1] [Has 2] [Has 3] [Has 4] [Has 5] [Has 6] [Has 7] [Has 8] [Has 9] [Has 10] [Has 11] [Has 12] [HasSub 2 0 true]
theorem try_12 (n : Nat) (σ : DI.Env) (S : Store) : ∃ S', DI.exec Pg.G (calF Pg.G Pg.P (n + 5)) (.tryI body12 0 2 0) σ S = .rt (.bl true) S' := by
  have h1 := List.all_eq_true.mp HasIs.icl 2 (by decide)
  have h2 := eq_of_beq (List.all_eq_true.mp (List.all_eq_true.mp HasIs.is 2 (by decide)) 2 (by decide))
  have mk := mk_no (σ := σ) (S := S) (e := .tup .nil) (d := .tup []) n (k := 0) (py_tup_iff.mpr fun x hx => by cases hx) (by rfl) (by simp)
  have bd : DI.execs Pg.G (calF Pg.G Pg.P (n + 5)) body12 σ S = .ex 2 (.tup []) (S ++ [.ins 13 []]) := by
    unfold body12
    generalize CE.mk 13 5 true (.cons (.tup .nil) .nil) = E at mk
    simp [execs_s1, mk]
  refine ⟨S ++ [.ins 13 []], ?_⟩
  conv => lhs; unfold DI.exec
  rw [bd]
  show handleI Pg.G 2 (.tup []) (S ++ [.ins 13 []]) 0 2 0 = _
  unfold handleI
  rw [if_pos (HasX.exc 0), if_pos HasSub.eq, if_pos ⟨HasX.xa, h1⟩, h2]
  rfl
theorem law12 (n : Nat) (ns : List Int) (hn : ns.length < 1000) : Wp (calF Pg.G Pg.P (n + 8) 12 [.loc 0] [.ro (ns.map .int)]) fun d _ => d = .bl true := by
  rw [d12, wp_fin, b12_eq]
  let S0 : Store := [.ro (ns.map .int)]
  obtain ⟨x, y, e1⟩ := box_ (n + 6) 0 ns S0 rfl (by omega) (by omega) hn
  let S1 : Store := S0 ++ [.lst [.int x, .int y]]
  have B1 : Box S1 1 := ⟨x, y, rfl⟩
  refine ws_cons ?_
  have l0 : S0.length = 1 := rfl
  rw [l0] at e1
  have e1' : ev Pg.G (calF Pg.G Pg.P (n + 7)) (.call 7 (.cons (.var 0) (.cons (.cn (.int 0)) .nil))) [some (.loc 0), none, none, none, none, none, none, none, none, none, none] S0 = .ok (.val (.loc 1)) S1 := by
    simp [e1]; rfl
  show Ws (exec _ _ _ [some (.loc 0), none, none, none, none, none, none, none, none, none, none] S0) _ _
  simp only [exec_s0, e1', Res.st_ok, mat_val, ws_nx, List.set_cons_succ, List.set_cons_zero]
  clear_value S1
  clear e1 e1'
  refine ws_cons ?_
  obtain ⟨a, w, z, S2, e2, hw, B2, k2⟩ := some_a (n + 6) (s := some (.loc 0)) (σ := [none, none, none, none, none, none, none, none, none]) B1
  simp only [exec_s0, e2, Res.st_ok, mat_fresh, ws_nx, List.set_cons_succ, List.set_cons_zero]
  refine ws_cons ?_
  have hb2 : 1 < S2.length := by obtain ⟨_, _, q⟩ := B2; exact (List.getElem?_eq_some_iff.mp q).1
  obtain ⟨a2, S3, e3, B3, k3⟩ := some_b (n + 6) (s := some (.loc 0)) (σ := [none, none, none, none, none, none, none, none]) (B2.push (.lst [.int a, .str (text01 w), .tup [.int 1, .int z]])) (at_push _ _) (by omega) rfl
  simp only [exec_s0, e3, Res.st_ok, mat_fresh, ws_nx, List.set_cons_succ, List.set_cons_zero, List.cons_append, List.nil_append]
  refine ws_cons ?_
  have hb3 : 1 < S3.length := by obtain ⟨_, _, q⟩ := B3; exact (List.getElem?_eq_some_iff.mp q).1
  let xs : List D := [.int a, .str (text01 w), .tup [.int 1, .int z], .loc S3.length, .non, .bl true, .tup []]
  have l4 : (S3 ++ [Cell.lst [.int a2]]).length = S3.length + 1 := by simp
  have hl4 : (S3 ++ [Cell.lst [.int a2]] ++ [.lst xs])[(S3 ++ [Cell.lst [.int a2]]).length]? = some (.lst xs) := at_push _ _
  obtain ⟨v, hv, S5, e5, B5, k5⟩ := pick_ (n + 5) 1 (S3 ++ [Cell.lst [.int a2]]).length xs _ ((B3.push _).push _) hl4 (by rw [l4]; omega) (by show 0 < 7; decide) (by show 7 < 1000; decide)
  have a5 : S5[S3.length]? = some (.lst [.int a2]) := keep_like k5 (keep_push (at_push _ _)) (by omega)
  have py : ∀ T, Py 60 (S5 ++ T) v := fun T => by
    have a5' : (S5 ++ T)[S3.length]? = some (.lst [.int a2]) := by rw [List.getElem?_append_left (List.getElem?_eq_some_iff.mp a5).1]; exact a5
    simp only [xs, List.mem_cons, List.not_mem_nil, or_false] at hv
    rcases hv with rfl | rfl | rfl | rfl | rfl | rfl | rfl
    · exact ⟨_, rfl⟩
    · refine ⟨.str (text01 w), ?_⟩
      simp only [pyOf]
      rw [if_pos (text01_ok w hw).1]
    · exact ⟨_, rfl⟩
    · refine ⟨.list [.int a2], ?_⟩
      simp only [pyOf, a5']
      rfl
    · exact ⟨_, rfl⟩
    · exact ⟨_, rfl⟩
    · exact ⟨_, rfl⟩
  have e5' : ev Pg.G (calF Pg.G Pg.P (n + 7)) (.call 9 (.cons (.var 1) (.cons (.var 2) .nil))) [some (.loc 0), some (.loc 1), some (.loc (S3 ++ [Cell.lst [.int a2]]).length), none, none, none, none, none, none, none, none] (S3 ++ [Cell.lst [.int a2]] ++ [.lst xs]) = .ok (.val v) S5 := by
    generalize S3 ++ [Cell.lst [.int a2]] ++ [.lst xs] = S4 at e5
    generalize (S3 ++ [Cell.lst [.int a2]]).length = q at e5 ⊢
    simp [e5]
  have e5'' : Ws (DI.exec Pg.G (calF Pg.G Pg.P (n + 7)) (.set 3 (.call 9 (.cons (.var 1) (.cons (.var 2) .nil)))) [some (.loc 0), some (.loc 1), some (.loc (S3 ++ [Cell.lst [.int a2]]).length), none, none, none, none, none, none, none, none] (S3 ++ [Cell.lst [.int a2]] ++ [.lst xs])) (fun σ1 S1 => σ1 = [some (.loc 0), some (.loc 1), some (.loc (S3 ++ [Cell.lst [.int a2]]).length), some v, none, none, none, none, none, none, none] ∧ S1 = S5) (fun _ _ => False) := by
    simp only [exec_s0, e5', Res.st_ok, mat_val, ws_nx, List.set_cons_succ, List.set_cons_zero, and_self]
  refine ws_mono e5'' (fun σ1 S1' hh => ?_) (fun _ _ z => z.elim)
  obtain ⟨h4, h5⟩ := hh
  rw [h4, h5]
  clear h4 h5 S1' σ1
  clear e5'' e5' e5 hl4
  generalize (S3 ++ [Cell.lst [.int a2]]).length = s
  refine ws_cons ?_
  obtain ⟨c, e6⟩ := ones10 (n + 6) v S5
  have e6' : ∀ σ : DI.Env, ev Pg.G (calF Pg.G Pg.P (n + 7)) (.call 10 (.cons (.var 3) .nil)) (some (.loc 0) :: some (.loc 1) :: some (.loc s) :: some v :: σ) S5 = .ok (.val (.loc (S5.length + 1))) (S5 ++ [c, .lst (onesL v)]) := fun σ => by
    simp [e6]
  simp only [exec_s0, e6', Res.st_ok, mat_val, ws_nx, List.set_cons_succ, List.set_cons_zero]
  refine ws_cons ?_
  have h6 : (S5 ++ [c, .lst (onesL v)])[S5.length + 1]? = some (.lst (onesL v)) := by rw [List.getElem?_append_right (by omega)]; simp
  refine for_a (n + 7) h6 (py _) fun t => ?_
  refine ws_cons ?_
  have e7 : DI.exec Pg.G (calF Pg.G Pg.P (n + 7)) (.par 8 9 (.mkE 11 (.var 3)) (.mkE 12 (.var 3))) [some (.loc 0), some (.loc 1), some (.loc s), some v, some (.loc (S5.length + 1)), t, none, none, none, none, none] (S5 ++ [c, .lst (onesL v)]) =
      .nx [some (.loc 0), some (.loc 1), some (.loc s), some v, some (.loc (S5.length + 1)), t, none, none, some (.err 11 1 v), some (.err 12 2 v), none] (S5 ++ [c, .lst (onesL v)]) := by
    generalize S5 ++ [c, .lst (onesL v)] = S6
    simp [mkE_ev 11 1, mkE_ev 12 2]
  rw [e7]
  simp only [ws_nx]
  refine ws_cons ?_
  rw [if_12 (n + 7) (py _)]
  simp only [ws_nx]
  refine ws_cons ?_
  have e8 : ev Pg.G (calF Pg.G Pg.P (n + 7)) (.bin .add (.var 4) (.lst (.cons (.var 8) (.cons (.var 9) .nil)))) [some (.loc 0), some (.loc 1), some (.loc s), some v, some (.loc (S5.length + 1)), t, none, none, some (.err 11 1 v), some (.err 12 2 v), none] (S5 ++ [c, .lst (onesL v)]) =
      .ok (.fresh (allL v)) (S5 ++ [c, .lst (onesL v)]) := by
    have z : ∀ k, k ≤ 100 → k ≤ sizeLine := fun k hk => Nat.le_trans hk (by decide)
    have ad : binD .add (S5 ++ [c, .lst (onesL v)]) (.val (.loc (S5.length + 1))) (.fresh [.err 11 1 v, .err 12 2 v]) = some (.fresh (allL v)) := by
      simp only [binD, addD, ownOf, h6]
      rw [if_pos (z _ (by show 12 ≤ 100; decide))]
      rfl
    generalize S5 ++ [c, .lst (onesL v)] = S6 at ad
    simp [ad, z]
  simp only [exec_s0, e8, Res.st_ok, mat_fresh, ws_nx, List.set_cons_succ, List.set_cons_zero]
  refine ws_cons ?_
  refine for_b (n + 6) (at_push _ _) fun t6 T => ?_
  refine ws_cons ?_
  obtain ⟨S9, e9⟩ := try_12 (n + 2) [some (.loc 0), some (.loc 1), some (.loc s), some v, some (.loc (S5 ++ [c, .lst (onesL v)]).length), t, t6, none, some (.err 11 1 v), some (.err 12 2 v), none] (S5 ++ [c, .lst (onesL v)] ++ [.lst (allL v)] ++ T)
  rw [e9]
  rfl
end
end
end DL
end

section
set_option Elab.async false
set_option linter.all false
set_option maxRecDepth 100000
set_option maxHeartbeats 0
namespace Pk01
open PySem L2 DI DL
instance ipg : Pg := ⟨pd.G, pd.P⟩
instance i0 : Has 0 := ⟨by kernel_rfl⟩
instance i1 : Has 1 := ⟨by kernel_rfl⟩
instance i2 : Has 2 := ⟨by kernel_rfl⟩
instance i3 : Has 3 := ⟨by kernel_rfl⟩
instance i4 : Has 4 := ⟨by kernel_rfl⟩
instance i5 : Has 5 := ⟨by kernel_rfl⟩
instance i6 : Has 6 := ⟨by kernel_rfl⟩
instance i7 : Has 7 := ⟨by kernel_rfl⟩
instance i8 : Has 8 := ⟨by kernel_rfl⟩
instance i9 : Has 9 := ⟨by kernel_rfl⟩
instance i10 : Has 10 := ⟨by kernel_rfl⟩
instance i11 : Has 11 := ⟨by kernel_rfl⟩
instance i12 : Has 12 := ⟨by kernel_rfl⟩
instance iG : HasGame := ⟨by kernel_rfl, by kernel_rfl⟩
instance iI : HasIs := ⟨by kernel_rfl, by kernel_rfl⟩
instance x1 : HasX 1 0 := ⟨by kernel_rfl, by kernel_rfl⟩
instance x2 : HasX 2 0 := ⟨by kernel_rfl, by kernel_rfl⟩
instance x3 : HasX 3 0 := ⟨by kernel_rfl, by kernel_rfl⟩
instance x4 : HasX 4 0 := ⟨by kernel_rfl, by kernel_rfl⟩
instance x5 : HasX 5 0 := ⟨by kernel_rfl, by kernel_rfl⟩
instance x6 : HasX 6 0 := ⟨by kernel_rfl, by kernel_rfl⟩
instance x7 : HasX 7 0 := ⟨by kernel_rfl, by kernel_rfl⟩
instance x8 : HasX 8 0 := ⟨by kernel_rfl, by kernel_rfl⟩
instance x9 : HasX 9 0 := ⟨by kernel_rfl, by kernel_rfl⟩
instance x10 : HasX 10 0 := ⟨by kernel_rfl, by kernel_rfl⟩
instance x11 : HasX 11 1 := ⟨by kernel_rfl, by kernel_rfl⟩
instance x12 : HasX 12 2 := ⟨by kernel_rfl, by kernel_rfl⟩
instance s1_0 : HasSub 1 0 true := ⟨by kernel_rfl⟩
instance s2_0 : HasSub 2 0 true := ⟨by kernel_rfl⟩
instance s3_0 : HasSub 3 0 true := ⟨by kernel_rfl⟩
instance s4_0 : HasSub 4 0 true := ⟨by kernel_rfl⟩
instance s5_0 : HasSub 5 0 true := ⟨by kernel_rfl⟩
instance s6_0 : HasSub 6 0 true := ⟨by kernel_rfl⟩
instance s7_0 : HasSub 7 0 true := ⟨by kernel_rfl⟩
instance s8_0 : HasSub 8 0 true := ⟨by kernel_rfl⟩
instance s9_0 : HasSub 9 0 true := ⟨by kernel_rfl⟩
instance s10_0 : HasSub 10 0 true := ⟨by kernel_rfl⟩
instance s11_0 : HasSub 11 0 true := ⟨by kernel_rfl⟩
instance s12_0 : HasSub 12 0 true := ⟨by kernel_rfl⟩
theorem plain (ns : List Int) (h : ns.length ≤ 63) : ∃ S', calF pd.G pd.P (20 + 1) 12 [.loc 0] [.ro (ns.map .int)] = .ok (.bl true) S' := by
  obtain ⟨d, S', e, rfl⟩ := wp_get (law12 13 ns (by omega))
  exact ⟨S', e⟩
end Pk01
open PySem PySem.W PySem.Calls PyProof.Rows
theorem PySem.Challenge.cw_votemargins_k01_errors_holds : PySem.Challenge.rw_votemargins_k01_errors.Holds := by
  w_on; o_law
  refine HandSHeadRun.head_any (r := OpenLaw.row PySem.Challenge.rw_votemargins_k01_errors) (q := view (OpenLaw.row PySem.Challenge.rw_votemargins_k01_errors).prog [29]) (H := Pk01.pd.hk) (ob := Pk01.pd.ob) (M := 20000) (loose := Pk01.names) (d := HandSHeadRun.topDef (OpenLaw.row PySem.Challenge.rw_votemargins_k01_errors).prog 29) (kwd := []) Pk01.pd.ob_eq
    (by kernel_rfl) (fun s => by kernel_rfl) Pk01.run (by kernel_rfl) (by kernel_rfl) (by kernel_rfl) (by rfl) (by first | assumption | decide +kernel) (by decide +kernel) ⟨rfl, rfl, rfl, rfl, rfl, by decide +kernel⟩ ?hw ?hc
  case hw => w_witness2
  case hc =>
    exact DI.Pd.walk (p := Pk01.pd) (l := PySem.Challenge.rw_votemargins_k01_errors) (n := 63) (N := 20) (lf := 12) rfl (by decide) (by kernel_rfl) (by decide) Pk01.text (by kernel_rfl) (by kernel_rfl) rfl rfl (by kernel_rfl) Pk01.plain
end
