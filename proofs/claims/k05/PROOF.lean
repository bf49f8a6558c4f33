import PyProof.Rows.All
import Wide.All
import OpenK.AllK
import Wide.FinOn
import PySem.Challenge.RW_littleroom_k05_whole_lifts_listed
import PySem.Str
import HandS.ForMost
import HandS.Exc
import HandS.ExcOwn
import HandS.WordsExc
import HandS.TryOnly
import HandS.ExcInit
import HandS.ExcBuiltin
import HandS.TupAny
import HandS.TupMul
import HandS.SortInts
import KE.KTupSum
import KE.DataMinMax
import KE.SortData
import HandS.Deep
import HandS.Zip
import HandS.Style
import HandS.Flow
import HandS.IsInst
import HandS.ExcIs
import HandS.Walk
import HandS.Iter
import KE.GoesMore
import HandS.Ends
import HandS.HeadEnd
import HandS.HeadHook1
import HandS.Head0
import HandS.Head1
import HandS.Head2
import HandS.Defaults
set_option maxRecDepth 100000
set_option maxHeartbeats 0
set_option Elab.async false
set_option autoImplicit false
set_option linter.all false
set_option autoImplicit false
/-! Mini1: a small language of our own, free of positions: values, a store, code, and what code computes. -/
namespace Mini
open PySem

/-- what stands for a list's, a text's greatest length -/
abbrev cap : Nat := 16777216

inductive PV where
  | non | bl (b : Bool) | int (i : Int) | str (z : Str) | tup (xs : List PV) | loc (n : Nat) | exn (c : Str) (fs : List PV)
  deriving Inhabited

mutual
def PV.dec : (a b : PV) → Decidable (a = b)
  | .non, .non => Decidable.isTrue rfl
  | .bl a, .bl b => if h : a = b then Decidable.isTrue (by rw [h]) else Decidable.isFalse (by intro e; injection e; contradiction)
  | .int a, .int b => if h : a = b then Decidable.isTrue (by rw [h]) else Decidable.isFalse (by intro e; injection e; contradiction)
  | .str a, .str b => if h : a = b then Decidable.isTrue (by rw [h]) else Decidable.isFalse (by intro e; injection e; contradiction)
  | .tup a, .tup b => match PV.decs a b with
    | Decidable.isTrue h => Decidable.isTrue (by rw [h])
    | Decidable.isFalse h => Decidable.isFalse (by intro e; injection e; contradiction)
  | .loc a, .loc b => if h : a = b then Decidable.isTrue (by rw [h]) else Decidable.isFalse (by intro e; injection e; contradiction)
  | .exn a x, .exn b y => if h : a = b then (match PV.decs x y with
    | Decidable.isTrue h' => Decidable.isTrue (by rw [h, h'])
    | Decidable.isFalse h' => Decidable.isFalse (by intro e; injection e; contradiction)) else Decidable.isFalse (by intro e; injection e; contradiction)
  | .non, .bl _ | .non, .int _ | .non, .str _ | .non, .tup _ | .non, .loc _ | .non, .exn _ _ => Decidable.isFalse (by intro e; cases e)
  | .bl _, .non | .bl _, .int _ | .bl _, .str _ | .bl _, .tup _ | .bl _, .loc _ | .bl _, .exn _ _ => Decidable.isFalse (by intro e; cases e)
  | .int _, .non | .int _, .bl _ | .int _, .str _ | .int _, .tup _ | .int _, .loc _ | .int _, .exn _ _ => Decidable.isFalse (by intro e; cases e)
  | .str _, .non | .str _, .bl _ | .str _, .int _ | .str _, .tup _ | .str _, .loc _ | .str _, .exn _ _ => Decidable.isFalse (by intro e; cases e)
  | .tup _, .non | .tup _, .bl _ | .tup _, .int _ | .tup _, .str _ | .tup _, .loc _ | .tup _, .exn _ _ => Decidable.isFalse (by intro e; cases e)
  | .loc _, .non | .loc _, .bl _ | .loc _, .int _ | .loc _, .str _ | .loc _, .tup _ | .loc _, .exn _ _ => Decidable.isFalse (by intro e; cases e)
  | .exn _ _, .non | .exn _ _, .bl _ | .exn _ _, .int _ | .exn _ _, .str _ | .exn _ _, .tup _ | .exn _ _, .loc _ => Decidable.isFalse (by intro e; cases e)
def PV.decs : (a b : List PV) → Decidable (a = b)
  | [], [] => Decidable.isTrue rfl
  | [], _ :: _ => Decidable.isFalse (by intro e; cases e)
  | _ :: _, [] => Decidable.isFalse (by intro e; cases e)
  | a :: x, b :: y => match PV.dec a b with
    | Decidable.isTrue h => (match PV.decs x y with
      | Decidable.isTrue h' => Decidable.isTrue (by rw [h, h'])
      | Decidable.isFalse h' => Decidable.isFalse (by intro e; injection e; contradiction))
    | Decidable.isFalse h => Decidable.isFalse (by intro e; injection e; contradiction)
end
instance : DecidableEq PV := PV.dec

/-- what may change: a list; the script (it never does); a dict; an instance of an own class -/
inductive PO where
  | lst (xs : List PV) | frz (xs : List PV) | dct (kvs : List (PV × PV)) | ins (c : Str) (fs : List (Str × PV))
  deriving DecidableEq, Inhabited

abbrev Store := List PO
abbrev Env := List (Option PV)

inductive Out (α : Type) where
  | ok (a : α) (M : Store) | exc (c : Str) (fs : List PV) (M : Store) | fail
def Out.bind {α β : Type} (o : Out α) (f : α → Store → Out β) : Out β :=
  match o with
  | .ok a M => f a M
  | .exc c fs M => .exc c fs M
  | .fail => .fail
/-- where nothing may be raised -/
def Out.calm {α : Type} : Out α → Out α
  | .exc _ _ _ => .fail
  | o => o

/-! ### no place from n on is named -/
mutual
def PV.under (n : Nat) : PV → Bool
  | .loc k => decide (k < n)
  | .tup xs => PV.unders n xs
  | .exn _ fs => PV.unders n fs
  | _ => true
def PV.unders (n : Nat) : List PV → Bool
  | [] => true
  | x :: xs => PV.under n x && PV.unders n xs
end
def PO.under (n : Nat) : PO → Bool
  | .lst xs => PV.unders n xs
  | .frz xs => PV.unders n xs
  | .dct kvs => kvs.all fun kv => PV.under n kv.1 && PV.under n kv.2
  | .ins _ fs => fs.all fun kv => PV.under n kv.2
def Store.under (n : Nat) (M : Store) : Bool := M.all (PO.under n)

/-- behind a call, a builtin, a comprehension that began at M: what was made and is lost is dropped; one new object that is handed back comes next to M -/
def gc (M : Store) (o : Out PV) : Out PV :=
  match o with
  | .ok v M' =>
    if M'.length ≤ M.length then o else
    if M'.take M.length = M ∨ Store.under M.length (M'.take M.length) = true then
      if PV.under M.length v = true then .ok v (M'.take M.length) else
      match v with
      | .loc k => (match M'[k]? with
        | some ob => if PO.under M.length ob = true then .ok (.loc M.length) (M'.take M.length ++ [ob]) else o
        | none => o)
      | _ => o
    else o
  | .exc c fs M' =>
    if (M'.take M.length = M ∨ Store.under M.length (M'.take M.length) = true) ∧ PV.unders M.length fs = true then .exc c fs (M'.take M.length) else o
  | .fail => .fail

/-- does except c take what is of class d -/
def takes (c d : Str) : Bool := decide (c = d) || decide (c = ("RoomFault" : Str))

/-! ### the code -/
inductive Bop where | add | sub | mul | fdiv | mod | pow deriving DecidableEq
inductive Cop where | eq | ne | lt | le | gt | ge | is | isnt | isin | notin deriving DecidableEq
inductive Ty where | int | bool | str | tuple | list | dict | cls (c : Str) deriving DecidableEq
/-- built-ins by name and form -/
inductive Bi where
  | len | sum | max | min | max2 | min2 | all | any | abs | int | str | tuple | list | sorted | lenset | sortedset | repr | dict
  deriving DecidableEq
inductive Mt where
  | append | pop | popAt | extend | insert | remove | count | index | reverse | clear | get | get2 | join | split | isdigit | upper
  deriving DecidableEq

mutual
inductive E where
  | cst (v : PV) | var (i : Nat) | glo (x : Str)
  | bin (o : Bop) (a b : E) | neg (a : E) | not (a : E) | and (a b : E) | or (a b : E)
  | cmp (o : Cop) (a b : E) | chn (o₁ o₂ : Cop) (a b c : E) | ife (c a b : E)
  | tup (es : Es) | lst (es : Es) | ix (a i : E) | sl (a lo hi : E) | slL (a lo : E) | slH (a hi : E) | slA (a : E) | rev (a : E)
  | call (f : Str) (es : Es) | new (c : Str) (es : Es) | bi (b : Bi) (es : Es) | mt (m : Mt) (a : E) (es : Es) | own (a : E) (c m : Str) (es : Es)
  | fld (a : E) (cs : List Str) (f : Str) | isi (a : E) (ds : List Str) (ts : List Ty) | exi (i : Nat) (ds : List Str) (c : Str) | exf (i : Nat) (f : Str) | bad
  | lc (own : List Nat) (t : T) (it : It) (c elt : E)
  | lc2 (own : List Nat) (t : T) (it : It) (c : E) (own' : List Nat) (t' : T) (it' : It) (c' elt : E)
  | dct (ks vs : Es) | fst (es : Es)
inductive Es where
  | nil | cons (e : E) (es : Es)
inductive It where
  | seq (e : E) | rng (a : E) | rng2 (a b : E) | enm (e : E) | zip (a b : E)
inductive T where
  | nm (i : Nat) | tup (ts : Ts) | ix (a i : E) | fl (a : E) (cs : List Str) (f : Str)
inductive Ts where
  | nil | cons (t : T) (ts : Ts)
end
def Ts.len : Ts → Nat
  | .nil => 0
  | .cons _ ts => ts.len + 1
mutual
inductive S where
  | asg (t : T) (e : E) | par (is : List Nat) (es : Es) | expr (e : E) | ret (e : E) | retN | pass | brk | cont
  | ife (c : E) (a b : Ss) | fo (t : T) (it : It) (b : Ss) | whl (c : E) (b : Ss)
  | rais (c : Str) (es : Es) | tri (b : Ss) (ds : List Str) (c : Str) (i : Option Nat) (h : Ss)
inductive Ss where
  | nil | cons (s : S) (ss : Ss)
end

/-! ### what it computes -/
structure Wld where
  call : Str → List PV → Store → Out PV
  glo : Str → Option PV
  /-- the field of an own exception class -/
  fld : Str → Option Str

def big : Nat := 18446744073709551616

/-- a text of Python: its signs are code points -/
def strOk (x : Str) : Bool := x.cps.toList.all fun c => decide (c < 1114112)

-- == as Python has it, of things without places
mutual
def PV.eqv : PV → PV → Bool
  | .non, .non => true
  | .bl a, .bl b => a == b
  | .bl a, .int j => (if a then 1 else 0) == j
  | .int i, .bl b => i == (if b then 1 else 0)
  | .int i, .int j => i == j
  | .str x, .str y => x == y
  | .tup xs, .tup ys => PV.eqvs xs ys
  | _, _ => false
def PV.eqvs : List PV → List PV → Bool
  | [], [] => true
  | x :: xs, y :: ys => PV.eqv x y && PV.eqvs xs ys
  | _, _ => false
end
/-- no place within, nested so deep at most -/
def PV.flat : Nat → PV → Bool
  | _, .non => true
  | _, .bl _ => true
  | _, .int _ => true
  | _, .str z => strOk z
  | n + 1, .tup xs => xs.all (PV.flat n)
  | _, _ => false
def PV.flats (n : Nat) (xs : List PV) : Bool := xs.all (PV.flat n)
/-- data: lists written out -/
inductive DV where
  | non | bl (b : Bool) | int (i : Int) | str (z : Str) | tup (xs : List DV) | lst (xs : List DV)
def mapO {α β : Type} (f : α → Option β) : List α → Option (List β)
  | [] => some []
  | x :: xs => match f x, mapO f xs with
    | some y, some ys => some (y :: ys)
    | _, _ => none
def PV.data (M : Store) : Nat → PV → Option DV
  | _, .non => some .non
  | _, .bl b => some (.bl b)
  | _, .int i => some (.int i)
  | _, .str z => if strOk z = true then some (.str z) else none
  | n + 1, .tup xs => (mapO (PV.data M n) xs).map .tup
  | n + 1, .loc k => match M[k]? with
    | some (.lst xs) => (mapO (PV.data M n) xs).map .lst
    | _ => none
  | _, _ => none
mutual
def DV.eqv : DV → DV → Bool
  | .non, .non => true
  | .bl a, .bl b => a == b
  | .bl a, .int j => (if a then 1 else 0) == j
  | .int i, .bl b => i == (if b then 1 else 0)
  | .int i, .int j => i == j
  | .str x, .str y => x == y
  | .tup xs, .tup ys => DV.eqvs xs ys
  | .lst xs, .lst ys => DV.eqvs xs ys
  | _, _ => false
def DV.eqvs : List DV → List DV → Bool
  | [], [] => true
  | x :: xs, y :: ys => DV.eqv x y && DV.eqvs xs ys
  | _, _ => false
end
/-- x == y -/
def eqD (x y : PV) (M : Store) : Option Bool :=
  if PV.flat 60 x = true ∧ PV.flat 60 y = true then some (PV.eqv x y) else
  match PV.data M 60 x, PV.data M 60 y with
  | some d, some e => some (DV.eqv d e)
  | _, _ => none
/-- x in xs -/
def inD (x : PV) (xs : List PV) : Option Bool :=
  if PV.flat 60 x = true ∧ PV.flats 60 xs = true then some (xs.any fun y => PV.eqv y x) else none

/-! order of things: ints, texts, tuples of these (all places of one kind, or told none) -/
def ltN : List Nat → List Nat → Bool
  | [], [] => false
  | [], _ :: _ => true
  | _ :: _, [] => false
  | a :: x, b :: y => if a = b then ltN x y else decide (a < b)
mutual
def PV.lt : PV → PV → Bool
  | .int i, .int j => decide (i < j)
  | .str x, .str y => ltN x.cps.toList y.cps.toList
  | .tup xs, .tup ys => PV.lts xs ys
  | _, _ => false
def PV.lts : List PV → List PV → Bool
  | [], [] => false
  | [], _ :: _ => true
  | _ :: _, [] => false
  | x :: xs, y :: ys => if PV.eqv x y = true then PV.lts xs ys else PV.lt x y
end
def PV.le (x y : PV) : Bool := !PV.lt y x
-- alike things: the same kind, place by place, as far as both go
mutual
def PV.ord : PV → PV → Bool
  | .int _, .int _ => true
  | .str x, .str y => strOk x && strOk y
  | .tup xs, .tup ys => PV.ords xs ys
  | _, _ => false
def PV.ords : List PV → List PV → Bool
  | x :: xs, y :: ys => PV.ord x y && PV.ords xs ys
  | _, _ => true
end
def isInts : List PV → Bool
  | [] => true
  | .int _ :: r => isInts r
  | _ => false
def intOf : PV → Int
  | .int i => i
  | _ => 0
def isBls : List PV → Bool
  | [] => true
  | .bl _ :: r => isBls r
  | _ => false
def blOf : PV → Bool
  | .bl b => b
  | _ => false
def isStrs : List PV → Bool
  | [] => true
  | .str _ :: r => isStrs r
  | _ => false
def strOf : PV → Str
  | .str z => z
  | _ => Str.empty

def cutL {α : Type} (xs : List α) (lo hi : Nat) : List α := (xs.drop lo).take (hi - lo)
def sIx (n d : Nat) : Option Int → Nat
  | none => d
  | some v => if v < 0 then (v + (n : Int)).toNat else min v.toNat n
def ixN (n : Nat) (i : Int) : Option Nat := if 0 ≤ i then (if i < n then some i.toNat else none) else if -(n : Int) ≤ i then some (i + n).toNat else none
def atI {α : Type} (xs : List α) (i : Int) : Option α := (ixN xs.length i).bind fun j => xs[j]?

def lookD (k : PV) : List (PV × PV) → Option PV
  | [] => none
  | (a, v) :: r => if a = k then some v else lookD k r
def putD (k v : PV) : List (PV × PV) → List (PV × PV)
  | [] => [(k, v)]
  | (a, x) :: r => if a = k then (a, v) :: r else (a, x) :: putD k v r
/-- what may be a dict's key: ints, texts, tuples of them -/
def PV.key : Nat → PV → Bool
  | _, .int _ => true
  | _, .str _ => true
  | n + 1, .tup xs => xs.all (PV.key n)
  | _, _ => false
def PV.keys (n : Nat) (xs : List PV) : Bool := xs.all (PV.key n)

def opt {α : Type} (M : Store) : Option α → Out α
  | some a => .ok a M
  | none => .fail
def bopV (o : Bop) (x y : PV) (M : Store) : Out PV :=
  match o, x, y with
  | .add, .int i, .int j => .ok (.int (i + j)) M
  | .sub, .int i, .int j => .ok (.int (i - j)) M
  | .mul, .int i, .int j => if i.natAbs < big ∨ j.natAbs < big then .ok (.int (i * j)) M else .fail
  | .fdiv, .int i, .int j => if 0 < j ∧ j < 1073741824 then .ok (.int (i / j)) M else .fail
  | .mod, .int i, .int j => if 0 < j then .ok (.int (i % j)) M else .fail
  | .pow, .int i, .int j => if 0 ≤ j ∧ j ≤ 1000 ∧ i.natAbs < big then .ok (.int (i ^ j.toNat)) M else .fail
  | .add, .str x, .str y => if x.length + y.length ≤ cap then .ok (.str (x ++ y)) M else .fail
  | .add, .tup x, .tup y => if x.length + y.length ≤ cap then .ok (.tup (x ++ y)) M else .fail
  | .add, .loc p, .loc q => (match M[p]?, M[q]? with
    | some (.lst x), some (.lst y) => if x.length + y.length ≤ cap then .ok (.loc M.length) (M ++ [.lst (x ++ y)]) else .fail
    | _, _ => .fail)
  | .mul, .loc p, .int k => (match M[p]? with
    | some (.lst x) => if x.length * k.toNat ≤ cap ∧ k.natAbs < 1000000 then .ok (.loc M.length) (M ++ [.lst (List.replicate k.toNat x).flatten]) else .fail
    | _ => .fail)
  | .mul, .tup x, .int k => if x ≠ [] ∧ x.length ≤ 1000 ∧ 2 ≤ k ∧ k ≤ 1000 then .ok (.tup (List.replicate k.toNat x).flatten) M else .fail
  | _, _, _ => .fail

/-- a list's items -/
def seqL (v : PV) (M : Store) : Option (List PV) :=
  match v with
  | .loc p => (match M[p]? with
    | some (.lst xs) => some xs
    | some (.frz xs) => some xs
    | _ => none)
  | _ => none
/-- a list's or a tuple's items -/
def seqV (v : PV) (M : Store) : Option (List PV) :=
  match v with
  | .tup xs => some xs
  | v => seqL v M

def copV (o : Cop) (x y : PV) (M : Store) : Out PV :=
  match o with
  | .eq => (opt M (eqD x y M)).bind fun b M => .ok (.bl b) M
  | .ne => (opt M (eqD x y M)).bind fun b M => .ok (.bl (!b)) M
  | .lt => (match x, y with
    | .int i, .int j => .ok (.bl (decide (i < j))) M
    | _, _ => .fail)
  | .le => (match x, y with
    | .int i, .int j => .ok (.bl (decide (i ≤ j))) M
    | _, _ => .fail)
  | .gt => (match x, y with
    | .int i, .int j => .ok (.bl (decide (j < i))) M
    | _, _ => .fail)
  | .ge => (match x, y with
    | .int i, .int j => .ok (.bl (decide (j ≤ i))) M
    | _, _ => .fail)
  | .is => (match x, y with
    | x, .non => .ok (.bl (decide (x = .non))) M
    | .bl a, .bl b => .ok (.bl (a == b)) M
    | _, _ => .fail)
  | .isnt => (match x, y with
    | x, .non => .ok (.bl (!decide (x = .non))) M
    | .bl a, .bl b => .ok (.bl (!(a == b))) M
    | _, _ => .fail)
  | .isin => inV x y M
  | .notin => (inV x y M).bind fun b M => .ok (.bl (!blOf b)) M
where
  inV (x y : PV) (M : Store) : Out PV :=
    match x, y with
    | .str y, .str z => (match y.cps.toList with
      | [c] => .ok (.bl (decide (c ∈ z.cps.toList))) M
      | _ => .fail)
    | x, .tup ys => (opt M (inD x ys)).bind fun b M => .ok (.bl b) M
    | x, .loc p => (match M[p]? with
      | some (.lst ys) => (opt M (inD x ys)).bind fun b M => .ok (.bl b) M
      | some (.dct kvs) => if PV.key 6 x = true then .ok (.bl (lookD x kvs).isSome) M else .fail
      | _ => .fail)
    | _, _ => .fail

def ixV (x y : PV) (M : Store) : Out PV :=
  match x, y with
  | .tup xs, .int i => opt M (atI xs i)
  | .str z, .int i => if z.length ≤ cap then opt M ((atI z.cps.toList i).map fun c => .str ⟨#[c]⟩) else .fail
  | .loc p, y => (match M[p]?, y with
    | some (.lst xs), .int i => opt M (atI xs i)
    | some (.frz xs), .int i => opt M (atI xs i)
    | some (.dct kvs), k => if PV.key 6 k = true then opt M (lookD k kvs) else .fail
    | _, _ => .fail)
  | _, _ => .fail
def slV (x : PV) (lo hi : Option Int) (M : Store) : Out PV :=
  match x with
  | .tup xs => .ok (.tup (cutL xs (sIx xs.length 0 lo) (sIx xs.length xs.length hi))) M
  | .str z => if z.length ≤ cap then .ok (.str ⟨(cutL z.cps.toList (sIx z.length 0 lo) (sIx z.length z.length hi)).toArray⟩) M else .fail
  | .loc p => (match seqL (.loc p) M with
    | some xs => .ok (.loc M.length) (M ++ [.lst (cutL xs (sIx xs.length 0 lo) (sIx xs.length xs.length hi))])
    | none => .fail)
  | _ => .fail
def intV : PV → Option Int
  | .int i => some i
  | _ => none
def revV (x : PV) (M : Store) : Out PV :=
  match x with
  | .tup xs => .ok (.tup xs.reverse) M
  | .loc p => (match M[p]? with
    | some (.lst xs) => .ok (.loc M.length) (M ++ [.lst xs.reverse])
    | _ => .fail)
  | _ => .fail

def tyIs (M : Store) (v : PV) (t : Ty) : Bool :=
  match t, v with
  | .int, .int _ => true
  | .int, .bl _ => true
  | .bool, .bl _ => true
  | .str, .str _ => true
  | .tuple, .tup _ => true
  | .list, .loc p => (match M[p]? with
    | some (.lst _) => true
    | some (.frz _) => true
    | _ => false)
  | .dict, .loc p => (match M[p]? with
    | some (.dct _) => true
    | _ => false)
  | .cls c, .loc p => (match M[p]? with
    | some (.ins d _) => decide (c = d)
    | _ => false)
  | _, _ => false
def known (ds : List Str) (M : Store) : PV → Bool
  | .loc p => (match M[p]? with
    | some (.ins d _) => decide (d ∈ ds)
    | some _ => true
    | none => false)
  | .exn _ _ => false
  | _ => true

def foldMx (lt : PV → PV → Bool) (x : PV) : List PV → PV
  | [] => x
  | y :: r => foldMx lt (if lt x y = true then y else x) r
/-- all pairs can be ordered -/
def allOrd (xs : List PV) : Bool := xs.all fun x => xs.all fun y => PV.ord x y
/-- what max, min, sorted are served for -/
def ordOk (xs : List PV) : Bool := isInts xs
def sortV (xs : List PV) : List PV := xs.mergeSort PV.le
def dedup : List PV → List PV
  | [] => []
  | x :: r => if x ∈ r then dedup r else x :: dedup r

def numStr (n : Int) : Str := Str.ofString (toString n)
def biV (b : Bi) (vs : List PV) (M : Store) : Out PV :=
  match b, vs with
  | .len, [.str z] => if z.length ≤ cap then .ok (.int z.length) M else .fail
  | .len, [.tup xs] => .ok (.int xs.length) M
  | .len, [.loc p] => (match M[p]? with
    | some (.lst xs) => .ok (.int xs.length) M
    | some (.frz xs) => .ok (.int xs.length) M
    | some (.dct kvs) => .ok (.int kvs.length) M
    | _ => .fail)
  | .sum, [v] => (match seqV v M with
    | some xs => if isInts xs = true then .ok (.int (xs.map intOf).sum) M else .fail
    | none => .fail)
  | .max, [v] => (match seqV v M with
    | some (x :: r) => if ordOk (x :: r) = true then .ok (foldMx (fun a b => PV.lt a b) x r) M else .fail
    | _ => .fail)
  | .min, [v] => (match seqV v M with
    | some (x :: r) => if ordOk (x :: r) = true then .ok (foldMx (fun a b => PV.lt b a) x r) M else .fail
    | _ => .fail)
  | .max2, [.int i, .int j] => .ok (.int (if j > i then j else i)) M
  | .min2, [.int i, .int j] => .ok (.int (if j < i then j else i)) M
  | .all, [v] => (match seqL v M with
    | some xs => if isBls xs = true then .ok (.bl ((xs.map blOf).all id)) M else .fail
    | none => .fail)
  | .any, [v] => (match seqL v M with
    | some xs => if isBls xs = true then .ok (.bl ((xs.map blOf).any id)) M else .fail
    | none => .fail)
  | .abs, [.int i] => .ok (.int (if i < 0 then -i else i)) M
  | .int, [.int i] => .ok (.int i) M
  | .int, [.bl k] => .ok (.int (if k then 1 else 0)) M
  | .str, [.int i] => if i.natAbs < 2 ^ 1000 then .ok (.str (numStr i)) M else .fail
  | .str, [.str z] => .ok (.str z) M
  | .tuple, [.tup xs] => .ok (.tup xs) M
  | .tuple, [v] => (match seqL v M with
    | some xs => .ok (.tup xs) M
    | none => .fail)
  | .list, [.loc p] => (match M[p]? with
    | some (.lst xs) => .ok (.loc M.length) (M ++ [.lst xs])
    | some (.frz xs) => .ok (.loc M.length) (M ++ [.lst xs])
    | some (.dct kvs) => .ok (.loc M.length) (M ++ [.lst (kvs.map (·.1))])
    | _ => .fail)
  | .list, [.tup xs] => .ok (.loc M.length) (M ++ [.lst xs])
  | .sorted, [.loc p] => (match M[p]? with
    | some (.lst xs) => if ordOk xs = true then .ok (.loc M.length) (M ++ [.lst (sortV xs)]) else .fail
    | some (.dct kvs) => if ordOk (kvs.map (·.1)) = true then .ok (.loc M.length) (M ++ [.lst (sortV (kvs.map (·.1)))]) else .fail
    | _ => .fail)
  | .sorted, [.tup xs] => if ordOk xs = true then .ok (.loc M.length) (M ++ [.lst (sortV xs)]) else .fail
  | .lenset, [v] => (match seqV v M with
    | some xs => if PV.keys 6 xs = true then .ok (.int (dedup xs).length) M else .fail
    | none => .fail)
  | .sortedset, [v] => (match seqV v M with
    | some xs => if isInts xs = true then .ok (.loc M.length) (M ++ [.lst (sortV (dedup xs))]) else .fail
    | none => .fail)
  | .dict, [.loc p] => (match M[p]? with
    | some (.dct kvs) => .ok (.loc M.length) (M ++ [.dct kvs])
    | _ => .fail)
  | _, _ => .fail

def splitGo (sep : List Nat) : Nat → List Nat → List Nat → List (List Nat)
  | 0, acc, _ => [acc.reverse]
  | _ + 1, acc, [] => [acc.reverse]
  | n + 1, acc, c :: r => if sep.isPrefixOf (c :: r) = true then acc.reverse :: splitGo sep n [] ((c :: r).drop sep.length) else splitGo sep n (c :: acc) r
/-- the parts of a text between the separators (one sign long here) -/
def splitS (z sep : Str) : List Str := (splitGo sep.cps.toList (z.length + 1) [] z.cps.toList).map fun l => ⟨l.toArray⟩
def joinS (sep : Str) : List Str → Str
  | [] => Str.empty
  | [x] => x
  | x :: y :: r => x ++ sep ++ joinS sep (y :: r)
def idxD (k : PV) : List PV → Option Nat
  | [] => none
  | x :: r => if PV.eqv x k = true then some 0 else (idxD k r).map (· + 1)

/-- what a list is lengthened by: a list or a tuple -/
def seqX (v : PV) (M : Store) : Option (List PV) :=
  match v with
  | .tup xs => some xs
  | .loc p => (match M[p]? with
    | some (.lst xs) => some xs
    | _ => none)
  | _ => none
def mtV (m : Mt) (x : PV) (vs : List PV) (M : Store) : Out PV :=
  match x with
  | .loc p => (match M[p]? with
    | some (.lst xs) => (match m, vs with
      | .append, [v] => if xs.length < cap then .ok .non (M.set p (.lst (xs ++ [v]))) else .fail
      | .pop, [] => (match xs.getLast? with
        | some v => .ok v (M.set p (.lst xs.dropLast))
        | none => .fail)
      | .popAt, [.int i] => (match ixN xs.length i with
        | some k => (match xs[k]? with
          | some v => .ok v (M.set p (.lst (xs.eraseIdx k)))
          | none => .fail)
        | none => .fail)
      | .extend, [v] => (match seqX v M with
        | some ys => if xs.length + ys.length ≤ cap ∧ v ≠ .loc p then .ok .non (M.set p (.lst (xs ++ ys))) else .fail
        | none => .fail)
      | .insert, [.int i, v] => if xs.length < cap ∧ 0 ≤ i ∧ i < 1000000000 then .ok .non (M.set p (.lst (xs.take i.toNat ++ [v] ++ xs.drop i.toNat))) else .fail
      | .remove, [v] => if PV.flats 60 xs = true ∧ PV.flat 60 v = true then (match idxD v xs with
        | some k => .ok .non (M.set p (.lst (xs.eraseIdx k)))
        | none => .fail) else .fail
      | .count, [v] => if PV.flats 60 xs = true ∧ PV.flat 60 v = true then .ok (.int (xs.filter fun y => PV.eqv y v).length) M else .fail
      | .index, [v] => if PV.flats 60 xs = true ∧ PV.flat 60 v = true then (match idxD v xs with
        | some k => .ok (.int k) M
        | none => .fail) else .fail
      | .reverse, [] => .ok .non (M.set p (.lst xs.reverse))
      | .clear, [] => .ok .non (M.set p (.lst []))
      | _, _ => .fail)
    | some (.dct kvs) => (match m, vs with
      | .get, [k] => if PV.key 6 k = true then .ok ((lookD k kvs).getD .non) M else .fail
      | .get2, [k, d] => if PV.key 6 k = true then .ok ((lookD k kvs).getD d) M else .fail
      | _, _ => .fail)
    | _ => .fail)
  | .str z => (match m, vs with
    | .join, [v] => (match seqV v M with
      | some xs => if isStrs xs = true ∧ ((xs.map strOf).map (·.length)).sum + xs.length * z.length ≤ cap then .ok (.str (joinS z (xs.map strOf))) M else .fail
      | none => .fail)
    | .split, [.str sep] => if sep.length = 1 ∧ z.length + 2 ≤ cap then .ok (.loc M.length) (M ++ [.lst ((splitS z sep).map .str)]) else .fail
    | _, _ => .fail)
  | _ => .fail

/-- is the receiver of the method's type -/
def mtOk (m : Mt) (x : PV) (M : Store) : Bool :=
  match m with
  | .join | .split | .isdigit | .upper => (match x with
    | .str _ => true
    | _ => false)
  | .get | .get2 => (match x with
    | .loc p => (match M[p]? with
      | some (.dct _) => true
      | _ => false)
    | _ => false)
  | _ => (match x with
    | .loc p => (match M[p]? with
      | some (.lst _) => true
      | _ => false)
    | _ => false)
/-- the slots forgotten -/
def wipe (σ : Env) : List Nat → Env
  | [] => σ
  | v :: vs => (wipe σ vs).set v none

def fldV (cs : List Str) (x : PV) (f : Str) (M : Store) : Out PV :=
  match x with
  | .loc p => (match M[p]? with
    | some (.ins c fs) => if c ∈ cs then opt M (fs.lookup f) else .fail
    | _ => .fail)
  | _ => .fail
def putFl (f : Str) (v : PV) : List (Str × PV) → List (Str × PV)
  | [] => [(f, v)]
  | (g, x) :: r => if g = f then (g, v) :: r else (g, x) :: putFl f v r

/-- x[y] = v -/
def setV (x y v : PV) (M : Store) : Out Unit :=
  match x with
  | .loc p => (match M[p]?, y with
    | some (.lst xs), .int i => (match ixN xs.length i with
      | some k => .ok () (M.set p (.lst (xs.set k v)))
      | none => .fail)
    | some (.dct kvs), k => if PV.key 6 k = true ∧ kvs.length < cap then .ok () (M.set p (.dct (putD k v kvs))) else .fail
    | _, _ => .fail)
  | _ => .fail
/-- x.f = v -/
def fldS (cs : List Str) (x : PV) (f : Str) (v : PV) (M : Store) : Out Unit :=
  match x with
  | .loc p => (match M[p]? with
    | some (.ins c fs) => if c ∈ cs ∧ fs.length < 100 then .ok () (M.set p (.ins c (putFl f v fs))) else .fail
    | _ => .fail)
  | _ => .fail
def blV : PV → Option Bool
  | .bl b => some b
  | _ => none

/-- the items of what is walked, and the lists that must stand still meanwhile -/
abbrev Wk := List PV × List (Nat × List PV)
def still (ws : List (Nat × List PV)) (M : Store) : Bool := ws.all fun w => decide (seqL (.loc w.1) M = some w.2)
def seqW (v : PV) (M : Store) : Option Wk :=
  match v with
  | .tup xs => some (xs, [])
  | .loc p => (match seqL (.loc p) M with
    | some xs => some (xs, [(p, xs)])
    | none => none)
  | _ => none
def PV.isTup : PV → Bool
  | .tup _ => true
  | _ => false
def rngL (lo : Int) (n : Nat) : List PV := (List.range n).map fun (k : Nat) => .int (lo + (k : Int))
def enmL (k : Nat) : List PV → List PV
  | [] => []
  | x :: r => .tup [.int (k : Int), x] :: enmL (k + 1) r
def zipL : List PV → List PV → List PV
  | x :: xs, y :: ys => .tup [x, y] :: zipL xs ys
  | _, _ => []
def lim : Int := 4611686018427387904

/-- a comprehension's turns: bt puts an item into the slots, body lengthens the new list -/
def lpGo (bt : PV → Env → Store → Out Env) (body : Env → List PV → Store → Out (List PV)) (ws : List (Nat × List PV)) (σ : Env) : List PV → List PV → Store → Out (List PV)
  | [], acc, M => if still ws M = true then .ok acc M else .fail
  | x :: xs, acc, M => if still ws M = true then (bt x σ M).bind fun σ₂ M => (body σ₂ acc M).bind fun acc M => lpGo bt body ws σ xs acc M else .fail
/-- a turn of the last clause -/
def lcB (c elt : Env → Store → Out PV) (σ : Env) (acc : List PV) (M : Store) : Out (List PV) :=
  (c σ M).bind fun b M => match b with
    | .bl true => (elt σ M).bind fun v M => if acc.length < cap then .ok (acc ++ [v]) M else .fail
    | .bl false => .ok acc M
    | _ => .fail
/-- a turn of the first clause of two -/
def lcB2 (c : Env → Store → Out PV) (it : Env → Store → Out Wk) (bt : PV → Env → Store → Out Env) (body : Env → List PV → Store → Out (List PV)) (σ : Env) (acc : List PV) (M : Store) : Out (List PV) :=
  (c σ M).bind fun b M => match b with
    | .bl true => (it σ M).bind fun k M => lpGo bt body k.2 σ k.1 acc M
    | .bl false => .ok acc M
    | _ => .fail

section
variable (w : Wld)
mutual
def denE : E → Env → Store → Out PV
  | .cst v, _, M => .ok v M
  | .var i, σ, M => match σ[i]? with
    | some (some (.exn _ _)) => .fail
    | some (some v) => .ok v M
    | _ => .fail
  | .bad, _, _ => .fail
  | .exi i ds c, σ, M => match σ[i]? with
    | some (some (.exn d [])) => if d ∈ ds then .ok (.bl (takes c d)) M else .fail
    | _ => .fail
  | .exf i f, σ, M => match σ[i]? with
    | some (some (.exn d [v])) => if w.fld d = some f then .ok v M else .fail
    | _ => .fail
  | .glo x, _, M => opt M (w.glo x)
  | .bin o a b, σ, M => (denE a σ M).bind fun x M => (denE b σ M).bind fun y M => bopV o x y M
  | .neg a, σ, M => (denE a σ M).bind fun x M => match x with
    | .int i => .ok (.int (-i)) M
    | _ => .fail
  | .not a, σ, M => (denE a σ M).bind fun x M => match x with
    | .bl b => .ok (.bl (!b)) M
    | _ => .fail
  | .and a b, σ, M => (denE a σ M).bind fun x M => match x with
    | .bl true => denE b σ M
    | .bl false => .ok (.bl false) M
    | _ => .fail
  | .or a b, σ, M => (denE a σ M).bind fun x M => match x with
    | .bl true => .ok (.bl true) M
    | .bl false => denE b σ M
    | _ => .fail
  | .cmp o a b, σ, M => (denE a σ M).bind fun x M => (denE b σ M).bind fun y M => copV o x y M
  | .chn o₁ o₂ a b c, σ, M => (denE a σ M).bind fun x M => (denE b σ M).bind fun y M => (copV o₁ x y M).bind fun t M => match t with
    | .bl true => (denE c σ M).bind fun z M => copV o₂ y z M
    | .bl false => .ok (.bl false) M
    | _ => .fail
  | .ife c a b, σ, M => (denE c σ M).bind fun x M => match x with
    | .bl true => denE a σ M
    | .bl false => denE b σ M
    | _ => .fail
  | .tup es, σ, M => (denEs es σ M).bind fun vs M => .ok (.tup vs) M
  | .lst es, σ, M => (denEs es σ M).bind fun vs M => .ok (.loc M.length) (M ++ [.lst vs])
  | .ix a i, σ, M => (denE a σ M).bind fun x M => (denE i σ M).bind fun y M => ixV x y M
  | .sl a lo hi, σ, M => (denE a σ M).bind fun x M => ((denE lo σ M).bind fun y M => opt M (intV y)).bind fun i M => ((denE hi σ M).bind fun z M => opt M (intV z)).bind fun j M => slV x (some i) (some j) M
  | .slL a lo, σ, M => (denE a σ M).bind fun x M => ((denE lo σ M).bind fun y M => opt M (intV y)).bind fun i M => slV x (some i) none M
  | .slH a hi, σ, M => (denE a σ M).bind fun x M => ((denE hi σ M).bind fun z M => opt M (intV z)).bind fun j M => slV x none (some j) M
  | .slA a, σ, M => (denE a σ M).bind fun x M => slV x none none M
  | .rev a, σ, M => (denE a σ M).bind fun x M => revV x M
  | .call f es, σ, M => gc M ((denEs es σ M).bind fun vs M => w.call f vs M)
  | .new c es, σ, M => gc M ((denEs es σ M).bind fun vs M => (w.call (c ++ (".__init__" : Str)) (.loc M.length :: vs) (M ++ [.ins c []])).bind fun v M' => if v = .non then .ok (.loc M.length) M' else .fail)
  | .bi b es, σ, M => gc M ((denEs es σ M).bind fun vs M => biV b vs M)
  | .mt m a es, σ, M => gc M ((denE a σ M).bind fun x M => if mtOk m x M = true then (denEs es σ M).bind fun vs M => mtV m x vs M else .fail)
  | .own a c m es, σ, M => gc M ((denE a σ M).bind fun x M => if tyIs M x (.cls c) = true then (denEs es σ M).bind fun vs M => w.call (c ++ ("." : Str) ++ m) (x :: vs) M else .fail)
  | .fld a cs f, σ, M => (denE a σ M).bind fun x M => fldV cs x f M
  | .isi a ds ts, σ, M => (denE a σ M).bind fun x M => if known ds M x = true then .ok (.bl (ts.any fun t => tyIs M x t)) M else .fail
  | .lc own t it c elt, σ, M => gc M (Out.calm ((denIt it σ M).bind fun k M => (lpGo (fun v σ M => denT t v (wipe σ own) M) (lcB (fun σ M => denE c σ M) (fun σ M => denE elt σ M)) k.2 σ k.1 [] M).bind fun acc M => .ok (.loc M.length) (M ++ [.lst acc])))
  | .lc2 own t it c own' t' it' c' elt, σ, M => gc M (Out.calm ((denIt it σ M).bind fun k M => (lpGo (fun v σ M => denT t v (wipe σ own) M) (lcB2 (fun σ M => denE c σ M) (fun σ M => denIt it' σ M) (fun v σ M => denT t' v (wipe σ own') M) (lcB (fun σ M => denE c' σ M) (fun σ M => denE elt σ M))) k.2 σ k.1 [] M).bind fun acc M => .ok (.loc M.length) (M ++ [.lst acc])))
  | .dct ks vs, σ, M => (denEs ks σ M).bind fun xs M => (denEs vs σ M).bind fun ys M => if PV.keys 6 xs = true then .ok (.loc M.length) (M ++ [.dct ((xs.zip ys).foldl (fun d kv => putD kv.1 kv.2 d) [])]) else .fail
  | .fst es, σ, M => (denEs es σ M).bind fun vs M => if isStrs vs = true then .ok (.str ((vs.map strOf).foldl (· ++ ·) Str.empty)) M else .fail
def denEs : Es → Env → Store → Out (List PV)
  | .nil, _, M => .ok [] M
  | .cons e es, σ, M => (denE e σ M).bind fun v M => (denEs es σ M).bind fun vs M => .ok (v :: vs) M
def denIt : It → Env → Store → Out Wk
  | .seq e, σ, M => (denE e σ M).bind fun v M => opt M (seqW v M)
  | .rng a, σ, M => (denE a σ M).bind fun x M => match x with
    | .int i => if -lim ≤ i ∧ i < lim then .ok (rngL 0 i.toNat, []) M else .fail
    | _ => .fail
  | .rng2 a b, σ, M => (denE a σ M).bind fun x M => (denE b σ M).bind fun y M => match x, y with
    | .int i, .int j => if -lim ≤ i ∧ i < lim ∧ -lim ≤ j ∧ j < lim then .ok (rngL i (j - i).toNat, []) M else .fail
    | _, _ => .fail
  | .enm a, σ, M => (denE a σ M).bind fun x M => (opt M (seqW x M)).bind fun k M => .ok (enmL 0 k.1, k.2) M
  | .zip a b, σ, M => (denE a σ M).bind fun x M => (denE b σ M).bind fun y M => (opt M (seqW x M)).bind fun k M => (opt M (seqW y M)).bind fun l M => if x.isTup = y.isTup then .ok (zipL k.1 l.1, k.2 ++ l.2) M else .fail
def denT : T → PV → Env → Store → Out Env
  | .nm i, v, σ, M => if i < σ.length then .ok (σ.set i (some v)) M else .fail
  | .tup ts, v, σ, M => (match v with
    | .tup xs => if xs.length = ts.len then denTs ts xs σ M else .fail
    | .loc p => (match M[p]? with
      | some (.lst xs) => if xs.length = ts.len then denTs ts xs σ M else .fail
      | _ => .fail)
    | _ => .fail)
  | .ix a i, v, σ, M => Out.calm ((denE a σ M).bind fun x M => (denE i σ M).bind fun y M => (setV x y v M).bind fun _ M => .ok σ M)
  | .fl a cs f, v, σ, M => Out.calm ((denE a σ M).bind fun x M => (fldS cs x f v M).bind fun _ M => .ok σ M)
def denTs : Ts → List PV → Env → Store → Out Env
  | .nil, [], σ, M => .ok σ M
  | .cons t ts, v :: vs, σ, M => (denT t v σ M).bind fun σ M => denTs ts vs σ M
  | _, _, _, _ => .fail
end
end

/-! ### statements -/
inductive SOut where
  | nx (σ : Env) (M : Store) | rt (v : PV) (M : Store) | bk (σ : Env) (M : Store) | ct (σ : Env) (M : Store) | exc (c : Str) (fs : List PV) (σ : Env) (M : Store) | fail
/-- an expression in a statement: what it raises is raised at these slots -/
def Out.at {α : Type} (o : Out α) (σ : Env) (f : α → Store → SOut) : SOut :=
  match o with
  | .ok a M => f a M
  | .exc c fs M => .exc c fs σ M
  | .fail => .fail
def SOut.then (o : SOut) (f : Env → Store → SOut) : SOut :=
  match o with
  | .nx σ M => f σ M
  | o => o
def forGo (bt : PV → Env → Store → Out Env) (b : Env → Store → SOut) (ws : List (Nat × List PV)) : List PV → Env → Store → SOut
  | [], σ, M => if still ws M = true then .nx σ M else .fail
  | x :: xs, σ, M => if still ws M = true then
      (bt x σ M).at σ fun σ M => match b σ M with
        | .nx σ M => forGo bt b ws xs σ M
        | .ct σ M => forGo bt b ws xs σ M
        | .bk σ M => .nx σ M
        | o => o
    else .fail
def whlGo (c : Env → Store → Out PV) (b : Env → Store → SOut) : Nat → Env → Store → SOut
  | 0, _, _ => .fail
  | n + 1, σ, M => (c σ M).at σ fun x M => match x with
    | .bl true => (match b σ M with
      | .nx σ M => whlGo c b n σ M
      | .ct σ M => whlGo c b n σ M
      | .bk σ M => .nx σ M
      | o => o)
    | .bl false => .nx σ M
    | _ => .fail
/-- more turns than any loop takes -/
def turns : Nat := 1000000000
def goneE (i : Option Nat) (σ : Env) : Env := match i with
  | some i => σ.set i none
  | none => σ
def cleanE (σ : Env) : Bool := σ.all fun
  | some (.exn _ _) => false
  | _ => true
/-- behind an except suite: its name is gone, no other name holds the exception; it raises nothing -/
def SOut.gone (i : Option Nat) : SOut → SOut
  | .nx σ M => if cleanE (goneE i σ) = true then .nx (goneE i σ) M else .fail
  | .bk σ M => if cleanE (goneE i σ) = true then .bk (goneE i σ) M else .fail
  | .ct σ M => if cleanE (goneE i σ) = true then .ct (goneE i σ) M else .fail
  | .rt v M => .rt v M
  | _ => .fail
def setMany : List Nat → List PV → Env → Env
  | i :: is, v :: vs, σ => setMany is vs (σ.set i (some v))
  | _, _, σ => σ
section
variable (w : Wld)
mutual
def denS : S → Env → Store → SOut
  | .asg t e, σ, M => (denE w e σ M).at σ fun v M => (denT w t v σ M).at σ fun σ M => .nx σ M
  | .par is es, σ, M => (denEs w es σ M).at σ fun vs M => if vs.length = is.length then .nx (setMany is vs σ) M else .fail
  | .expr e, σ, M => (denE w e σ M).at σ fun _ M => .nx σ M
  | .ret e, σ, M => (denE w e σ M).at σ fun v M => .rt v M
  | .retN, _, M => .rt .non M
  | .pass, σ, M => .nx σ M
  | .brk, σ, M => .bk σ M
  | .cont, σ, M => .ct σ M
  | .ife c a b, σ, M => (denE w c σ M).at σ fun x M => match x with
    | .bl true => denSs a σ M
    | .bl false => denSs b σ M
    | _ => .fail
  | .fo t it b, σ, M => (denIt w it σ M).at σ fun k M => forGo (fun v σ M => denT w t v σ M) (fun σ M => denSs b σ M) k.2 k.1 σ M
  | .whl c b, σ, M => whlGo (fun σ M => denE w c σ M) (fun σ M => denSs b σ M) turns σ M
  | .rais c es, σ, M => (denEs w es σ M).at σ fun vs M => .exc c vs σ M
  | .tri b ds c i h, σ, M => match denSs b σ M with
    | .exc d fs σ M => if d ∉ ds then .fail else if takes c d = true then (denSs h (match i with
        | some i => σ.set i (some (.exn d fs))
        | none => σ) M).gone i else .exc d fs σ M
    | o => o
def denSs : Ss → Env → Store → SOut
  | .nil, σ, M => .nx σ M
  | .cons s ss, σ, M => (denS s σ M).then fun σ M => denSs ss σ M
end
end

/-! ### a program -/
/-- a def: its parameters' number, its slots' number, its body -/
structure Def where
  ps : Nat
  n : Nat
  body : Ss
structure Prog where
  fn : Str → Option Def
  glo : Str → Option PV
  fld : Str → Option Str
def startE (d : Def) (vs : List PV) : Env := vs.map some ++ List.replicate (d.n - vs.length) none
def SOut.out : SOut → Out PV
  | .nx _ M => .ok .non M
  | .rt v M => .ok v M
  | .exc c fs _ M => .exc c fs M
  | _ => .fail
/-- a def called, so many calls deep at most -/
def Prog.call (P : Prog) : Nat → Str → List PV → Store → Out PV
  | 0, _, _, _ => .fail
  | n + 1, f, vs, M => match P.fn f with
    | some d => if vs.length = d.ps then (denSs ⟨P.call n, P.glo, P.fld⟩ d.body (startE d vs) M).out else .fail
    | none => .fail
end Mini

set_option autoImplicit false
set_option linter.all false
set_option maxRecDepth 100000
/-! Mini2: how our values and our store stand in the hand layer's heap. -/
namespace Mini
open PySem PySem.Spec PyProof.Rows L2

/-- where the places stand -/
abbrev Mu := Nat → Addr

section
variable (K : PySem.W.Frag)
mutual
inductive Rep (μ : Mu) (H : Hp) (n : Nat) : V → PV → Prop
  | non : Rep μ H n .non .non
  | bl (b : Bool) : Rep μ H n (.bl b) (.bl b)
  | int (i : Int) : Rep μ H n (.int i) (.int i)
  | str (z : Str) : Rep μ H n (.str z) (.str z)
  | tup {p : Addr} {vs : List V} {xs : List PV} : SqT K H p vs → Reps μ H n vs xs → Rep μ H n (.ref p) (.tup xs)
  | loc {i : Nat} : i < n → Rep μ H n (.ref (μ i)) (.loc i)
inductive Reps (μ : Mu) (H : Hp) (n : Nat) : List V → List PV → Prop
  | nil : Reps μ H n [] []
  | cons {v : V} {vs : List V} {x : PV} {xs : List PV} : Rep μ H n v x → Reps μ H n vs xs → Reps μ H n (v :: vs) (x :: xs)
end
end

/-- an instance's attributes -/
inductive FldR (K : PySem.W.Frag) (μ : Mu) (H : Hp) (n : Nat) : List (Str × V) → List (Str × PV) → Prop
  | nil : FldR K μ H n [] []
  | cons {f : Str} {v : V} {x : PV} {vs : List (Str × V)} {xs : List (Str × PV)} : Rep K μ H n v x → FldR K μ H n vs xs → FldR K μ H n ((f, v) :: vs) ((f, x) :: xs)

def ObjR (K : PySem.W.Frag) (mg : Str → Option Value) (μ : Mu) (H : Hp) (n : Nat) (a : Addr) : PO → Prop
  | .lst xs => ∃ vs, H a = some (.lst vs) ∧ Reps K μ H n vs xs
  | .frz xs => ∃ o vs, H a = some (.frz o (.lst vs)) ∧ Reps K μ H n vs xs
  | .dct _ => False
  | .ins c fs => ∃ C dx vs, mg c = some (.ref C) ∧ H a = some (.ins C dx vs) ∧ FldR K μ H n vs fs

structure Rel (K : PySem.W.Frag) (mg : Str → Option Value) (μ : Mu) (H : Hp) (M : Store) : Prop where
  inj : ∀ i j, i < M.length → j < M.length → μ i = μ j → i = j
  obj : ∀ i o, M[i]? = some o → ObjR K mg μ H M.length (μ i) o

structure Step (K : PySem.W.Frag) (μ : Mu) (H : Hp) (M : Store) (μ' : Mu) (H' : Hp) (M' : Store) : Prop where
  same : ∀ i, i < M.length → μ' i = μ i
  grow : M.length ≤ M'.length
  frame : ∀ a o, H a = some o → (∀ i, i < M.length → μ i ≠ a) → H' a = some o
  there : ∀ a, H' a = none → H a = none
  new : ∀ i, M.length ≤ i → i < M'.length → H (μ' i) = none
  tup : ∀ p vs, SqT K H p vs → SqT K H' p vs

section
variable {K : PySem.W.Frag} {mg : Str → Option Value} {μ μ' μ₁ μ₂ : Mu} {H H' H₁ H₂ : Hp} {M M' M₁ M₂ : Store} {n m : Nat}

theorem Step.refl : Step K μ H M μ H M :=
  ⟨fun _ _ => rfl, Nat.le_refl _, fun _ _ h _ => h, fun _ h => h, fun i h h' => absurd (Nat.lt_of_lt_of_le h' h) (Nat.lt_irrefl _), fun _ _ h => h⟩
theorem Step.trans (a : Step K μ H M μ₁ H₁ M₁) (b : Step K μ₁ H₁ M₁ μ₂ H₂ M₂) : Step K μ H M μ₂ H₂ M₂ where
  same := fun i h => (b.same i (Nat.lt_of_lt_of_le h a.grow)).trans (a.same i h)
  grow := Nat.le_trans a.grow b.grow
  frame := fun x o h hx => b.frame x o (a.frame x o h hx) fun i hi e => by
    by_cases hl : i < M.length
    · exact hx i hl ((a.same i hl).symm.trans e)
    · have z := a.new i (Nat.le_of_not_lt hl) hi
      rw [e, h] at z; cases z
  there := fun x h => a.there x (b.there x h)
  new := fun i h h' => by
    by_cases hl : i < M₁.length
    · rw [b.same i hl]; exact a.new i h hl
    · exact a.there _ (b.new i (Nat.le_of_not_lt hl) h')
  tup := fun p vs h => b.tup p vs (a.tup p vs h)

-- values, carried on
mutual
theorem Rep.mono {u : V} {x : PV} : Rep K μ H n u x → (∀ i, i < n → μ' i = μ i) → n ≤ m → (∀ p vs, SqT K H p vs → SqT K H' p vs) → Rep K μ' H' m u x
  | .non, _, _, _ => .non
  | .bl b, _, _, _ => .bl b
  | .int i, _, _, _ => .int i
  | .str z, _, _, _ => .str z
  | .tup h r, hs, hn, ht => .tup (ht _ _ h) (Reps.mono r hs hn ht)
  | .loc (i := i) h, hs, hn, _ => by
    rw [← hs i h]
    exact .loc (Nat.lt_of_lt_of_le h hn)
theorem Reps.mono {us : List V} {xs : List PV} : Reps K μ H n us xs → (∀ i, i < n → μ' i = μ i) → n ≤ m → (∀ p vs, SqT K H p vs → SqT K H' p vs) → Reps K μ' H' m us xs
  | .nil, _, _, _ => .nil
  | .cons h r, hs, hn, ht => .cons (Rep.mono h hs hn ht) (Reps.mono r hs hn ht)
end
theorem Rep.step {u : V} {x : PV} (r : Rep K μ H M.length u x) (s : Step K μ H M μ' H' M') : Rep K μ' H' M'.length u x := r.mono s.same s.grow s.tup
theorem Reps.step {u : List V} {x : List PV} (r : Reps K μ H M.length u x) (s : Step K μ H M μ' H' M') : Reps K μ' H' M'.length u x := r.mono s.same s.grow s.tup
-- .. held down
mutual
theorem Rep.down {u : V} {x : PV} : Rep K μ H n u x → PV.under m x = true → Rep K μ H m u x
  | .non, _ => .non
  | .bl b, _ => .bl b
  | .int i, _ => .int i
  | .str z, _ => .str z
  | .tup h r, e => .tup h (Reps.down r e)
  | .loc (i := i) h, e => .loc (of_decide_eq_true e)
theorem Reps.down {us : List V} {xs : List PV} : Reps K μ H n us xs → PV.unders m xs = true → Reps K μ H m us xs
  | .nil, _ => .nil
  | .cons h r, e => .cons (Rep.down h (Bool.and_eq_true_iff.mp e).1) (Reps.down r (Bool.and_eq_true_iff.mp e).2)
end
mutual
theorem Rep.under {u : V} {x : PV} : Rep K μ H n u x → PV.under n x = true
  | .non => rfl
  | .bl b => rfl
  | .int i => rfl
  | .str z => rfl
  | .tup h r => Reps.under r
  | .loc (i := i) h => decide_eq_true h
theorem Reps.under {us : List V} {xs : List PV} : Reps K μ H n us xs → PV.unders n xs = true
  | .nil => rfl
  | .cons h r => Bool.and_eq_true_iff.mpr ⟨Rep.under h, Reps.under r⟩
end
theorem FldR.mono {us : List (Str × V)} {xs : List (Str × PV)} (h : FldR K μ H n us xs) (hs : ∀ i, i < n → μ' i = μ i) (hn : n ≤ m) (ht : ∀ p vs, SqT K H p vs → SqT K H' p vs) : FldR K μ' H' m us xs := by
  induction h with
  | nil => exact .nil
  | cons r _ ih => exact .cons (r.mono hs hn ht) ih
theorem FldR.down {us : List (Str × V)} {xs : List (Str × PV)} (h : FldR K μ H n us xs) (e : (xs.all fun kv => PV.under m kv.2) = true) : FldR K μ H m us xs := by
  induction h with
  | nil => exact .nil
  | cons r _ ih =>
    rw [List.all_cons, Bool.and_eq_true_iff] at e
    exact .cons (r.down e.1) (ih e.2)
theorem FldR.under {us : List (Str × V)} {xs : List (Str × PV)} (h : FldR K μ H n us xs) : (xs.all fun kv => PV.under n kv.2) = true := by
  induction h with
  | nil => rfl
  | cons r _ ih =>
    rw [List.all_cons, Bool.and_eq_true_iff]
    exact ⟨r.under, ih⟩
theorem FldR.length {us : List (Str × V)} {xs : List (Str × PV)} (h : FldR K μ H n us xs) : us.length = xs.length := by
  induction h with
  | nil => rfl
  | cons _ _ ih => rw [List.length_cons, List.length_cons, ih]
theorem FldR.look {us : List (Str × V)} {xs : List (Str × PV)} (h : FldR K μ H n us xs) {f : Str} {x : PV} (e : xs.lookup f = some x) : ∃ u, us.lookup f = some u ∧ Rep K μ H n u x := by
  induction h with
  | nil => cases e
  | @cons g v y _ _ r _ ih =>
    rw [List.lookup_cons] at e ⊢
    cases q : (f == g) with
    | true =>
      rw [q] at e
      cases e
      exact ⟨v, rfl, r⟩
    | false =>
      rw [q] at e
      exact ih e
theorem FldR.put {us : List (Str × V)} {xs : List (Str × PV)} (h : FldR K μ H n us xs) {f : Str} {u : V} {x : PV} (r : Rep K μ H n u x) : FldR K μ H n (putF f u us) (putFl f x xs) := by
  induction h with
  | nil => exact .cons r .nil
  | @cons g v y vs ys q t ih =>
    by_cases e : g = f
    · show FldR K μ H n (if g = f then (g, u) :: vs else (g, v) :: putF f u vs) (if g = f then (g, x) :: ys else (g, y) :: putFl f x ys)
      rw [if_pos e, if_pos e]
      exact .cons r t
    · show FldR K μ H n (if g = f then (g, u) :: vs else (g, v) :: putF f u vs) (if g = f then (g, x) :: ys else (g, y) :: putFl f x ys)
      rw [if_neg e, if_neg e]
      exact .cons q ih

theorem ObjR.mono {a : Addr} {o : PO} (h : ObjR K mg μ H n a o) (hs : ∀ i, i < n → μ' i = μ i) (hn : n ≤ m) (ht : ∀ p vs, SqT K H p vs → SqT K H' p vs) (hk : ∀ o, H a = some o → H' a = some o) : ObjR K mg μ' H' m a o := by
  cases o with
  | lst xs => obtain ⟨vs, e, r⟩ := h; exact ⟨vs, hk _ e, r.mono hs hn ht⟩
  | frz xs => obtain ⟨o, vs, e, r⟩ := h; exact ⟨o, vs, hk _ e, r.mono hs hn ht⟩
  | dct _ => exact h
  | ins c fs => obtain ⟨C, dx, vs, g, e, r⟩ := h; exact ⟨C, dx, vs, g, hk _ e, r.mono hs hn ht⟩
theorem ObjR.down {a : Addr} {o : PO} (h : ObjR K mg μ H n a o) (e : PO.under m o = true) : ObjR K mg μ H m a o := by
  cases o with
  | lst xs => obtain ⟨vs, q, r⟩ := h; exact ⟨vs, q, r.down e⟩
  | frz xs => obtain ⟨o, vs, q, r⟩ := h; exact ⟨o, vs, q, r.down e⟩
  | dct _ => exact h
  | ins c fs => obtain ⟨C, dx, vs, g, q, r⟩ := h; exact ⟨C, dx, vs, g, q, r.down e⟩
theorem ObjR.under {a : Addr} {o : PO} (h : ObjR K mg μ H n a o) : PO.under n o = true := by
  cases o with
  | lst xs => obtain ⟨vs, q, r⟩ := h; exact r.under
  | frz xs => obtain ⟨o, vs, q, r⟩ := h; exact r.under
  | dct _ => exact h.elim
  | ins c fs => obtain ⟨C, dx, vs, g, q, r⟩ := h; exact r.under
theorem ObjR.some {a : Addr} {o : PO} (h : ObjR K mg μ H n a o) : ∃ ob, H a = some ob := by
  cases o with
  | lst xs => obtain ⟨vs, q, r⟩ := h; exact ⟨_, q⟩
  | frz xs => obtain ⟨o, vs, q, r⟩ := h; exact ⟨_, q⟩
  | dct _ => exact h.elim
  | ins c fs => obtain ⟨C, dx, vs, g, q, r⟩ := h; exact ⟨_, q⟩
/-- no tuple stands at one of our places -/
theorem ObjR.notup {a : Addr} {o : PO} (h : ObjR K mg μ H n a o) {vs : List V} : ¬ Rd H a (.tup vs) := by
  rintro (z | ⟨ob, z⟩)
  all_goals
    cases o with
    | lst xs => obtain ⟨_, q, _⟩ := h; rw [z] at q; cases q
    | frz xs => obtain ⟨_, _, q, _⟩ := h; rw [z] at q; cases q
    | dct _ => exact h
    | ins c fs => obtain ⟨_, _, _, _, q, _⟩ := h; rw [z] at q; cases q

theorem Rel.under (r : Rel K mg μ H M) : Store.under M.length M = true := by
  refine List.all_eq_true.mpr fun o ho => ?_
  obtain ⟨i, hi⟩ := List.mem_iff_getElem?.mp ho
  exact (r.obj i o hi).under
theorem Rel.lt {i : Nat} {o : PO} (h : M[i]? = some o) : i < M.length := (List.getElem?_eq_some_iff.mp h).1

/-- a new tuple -/
theorem upd_tup {p : Addr} {o : HO} (hp : H p = none) : ∀ q vs, SqT K H q vs → SqT K (upd H p o) q vs := fun q vs h => by
  have hne : ∀ x, H q = some x → q ≠ p := fun x e => ne_of_none e hp
  rcases h with (h | ⟨ob, h⟩) | h
  · exact .inl (.inl (by rw [upd_ne (hne _ h)]; exact h))
  · exact .inl (.inr ⟨ob, by rw [upd_ne (hne _ h)]; exact h⟩)
  · exact .inr h
theorem Step.fresh {p : Addr} {o : HO} (hp : H p = none) : Step K μ H M μ (upd H p o) M where
  same := fun _ _ => rfl
  grow := Nat.le_refl _
  frame := fun a ob e _ => by rw [upd_ne (ne_of_none e hp)]; exact e
  there := fun a e => by
    by_cases q : a = p
    · rw [q]; exact hp
    · rw [upd_ne q] at e; exact e
  new := fun i h h' => absurd (Nat.lt_of_lt_of_le h' h) (Nat.lt_irrefl _)
  tup := upd_tup hp
theorem Rel.fresh {p : Addr} {o : HO} (r : Rel K mg μ H M) (hp : H p = none) : Rel K mg μ (upd H p o) M :=
  ⟨r.inj, fun i ob h => (r.obj i ob h).mono (fun _ _ => rfl) (Nat.le_refl _) (upd_tup hp) fun x e => by rw [upd_ne (ne_of_none e hp)]; exact e⟩

/-- a place more -/
def ext (μ : Mu) (n : Nat) (p : Addr) : Mu := fun i => if i = n then p else μ i
theorem ext_lt {p : Addr} {i : Nat} (h : i < n) : ext μ n p i = μ i := if_neg (Nat.ne_of_lt h)
theorem ext_at {p : Addr} : ext μ n p n = p := if_pos rfl
/-- a new object at a new place: it stands at p in H', which is H but for new things -/
theorem Step.lay {p : Addr} {ob : PO} (hp : H p = none) (keep : ∀ a o, H a = some o → H' a = some o) : Step K μ H M (ext μ M.length p) H' (M ++ [ob]) where
  same := fun i h => ext_lt h
  grow := by rw [List.length_append]; exact Nat.le_add_right _ _
  frame := fun a o e _ => keep a o e
  there := fun a e => by
    cases q : H a with
    | none => rfl
    | some o => rw [keep a o q] at e; cases e
  new := fun i h h' => by
    rw [List.length_append] at h'
    have e : i = M.length := Nat.le_antisymm (Nat.le_of_lt_succ h') h
    rw [e, ext_at]; exact hp
  tup := fun q vs h => by
    rcases h with (h | ⟨ob, h⟩) | h
    · exact .inl (.inl (keep _ _ h))
    · exact .inl (.inr ⟨ob, keep _ _ h⟩)
    · exact .inr h
theorem Rel.lay {p : Addr} {ob : PO} (r : Rel K mg μ H M) (hp : H p = none) (keep : ∀ a o, H a = some o → H' a = some o) (new : ObjR K mg (ext μ M.length p) H' (M.length + 1) p ob) : Rel K mg (ext μ M.length p) H' (M ++ [ob]) := by
  have s : Step K μ H M (ext μ M.length p) H' (M ++ [ob]) := Step.lay hp keep
  have ln : (M ++ [ob]).length = M.length + 1 := by rw [List.length_append]; rfl
  have old : ∀ i, i < M.length → μ i ≠ p := fun i h e => by
    obtain ⟨o, q⟩ : ∃ o, M[i]? = some o := ⟨M[i], List.getElem?_eq_getElem h⟩
    obtain ⟨x, q⟩ := (r.obj i o q).some
    rw [e, hp] at q; cases q
  refine ⟨fun i j hi hj e => ?_, fun i o h => ?_⟩
  · rw [ln] at hi hj
    by_cases h1 : i = M.length
    · by_cases h2 : j = M.length
      · rw [h1, h2]
      · have h2' : j < M.length := Nat.lt_of_le_of_ne (Nat.le_of_lt_succ hj) h2
        rw [h1, ext_at, ext_lt h2'] at e
        exact absurd e.symm (old j h2')
    · have h1' : i < M.length := Nat.lt_of_le_of_ne (Nat.le_of_lt_succ hi) h1
      by_cases h2 : j = M.length
      · rw [h2, ext_at, ext_lt h1'] at e
        exact absurd e (old i h1')
      · have h2' : j < M.length := Nat.lt_of_le_of_ne (Nat.le_of_lt_succ hj) h2
        rw [ext_lt h1', ext_lt h2'] at e
        exact r.inj i j h1' h2' e
  · rw [ln]
    by_cases h1 : i < M.length
    · rw [List.getElem?_append_left h1] at h
      rw [ext_lt h1]
      exact (r.obj i o h).mono s.same (Nat.le_succ _) s.tup fun x q => keep _ _ q
    · have hi := Rel.lt h
      rw [ln] at hi
      have e : i = M.length := Nat.le_antisymm (Nat.le_of_lt_succ hi) (Nat.le_of_not_lt h1)
      subst e
      rw [List.getElem?_append_right (Nat.le_refl _), Nat.sub_self] at h
      cases h
      rw [ext_at]; exact new

/-- one of our objects is written -/
theorem Step.put {k : Nat} {ob : PO} {o o' : HO} (hk : k < M.length) (h : H (μ k) = some o) (ht : ∀ vs, ¬ Rd H (μ k) (.tup vs)) : Step K μ H M μ (upd H (μ k) o') (M.set k ob) where
  same := fun _ _ => rfl
  grow := by rw [List.length_set]; exact Nat.le_refl _
  frame := fun a x e hx => by rw [upd_ne (fun q => hx k hk q.symm)]; exact e
  there := fun a e => by
    by_cases q : a = μ k
    · rw [q, upd_same] at e; cases e
    · rw [upd_ne q] at e; exact e
  new := fun i h h' => by rw [List.length_set] at h'; exact absurd (Nat.lt_of_lt_of_le h' h) (Nat.lt_irrefl _)
  tup := fun p vs q => by
    rcases q with q | q
    · have hne : p ≠ μ k := fun e => ht vs (e ▸ q)
      rcases q with q | ⟨x, q⟩
      · exact .inl (.inl (by rw [upd_ne hne]; exact q))
      · exact .inl (.inr ⟨x, by rw [upd_ne hne]; exact q⟩)
    · exact .inr q
theorem Rel.put {k : Nat} {ob : PO} {o o' : HO} (r : Rel K mg μ H M) (hk : k < M.length) (h : H (μ k) = some o) (new : ObjR K mg μ (upd H (μ k) o') M.length (μ k) ob) : Step K μ H M μ (upd H (μ k) o') (M.set k ob) ∧ Rel K mg μ (upd H (μ k) o') (M.set k ob) := by
  obtain ⟨x, hx⟩ : ∃ x, M[k]? = some x := ⟨M[k], List.getElem?_eq_getElem hk⟩
  have s : Step K μ H M μ (upd H (μ k) o') (M.set k ob) := Step.put hk h fun vs => (r.obj k x hx).notup
  refine ⟨s, fun i j hi hj => ?_, fun i y q => ?_⟩
  · rw [List.length_set] at hi hj
    exact r.inj i j hi hj
  · rw [List.length_set]
    by_cases e : i = k
    · subst e
      rw [List.getElem?_set_self hk] at q
      cases q
      exact new
    · rw [List.getElem?_set_ne (Ne.symm e)] at q
      have hi := Rel.lt q
      exact (r.obj i y q).mono (fun _ _ => rfl) (Nat.le_refl _) s.tup fun z w => by
        rw [upd_ne (fun e' => e (r.inj i k hi hk e'))]; exact w
end

/-! ### what is wanted of an outcome -/
/-- an exception's class and own dict -/
def ExR (K : PySem.W.Frag) (mg : Str → Option Value) (fld : Str → Option Str) (μ : Mu) (H : Hp) (n : Nat) (c : Str) (fs : List PV) (cls : Value) (d : Option Addr) : Prop :=
  ∃ C, mg c = some (.ref C) ∧ cls = .ref C ∧ ((fs = [] ∧ d = none ∧ fld c = none) ∨ ∃ f x dx u, fs = [x] ∧ fld c = some f ∧ d = some dx ∧ H dx = some (.xd [(f, u)]) ∧ Rep K μ H n u x)

section
variable (K : PySem.W.Frag) (mg : Str → Option Value) (fld : Str → Option Str)
def Good {α β : Type} (R : Mu → Hp → Store → β → α → Prop) (μ : Mu) (H : Hp) (M : Store) (E : XK) (Q : β → Hp → Prop) : Out α → Prop
  | .ok a M' => ∀ μ' H' b, Step K μ H M μ' H' M' → Rel K mg μ' H' M' → R μ' H' M' b a → Q b H'
  | .exc c fs M' => ∀ μ' H' cls d, Step K μ H M μ' H' M' → Rel K mg μ' H' M' → ExR K mg fld μ' H' M'.length c fs cls d → E cls d H'
  | .fail => False
end
section
variable {K : PySem.W.Frag} {mg : Str → Option Value} {fld : Str → Option Str} {μ μ' μ₁ μ₂ : Mu} {H H' H₁ H₂ : Hp} {M M' M₁ M₂ : Store} {E : XK} {α β γ δ : Type}
theorem Good.step {R : Mu → Hp → Store → β → α → Prop} {Q : β → Hp → Prop} {o : Out α} (g : Good K mg fld R μ H M E Q o) (s : Step K μ H M μ₁ H₁ M₁) : Good K mg fld R μ₁ H₁ M₁ E Q o := by
  cases o with
  | ok a M' => exact fun μ' H' b s' => g μ' H' b (s.trans s')
  | exc c fs M' => exact fun μ' H' cls d s' => g μ' H' cls d (s.trans s')
  | fail => exact g
theorem Good.mono {R : Mu → Hp → Store → β → α → Prop} {Q Q' : β → Hp → Prop} {E' : XK} {o : Out α} (g : Good K mg fld R μ H M E Q o) (h : ∀ b H, Q b H → Q' b H) (he : ∀ c d H, E c d H → E' c d H) : Good K mg fld R μ H M E' Q' o := by
  cases o with
  | ok a M' => exact fun μ' H' b s r q => h _ _ (g μ' H' b s r q)
  | exc c fs M' => exact fun μ' H' cls d s r q => he _ _ _ (g μ' H' cls d s r q)
  | fail => exact g
/-- first o, then k -/
theorem Good.bind {R : Mu → Hp → Store → β → α → Prop} {R' : Mu → Hp → Store → δ → γ → Prop} {Q : δ → Hp → Prop} {o : Out α} {k : α → Store → Out γ} (g : Good K mg fld R' μ H M E Q (o.bind k)) :
    Good K mg fld R μ H M E (fun b H₁ => ∃ μ₁ M₁ a, Step K μ H M μ₁ H₁ M₁ ∧ Rel K mg μ₁ H₁ M₁ ∧ R μ₁ H₁ M₁ b a ∧ o = .ok a M₁ ∧ Good K mg fld R' μ₁ H₁ M₁ E Q (k a M₁)) o := by
  cases o with
  | ok a M' => exact fun μ' H' b s r q => ⟨μ', M', a, s, r, q, rfl, Good.step g s⟩
  | exc c fs M' => exact g
  | fail => exact g
/-- an outcome at once -/
theorem Good.now {R : Mu → Hp → Store → β → α → Prop} {Q : β → Hp → Prop} {a : α} {b : β} (q : Good K mg fld R μ H M E Q (.ok a M)) (r : Rel K mg μ H M) (v : R μ H M b a) : Q b H :=
  q μ H b .refl r v
/-- a new object handed back -/
theorem Good.lay {Q : V → Hp → Prop} {ob : PO} {o : HO} {p : Addr} (q : Good K mg fld (fun μ H M u v => Rep K μ H M.length u v) μ H M E Q (.ok (.loc M.length) (M ++ [ob]))) (r : Rel K mg μ H M) (hp : H p = none)
    (new : ObjR K mg (ext μ M.length p) (upd H p o) (M.length + 1) p ob) : Q (.ref p) (upd H p o) := by
  have keep : ∀ a x, H a = some x → upd H p o a = some x := fun a x e => by rw [upd_ne (ne_of_none e hp)]; exact e
  refine q (ext μ M.length p) (upd H p o) (.ref p) (Step.lay hp keep) (r.lay hp keep new) ?_
  have z : Rep K (ext μ M.length p) (upd H p o) (M ++ [ob]).length (.ref (ext μ M.length p M.length)) (.loc M.length) := .loc (by rw [List.length_append]; exact Nat.lt_succ_self _)
  rw [ext_at] at z
  exact z
theorem Good.layL {Q : V → Hp → Prop} {vs : List V} {xs : List PV} {p : Addr} (q : Good K mg fld (fun μ H M u v => Rep K μ H M.length u v) μ H M E Q (.ok (.loc M.length) (M ++ [.lst xs]))) (r : Rel K mg μ H M) (hp : H p = none)
    (h : Reps K μ H M.length vs xs) : Q (.ref p) (upd H p (.lst vs)) :=
  q.lay r hp ⟨vs, upd_same, h.mono (fun i hi => ext_lt hi) (Nat.le_succ _) (upd_tup hp)⟩
/-- a new tuple handed back -/
theorem Good.tup {Q : V → Hp → Prop} {vs : List V} {xs : List PV} {p : Addr} (q : Good K mg fld (fun μ H M u v => Rep K μ H M.length u v) μ H M E Q (.ok (.tup xs) M)) (r : Rel K mg μ H M) (hp : H p = none)
    (h : Reps K μ H M.length vs xs) : Q (.ref p) (upd H p (.tup vs)) := by
  have s : Step K μ H M μ (L2.upd H p (.tup vs)) M := Step.fresh hp
  exact q μ (L2.upd H p (.tup vs)) (.ref p) s (r.fresh hp) (.tup (.inl (.inl upd_same)) (h.step s))
/-- one of our lists is written -/
theorem Good.put {R : Mu → Hp → Store → β → α → Prop} {Q : β → Hp → Prop} {k : Nat} {ob : PO} {o o' : HO} {a : α} {b : β} (q : Good K mg fld R μ H M E Q (.ok a (M.set k ob))) (r : Rel K mg μ H M) (hk : k < M.length) (h : H (μ k) = some o)
    (new : ObjR K mg μ (upd H (μ k) o') M.length (μ k) ob) (v : Step K μ H M μ (upd H (μ k) o') (M.set k ob) → R μ (upd H (μ k) o') (M.set k ob) b a) : Q b (upd H (μ k) o') := by
  obtain ⟨s, r'⟩ := r.put (o' := o') hk h new
  exact q μ _ b s r' (v s)

theorem Rel.take (r : Rel K mg μ H M) (r' : Rel K mg μ' H' M') (hl : M.length ≤ M'.length) (c : M'.take M.length = M ∨ Store.under M.length (M'.take M.length) = true) : Rel K mg μ' H' (M'.take M.length) := by
  have hn : (M'.take M.length).length = M.length := by rw [List.length_take]; exact Nat.min_eq_left hl
  have c' : Store.under M.length (M'.take M.length) = true := by
    rcases c with c | c
    · rw [c]; exact r.under
    · exact c
  refine ⟨fun i j hi hj => r'.inj i j (by omega) (by omega), fun i o h => ?_⟩
  have hi := Rel.lt h
  rw [hn] at hi ⊢
  have h' : M'[i]? = some o := by rw [List.getElem?_take_of_lt hi] at h; exact h
  exact (r'.obj i o h').down (List.all_eq_true.mp c' o (List.mem_of_getElem? h))
theorem Step.take (s : Step K μ H M μ' H' M') : Step K μ H M μ' H' (M'.take M.length) := by
  have hn : (M'.take M.length).length = M.length := by rw [List.length_take]; exact Nat.min_eq_left s.grow
  exact ⟨s.same, by rw [hn]; exact Nat.le_refl _, s.frame, s.there, fun i h h' => by rw [hn] at h'; exact absurd (Nat.lt_of_lt_of_le h' h) (Nat.lt_irrefl _), s.tup⟩
/-- what is dropped is not missed -/
theorem Good.gc {Q : V → Hp → Prop} {o : Out PV} (r : Rel K mg μ H M) (g : Good K mg fld (fun μ H M u v => Rep K μ H M.length u v) μ H M E Q (gc M o)) : Good K mg fld (fun μ H M u v => Rep K μ H M.length u v) μ H M E Q o := by
  cases o with
  | fail => exact g
  | exc c fs M' =>
    unfold Mini.gc at g
    dsimp only at g
    by_cases c1 : (M'.take M.length = M ∨ Store.under M.length (M'.take M.length) = true) ∧ PV.unders M.length fs = true
    · rw [if_pos c1] at g
      intro μ' H' cls d s r' q
      have hn : (M'.take M.length).length = M.length := by rw [List.length_take]; exact Nat.min_eq_left s.grow
      refine g μ' H' cls d s.take (r.take r' s.grow c1.1) ?_
      obtain ⟨C, e1, e2, q⟩ := q
      refine ⟨C, e1, e2, ?_⟩
      rcases q with q | ⟨f, x, dx, u, e3, e4, e5, e6, q⟩
      · exact .inl q
      · refine .inr ⟨f, x, dx, u, e3, e4, e5, e6, ?_⟩
        rw [hn]
        refine q.down ?_
        have z := c1.2
        rw [e3] at z
        exact (Bool.and_eq_true_iff.mp z).1
    · rw [if_neg c1] at g
      exact g
  | ok v M' =>
    unfold Mini.gc at g
    dsimp only at g
    by_cases c0 : M'.length ≤ M.length
    · rw [if_pos c0] at g; exact g
    rw [if_neg c0] at g
    by_cases c1 : M'.take M.length = M ∨ Store.under M.length (M'.take M.length) = true
    case neg => rw [if_neg c1] at g; exact g
    rw [if_pos c1] at g
    by_cases c2 : PV.under M.length v = true
    · rw [if_pos c2] at g
      intro μ' H' u s r' q
      have hn : (M'.take M.length).length = M.length := by rw [List.length_take]; exact Nat.min_eq_left s.grow
      exact g μ' H' u s.take (r.take r' s.grow c1) (by show Rep K μ' H' _ u v; rw [hn]; exact q.down c2)
    rw [if_neg c2] at g
    cases v with
    | loc k =>
      dsimp only at g
      cases hk : M'[k]? with
      | none => rw [hk] at g; exact g
      | some ob =>
        rw [hk] at g
        dsimp only at g
        by_cases c3 : PO.under M.length ob = true
        case neg => rw [if_neg c3] at g; exact g
        rw [if_pos c3] at g
        intro μ' H' u s r' q
        have hn : (M'.take M.length).length = M.length := by rw [List.length_take]; exact Nat.min_eq_left s.grow
        have hkl := Rel.lt hk
        have hge : M.length ≤ k := by
          refine Nat.le_of_not_lt fun z => c2 ?_
          exact decide_eq_true z
        cases q with
        | loc hq =>
          have st := s.take
          have rt := r.take r' s.grow c1
          have hnew : H (μ' k) = none := s.new k hge hkl
          have ob' := (r'.obj k ob hk).down c3
          have hln : (M'.take M.length ++ [ob]).length = M.length + 1 := by rw [List.length_append, hn]; rfl
          refine g (ext μ' M.length (μ' k)) H' (.ref (μ' k)) ?_ ?_ ?_
          · refine ⟨fun i hi => (ext_lt hi).trans (s.same i hi), by rw [hln]; exact Nat.le_succ _, s.frame, s.there, fun i h h' => ?_, s.tup⟩
            rw [hln] at h'
            have e : i = M.length := Nat.le_antisymm (Nat.le_of_lt_succ h') h
            rw [e, ext_at]; exact hnew
          · refine ⟨fun i j hi hj e => ?_, fun i o h => ?_⟩
            · rw [hln] at hi hj
              have key : ∀ i, i < M.length + 1 → ∃ i', i' < M'.length ∧ ext μ' M.length (μ' k) i = μ' i' ∧ ((i = M.length ∧ i' = k) ∨ (i < M.length ∧ i' = i)) := fun i hi => by
                by_cases e : i = M.length
                · exact ⟨k, hkl, by rw [e, ext_at], .inl ⟨e, rfl⟩⟩
                · have hi' : i < M.length := Nat.lt_of_le_of_ne (Nat.le_of_lt_succ hi) e
                  exact ⟨i, Nat.lt_of_lt_of_le hi' s.grow, ext_lt hi', .inr ⟨hi', rfl⟩⟩
              obtain ⟨i', a1, a2, a3⟩ := key i hi
              obtain ⟨j', b1, b2, b3⟩ := key j hj
              rw [a2, b2] at e
              have e' := r'.inj i' j' a1 b1 e
              rcases a3 with ⟨a3, a4⟩ | ⟨a3, a4⟩ <;> rcases b3 with ⟨b3, b4⟩ | ⟨b3, b4⟩ <;> omega
            · have hi := Rel.lt h
              rw [hln] at hi ⊢
              by_cases h1 : i < M.length
              · rw [List.getElem?_append_left (by rw [hn]; exact h1)] at h
                rw [ext_lt h1]
                have z := rt.obj i o h
                rw [hn] at z
                exact z.mono (fun j hj => ext_lt hj) (Nat.le_succ _) (fun _ _ w => w) fun _ w => w
              · have e : i = M.length := Nat.le_antisymm (Nat.le_of_lt_succ hi) (Nat.le_of_not_lt h1)
                subst e
                rw [List.getElem?_append_right (by rw [hn]; exact Nat.le_refl _), hn, Nat.sub_self] at h
                cases h
                rw [ext_at]
                exact ob'.mono (fun j hj => ext_lt hj) (Nat.le_succ _) (fun _ _ w => w) fun _ w => w
          · have z : Rep K (ext μ' M.length (μ' k)) H' (M'.take M.length ++ [ob]).length (.ref (ext μ' M.length (μ' k) M.length)) (.loc M.length) := .loc (by rw [hln]; exact Nat.lt_succ_self _)
            rw [ext_at] at z
            exact z
    | _ => exact g
end
end Mini

set_option autoImplicit false
set_option linter.all false
set_option maxRecDepth 100000
/-! Mini3: the hand layer's readings of code; one lemma a construct. -/
namespace Mini
open PySem PySem.Spec L2
open PyProof.Rows hiding St

/-- the exception that an except suite handles -/
abbrev Hx := Option (Addr × Value × Option Addr)

abbrev RV (K : PySem.W.Frag) : Mu → Hp → Store → V → PV → Prop := fun μ H M u v => Rep K μ H M.length u v
abbrev RVs (K : PySem.W.Frag) : Mu → Hp → Store → List V → List PV → Prop := fun μ H M u v => Reps K μ H M.length u v
abbrev RB : Mu → Hp → Store → Bool → Bool → Prop := fun _ _ _ u v => u = v

section
variable (K : PySem.W.Frag) (mg : Str → Option Value) (fld : Str → Option Str) (hx : Hx)
def SlotR (μ : Mu) (H : Hp) (n : Nat) (u : V) : PV → Prop
  | .exn c fs => ∃ a cls d, hx = some (a, cls, d) ∧ u = .ref a ∧ ExR K mg fld μ H n c fs cls d
  | v => Rep K μ H n u v
structure EnvR (μ : Mu) (H : Hp) (M : Store) (σ : St) (σ' : Env) : Prop where
  len : σ.length = σ'.length
  at_ : ∀ (i : Nat) v, σ'[i]? = some (some v) → ∃ u, σ[i]? = some (some u) ∧ SlotR K mg fld hx μ H M.length u v
end

section
variable {K : PySem.W.Frag} {mg : Str → Option Value} {fld : Str → Option Str} {hx : Hx} {μ μ' : Mu} {H H' : Hp} {M M' : Store}
theorem ExR.step {c : Str} {fs : List PV} {cls : Value} {d : Option Addr} (r : Rel K mg μ H M) (h : ExR K mg fld μ H M.length c fs cls d) (s : Step K μ H M μ' H' M') : ExR K mg fld μ' H' M'.length c fs cls d := by
  obtain ⟨C, g, e, h⟩ := h
  refine ⟨C, g, e, ?_⟩
  rcases h with h | ⟨f, x, dx, u, e1, e2, e3, e4, q⟩
  · exact .inl h
  · refine .inr ⟨f, x, dx, u, e1, e2, e3, s.frame _ _ e4 fun i hi e => ?_, q.step s⟩
    obtain ⟨o, ho⟩ : ∃ o, M[i]? = some o := ⟨M[i], List.getElem?_eq_getElem hi⟩
    have z := r.obj i o ho
    rw [e] at z
    cases o with
    | lst xs => obtain ⟨_, q, _⟩ := z; rw [e4] at q; cases q
    | frz xs => obtain ⟨_, _, q, _⟩ := z; rw [e4] at q; cases q
    | dct _ => exact z
    | ins c fs => obtain ⟨_, _, _, _, q, _⟩ := z; rw [e4] at q; cases q
theorem SlotR.step {u : V} {v : PV} (r : Rel K mg μ H M) (h : SlotR K mg fld hx μ H M.length u v) (s : Step K μ H M μ' H' M') : SlotR K mg fld hx μ' H' M'.length u v := by
  cases v with
  | exn c fs => obtain ⟨a, cls, d, e1, e2, q⟩ := h; exact ⟨a, cls, d, e1, e2, q.step r s⟩
  | non => exact Rep.step (show Rep K μ H M.length u .non from h) s
  | bl b => exact Rep.step (show Rep K μ H M.length u (.bl b) from h) s
  | int i => exact Rep.step (show Rep K μ H M.length u (.int i) from h) s
  | str z => exact Rep.step (show Rep K μ H M.length u (.str z) from h) s
  | tup xs => exact Rep.step (show Rep K μ H M.length u (.tup xs) from h) s
  | loc k => exact Rep.step (show Rep K μ H M.length u (.loc k) from h) s
theorem SlotR.of {u : V} {v : PV} {n : Nat} (h : Rep K μ H n u v) : SlotR K mg fld hx μ H n u v := by
  cases h with
  | non => exact .non
  | bl b => exact .bl b
  | int i => exact .int i
  | str z => exact .str z
  | tup h r => exact .tup h r
  | loc h => exact .loc h
theorem EnvR.step {σ : St} {σ' : Env} (r : Rel K mg μ H M) (h : EnvR K mg fld hx μ H M σ σ') (s : Step K μ H M μ' H' M') : EnvR K mg fld hx μ' H' M' σ σ' :=
  ⟨h.len, fun i v e => let ⟨u, e', q⟩ := h.at_ i v e; ⟨u, e', q.step r s⟩⟩
theorem EnvR.set {σ : St} {σ' : Env} (h : EnvR K mg fld hx μ H M σ σ') {i : Nat} {u : V} {v : PV} (q : SlotR K mg fld hx μ H M.length u v) : EnvR K mg fld hx μ H M (σ.set i (some u)) (σ'.set i (some v)) := by
  refine ⟨by rw [List.length_set, List.length_set]; exact h.len, fun j w e => ?_⟩
  by_cases hj : j = i
  · subst hj
    by_cases hl : j < σ'.length
    · rw [List.getElem?_set_self hl] at e
      cases e
      exact ⟨u, List.getElem?_set_self (by rw [h.len]; exact hl), q⟩
    · rw [List.getElem?_eq_none (by rw [List.length_set]; omega)] at e; cases e
  · rw [List.getElem?_set_ne (Ne.symm hj)] at e ⊢
    exact h.at_ j w e
theorem EnvR.unset {σ : St} {σ' : Env} (h : EnvR K mg fld hx μ H M σ σ') {i : Nat} : EnvR K mg fld hx μ H M (σ.set i none) (σ'.set i none) := by
  refine ⟨by rw [List.length_set, List.length_set]; exact h.len, fun j w e => ?_⟩
  by_cases hj : j = i
  · subst hj
    by_cases hl : j < σ'.length
    · rw [List.getElem?_set_self hl] at e
      cases e
    · rw [List.getElem?_eq_none (by rw [List.length_set]; omega)] at e; cases e
  · rw [List.getElem?_set_ne (Ne.symm hj)] at e ⊢
    exact h.at_ j w e
theorem EnvR.wipe {σ : St} {σ' : Env} (h : EnvR K mg fld hx μ H M σ σ') : ∀ vs : List Nat, EnvR K mg fld hx μ H M (L2.wipe σ vs) (wipe σ' vs)
  | [] => h
  | v :: vs => (EnvR.wipe h vs).unset
end

section
variable (X : Cx) (fld : Str → Option Str) (hx : Hx)
/-- an expression's reading: what f gives -/
def LE (W : WX) (f : Env → Store → Out PV) : TE := fun σ H Q => ∃ μ M σ', Rel X.K X.mg μ H M ∧ EnvR X.K X.mg fld hx μ H M σ σ' ∧ Good X.K X.mg fld (RV X.K) μ H M (WE W σ) Q (f σ' M)
def LT (W : WX) (f : Env → Store → Out Bool) : TT := fun σ H Q => ∃ μ M σ', Rel X.K X.mg μ H M ∧ EnvR X.K X.mg fld hx μ H M σ σ' ∧ Good X.K X.mg fld RB μ H M (WE W σ) Q (f σ' M)
def LA (W : WX) (f : Env → Store → Out (List PV)) : TA := fun σ H Q => ∃ μ M σ', Rel X.K X.mg μ H M ∧ EnvR X.K X.mg fld hx μ H M σ σ' ∧ Good X.K X.mg fld (RVs X.K) μ H M (WE W σ) Q (f σ' M)
end
def toT (f : Env → Store → Out PV) : Env → Store → Out Bool := fun σ M => (f σ M).bind fun v M => opt M (blV v)

theorem PE.weak {X : Cx} {e : Expr} {t t' : TE} (h : PE X e t) (w : ∀ σ H Q, t' σ H Q → t σ H Q) : PE X e t' := ⟨fun pins s σ H Q I q => h.run pins s σ H Q I (w σ H Q q)⟩
theorem PT.weak {X : Cx} {e : Expr} {t t' : TT} (h : PT X e t) (w : ∀ σ H Q, t' σ H Q → t σ H Q) : PT X e t' := ⟨fun pins s σ H Q I q => h.run pins s σ H Q I (w σ H Q q)⟩
theorem PW.weak {X : Cx} {e : Expr} {t t' : TT} (h : PW X e t) (w : ∀ σ H Q, t' σ H Q → t σ H Q) : PW X e t' := ⟨fun wh pins s σ H Q I q => h.run wh pins s σ H Q I (w σ H Q q)⟩
theorem PA.weak {X : Cx} {e : List Expr} {t t' : TA} (h : PA X e t) (w : ∀ σ H Q, t' σ H Q → t σ H Q) : PA X e t' := ⟨fun pos pins s σ H Q I q => h.run pos pins s σ H Q I (w σ H Q q)⟩
theorem PS.weak {X : Cx} {e : Stmt} {t t' : TS} (h : PS X e t) (w : ∀ D σ H, t' D σ H → t D σ H) : PS X e t' := ⟨fun pins s σ H D I q => h.run pins s σ H D I (w D σ H q)⟩
theorem PSs.weak {X : Cx} {e : List Stmt} {t t' : TS} (h : PSs X e t) (w : ∀ D σ H, t' D σ H → t D σ H) : PSs X e t' := ⟨fun pins s σ H D I q => h.run pins s σ H D I (w D σ H q)⟩

section
variable {X : Cx} {fld : Str → Option Str} {hx : Hx} {W : WX} {f g h : Env → Store → Out PV}

/-- the first part's reading out of the whole's -/
theorem LE.bind {α β : Type} {R : Mu → Hp → Store → β → α → Prop} {σ : St} {H : Hp} {μ : Mu} {M : Store} {σ' : Env} {k : PV → Store → Out α} {Q : β → Hp → Prop} (r : Rel X.K X.mg μ H M) (e : EnvR X.K X.mg fld hx μ H M σ σ')
    (q : Good X.K X.mg fld R μ H M (WE W σ) Q ((f σ' M).bind k)) :
    LE X fld hx W f σ H (fun u H₁ => ∃ μ₁ M₁ v, Step X.K μ H M μ₁ H₁ M₁ ∧ Rel X.K X.mg μ₁ H₁ M₁ ∧ EnvR X.K X.mg fld hx μ₁ H₁ M₁ σ σ' ∧ Rep X.K μ₁ H₁ M₁.length u v ∧ f σ' M = .ok v M₁ ∧ Good X.K X.mg fld R μ₁ H₁ M₁ (WE W σ) Q (k v M₁)) :=
  ⟨μ, M, σ', r, e, q.bind.mono (fun _ _ ⟨μ₁, M₁, a, s, r', v, eq, g⟩ => ⟨μ₁, M₁, a, s, r', e.step r s, v, eq, g⟩) fun _ _ _ z => z⟩
theorem LA.bind {α β : Type} {R : Mu → Hp → Store → β → α → Prop} {fs : Env → Store → Out (List PV)} {σ : St} {H : Hp} {μ : Mu} {M : Store} {σ' : Env} {k : List PV → Store → Out α} {Q : β → Hp → Prop} (r : Rel X.K X.mg μ H M) (e : EnvR X.K X.mg fld hx μ H M σ σ')
    (q : Good X.K X.mg fld R μ H M (WE W σ) Q ((fs σ' M).bind k)) :
    LA X fld hx W fs σ H (fun u H₁ => ∃ μ₁ M₁ v, Step X.K μ H M μ₁ H₁ M₁ ∧ Rel X.K X.mg μ₁ H₁ M₁ ∧ EnvR X.K X.mg fld hx μ₁ H₁ M₁ σ σ' ∧ Reps X.K μ₁ H₁ M₁.length u v ∧ fs σ' M = .ok v M₁ ∧ Good X.K X.mg fld R μ₁ H₁ M₁ (WE W σ) Q (k v M₁)) :=
  ⟨μ, M, σ', r, e, q.bind.mono (fun _ _ ⟨μ₁, M₁, a, s, r', v, eq, g⟩ => ⟨μ₁, M₁, a, s, r', e.step r s, v, eq, g⟩) fun _ _ _ z => z⟩
theorem LT.bind {α β : Type} {R : Mu → Hp → Store → β → α → Prop} {fs : Env → Store → Out Bool} {σ : St} {H : Hp} {μ : Mu} {M : Store} {σ' : Env} {k : Bool → Store → Out α} {Q : β → Hp → Prop} (r : Rel X.K X.mg μ H M) (e : EnvR X.K X.mg fld hx μ H M σ σ')
    (q : Good X.K X.mg fld R μ H M (WE W σ) Q ((fs σ' M).bind k)) :
    LT X fld hx W fs σ H (fun u H₁ => ∃ μ₁ M₁, Step X.K μ H M μ₁ H₁ M₁ ∧ Rel X.K X.mg μ₁ H₁ M₁ ∧ EnvR X.K X.mg fld hx μ₁ H₁ M₁ σ σ' ∧ Good X.K X.mg fld R μ₁ H₁ M₁ (WE W σ) Q (k u M₁)) :=
  ⟨μ, M, σ', r, e, q.bind.mono (fun _ _ ⟨μ₁, M₁, a, s, r', v, eq, g⟩ => ⟨μ₁, M₁, s, r', e.step r s, by rw [v]; exact g⟩) fun _ _ _ z => z⟩

/-- an expression whose reading we know, as a test -/
theorem le_test {e : Expr} (he : PE X e (LE X fld hx W f)) (hp : ∀ whole, isTrue e X.env whole = (do let v ← whole; standAt e.pos; holding [v] (truthy v))) : PT X e (LT X fld hx W (toT f)) := by
  refine PT.weak (pt_val he hp) fun σ H Q ⟨μ, M, σ', r, en, q⟩ => ?_
  obtain ⟨μ1, M1, s1, r1, e1, g1⟩ := LE.bind r en q
  refine ⟨μ1, M1, s1, r1, e1, g1.mono (fun u H2 ⟨μ2, M2, v, s2, r2, e2, rv, _, g2⟩ => ?_) fun _ _ _ z => z⟩
  cases rv with
  | bl b => exact ⟨b, rfl, g2.now r2 rfl⟩
  | _ => exact g2.elim
end

/-! ### values by values -/
section
variable (X : Cx) (fld : Str → Option Str)
/-- two values and what f gives of them -/
def R2L (f : PV → PV → Store → Out PV) : R2 := fun x y H Q => ∃ E μ M a b, Rel X.K X.mg μ H M ∧ Rep X.K μ H M.length x a ∧ Rep X.K μ H M.length y b ∧ Good X.K X.mg fld (RV X.K) μ H M E Q (f a b M)
def R1L (f : PV → Store → Out PV) : V → Hp → VK → Prop := fun x H Q => ∃ E μ M a, Rel X.K X.mg μ H M ∧ Rep X.K μ H M.length x a ∧ Good X.K X.mg fld (RV X.K) μ H M E Q (f a M)
def RsL (f : List PV → Store → Out PV) : List V → Hp → VK → Prop := fun xs H Q => ∃ E μ M as, Rel X.K X.mg μ H M ∧ Reps X.K μ H M.length xs as ∧ Good X.K X.mg fld (RV X.K) μ H M E Q (f as M)
def RmL (f : PV → List PV → Store → Out PV) : V → List V → Hp → VK → Prop := fun x xs H Q => ∃ E μ M a as, Rel X.K X.mg μ H M ∧ Rep X.K μ H M.length x a ∧ Reps X.K μ H M.length xs as ∧ Good X.K X.mg fld (RV X.K) μ H M E Q (f a as M)
end
section
variable {K : PySem.W.Frag} {mg : Str → Option Value} {μ : Mu} {H : Hp} {M : Store} {n : Nat}
theorem Reps.length {us : List V} {xs : List PV} (h : Reps K μ H n us xs) : us.length = xs.length := by
  induction us generalizing xs with
  | nil => cases h; rfl
  | cons u us ih =>
    cases h with
    | cons _ t => rw [List.length_cons, List.length_cons, ih t]
theorem Reps.get {us : List V} {xs : List PV} (h : Reps K μ H n us xs) {i : Nat} {x : PV} (e : xs[i]? = some x) : ∃ u, us[i]? = some u ∧ Rep K μ H n u x := by
  induction us generalizing xs i with
  | nil => cases h; cases e
  | cons u us ih =>
    cases h with
    | cons r t =>
      cases i with
      | zero => cases e; exact ⟨u, rfl, r⟩
      | succ i => exact ih t (by simpa using e)
theorem Reps.getU {us : List V} {xs : List PV} (h : Reps K μ H n us xs) {i : Nat} {u : V} (e : us[i]? = some u) : ∃ x, xs[i]? = some x ∧ Rep K μ H n u x := by
  induction us generalizing xs i with
  | nil => cases e
  | cons w us ih =>
    cases h with
    | cons r t =>
      cases i with
      | zero => cases e; exact ⟨_, rfl, r⟩
      | succ i => obtain ⟨x, e', q⟩ := ih t (i := i) (by simpa using e); exact ⟨x, by simpa using e', q⟩
theorem Reps.append {us ws : List V} {xs ys : List PV} (h : Reps K μ H n us xs) (h' : Reps K μ H n ws ys) : Reps K μ H n (us ++ ws) (xs ++ ys) := by
  induction us generalizing xs with
  | nil => cases h; exact h'
  | cons u us ih =>
    cases h with
    | cons r t => exact .cons r (ih t)
theorem Reps.take {us : List V} {xs : List PV} (h : Reps K μ H n us xs) (k : Nat) : Reps K μ H n (us.take k) (xs.take k) := by
  induction us generalizing xs k with
  | nil => cases h; rw [List.take_nil, List.take_nil]; exact .nil
  | cons u us ih =>
    cases h with
    | cons r t =>
      cases k with
      | zero => exact .nil
      | succ k => exact .cons r (ih t k)
theorem Reps.drop {us : List V} {xs : List PV} (h : Reps K μ H n us xs) (k : Nat) : Reps K μ H n (us.drop k) (xs.drop k) := by
  induction us generalizing xs k with
  | nil => cases h; rw [List.drop_nil, List.drop_nil]; exact .nil
  | cons u us ih =>
    cases h with
    | cons r t =>
      cases k with
      | zero => exact .cons r t
      | succ k => exact ih t k
theorem Reps.set {us : List V} {xs : List PV} (h : Reps K μ H n us xs) (k : Nat) {u : V} {x : PV} (r : Rep K μ H n u x) : Reps K μ H n (us.set k u) (xs.set k x) := by
  induction us generalizing xs k with
  | nil => cases h; exact .nil
  | cons w us ih =>
    cases h with
    | cons q t =>
      cases k with
      | zero => exact .cons r t
      | succ k => exact .cons q (ih t k)
theorem Reps.eraseIdx {us : List V} {xs : List PV} (h : Reps K μ H n us xs) (k : Nat) : Reps K μ H n (us.eraseIdx k) (xs.eraseIdx k) := by
  rw [List.eraseIdx_eq_take_drop_succ, List.eraseIdx_eq_take_drop_succ]
  exact (h.take k).append (h.drop (k + 1))
theorem Reps.reverse {us : List V} {xs : List PV} (h : Reps K μ H n us xs) : Reps K μ H n us.reverse xs.reverse := by
  induction us generalizing xs with
  | nil => cases h; exact .nil
  | cons u us ih =>
    cases h with
    | cons r t =>
      rw [List.reverse_cons, List.reverse_cons]
      exact (ih t).append (.cons r .nil)
theorem Reps.dropLast {us : List V} {xs : List PV} (h : Reps K μ H n us xs) : Reps K μ H n us.dropLast xs.dropLast := by
  rw [List.dropLast_eq_take, List.dropLast_eq_take, h.length]
  exact h.take _
theorem Reps.cut {us : List V} {xs : List PV} (h : Reps K μ H n us xs) (a b : Nat) : Reps K μ H n (cutL us a b) (cutL xs a b) := (h.drop a).take _
theorem Reps.flat_rep {us : List V} {xs : List PV} (h : Reps K μ H n us xs) (k : Nat) : Reps K μ H n (List.replicate k us).flatten (List.replicate k xs).flatten := by
  induction k with
  | zero => exact .nil
  | succ k ih => rw [List.replicate_succ, List.replicate_succ, List.flatten_cons, List.flatten_cons]; exact h.append ih
theorem Reps.atI {us : List V} {xs : List PV} (h : Reps K μ H n us xs) {i : Int} {x : PV} (e : Mini.atI xs i = some x) : ∃ u, L2.atI us i = some u ∧ Rep K μ H n u x := by
  unfold Mini.atI at e
  unfold L2.atI
  rw [h.length]
  cases q : Mini.ixN xs.length i with
  | none => rw [q] at e; cases e
  | some j =>
    rw [q] at e
    obtain ⟨u, e', r⟩ := h.get (i := j) (x := x) e
    have q' : L2.ixN xs.length i = some j := q
    rw [q']
    exact ⟨u, e', r⟩
theorem Reps.ints : ∀ {xs : List PV} {us : List V}, Reps K μ H n us xs → isInts xs = true → us = (xs.map intOf).map V.int
  | [], _, h, _ => by cases h; rfl
  | x :: xs, _, h, e => by
    cases h with
    | cons r t =>
      cases r with
      | int i => rw [List.map_cons, List.map_cons, ← Reps.ints t e]; rfl
      | _ => cases e
theorem Reps.bls : ∀ {xs : List PV} {us : List V}, Reps K μ H n us xs → isBls xs = true → us = (xs.map blOf).map V.bl
  | [], _, h, _ => by cases h; rfl
  | x :: xs, _, h, e => by
    cases h with
    | cons r t =>
      cases r with
      | bl i => rw [List.map_cons, List.map_cons, ← Reps.bls t e]; rfl
      | _ => cases e
theorem Reps.strs : ∀ {xs : List PV} {us : List V}, Reps K μ H n us xs → isStrs xs = true → us = (xs.map strOf).map V.str
  | [], _, h, _ => by cases h; rfl
  | x :: xs, _, h, e => by
    cases h with
    | cons r t =>
      cases r with
      | str i => rw [List.map_cons, List.map_cons, ← Reps.strs t e]; rfl
      | _ => cases e
theorem Reps.ofInts : ∀ (ns : List Int), Reps K μ H n (ns.map V.int) (ns.map PV.int)
  | [] => .nil
  | i :: r => .cons (.int i) (Reps.ofInts r)
/-- what stands at a place -/
theorem Rel.lst {i : Nat} {xs : List PV} (r : Rel K mg μ H M) (h : M[i]? = some (.lst xs)) : ∃ vs, H (μ i) = some (.lst vs) ∧ Reps K μ H M.length vs xs := r.obj i _ h
theorem Rel.seq {i : Nat} {xs : List PV} (r : Rel K mg μ H M) (h : seqL (.loc i) M = some xs) : ∃ vs, SqL K H (μ i) vs ∧ Reps K μ H M.length vs xs ∧ i < M.length := by
  cases e : M[i]? with
  | none =>
    unfold seqL at h
    dsimp only at h
    rw [e] at h; cases h
  | some o =>
    unfold seqL at h
    dsimp only at h
    rw [e] at h
    cases o with
    | lst ys =>
      cases h
      obtain ⟨vs, e1, q⟩ := r.obj i _ e
      exact ⟨vs, .inl (.inl e1), q, Rel.lt e⟩
    | frz ys =>
      cases h
      obtain ⟨ob, vs, e1, q⟩ := r.obj i _ e
      exact ⟨vs, .inl (.inr ⟨ob, e1⟩), q, Rel.lt e⟩
    | dct _ => cases h
    | ins _ _ => cases h
end

section
variable {X : Cx} {fld : Str → Option Str} {hx : Hx} {W : WX} {w : Wld} {a b c : Expr} {ca cb cc : E} {pos : Pos}

/-! ### constants, names -/
theorem le_int {i : Int} {j : Nat} : PE X (.Constant (.int i) j pos) (LE X fld hx W (denE w (.cst (.int i)))) := PE.weak pe_int fun σ H Q ⟨μ, M, σ', r, e, q⟩ => q.now r (.int i)
theorem le_bl {i : Bool} {j : Nat} : PE X (.Constant (.bool i) j pos) (LE X fld hx W (denE w (.cst (.bl i)))) := PE.weak pe_bl fun σ H Q ⟨μ, M, σ', r, e, q⟩ => q.now r (.bl i)
theorem le_non {j : Nat} : PE X (.Constant .none j pos) (LE X fld hx W (denE w (.cst .non))) := PE.weak pe_non fun σ H Q ⟨μ, M, σ', r, e, q⟩ => q.now r .non
theorem le_str {z : Str} {j : Nat} : PE X (.Constant (.str z) j pos) (LE X fld hx W (denE w (.cst (.str z)))) := PE.weak pe_str fun σ H Q ⟨μ, M, σ', r, e, q⟩ => q.now r (.str z)
theorem le_var {i : Nat} {x : Str} (hN : X.N[i]? = some x) (hv : Vis X.env.scope x) (hd : (x == ("__debug__" : Str)) = false) (hcd : (x == ("__classdict__" : Str)) = false) : PE X (.Name x pos) (LE X fld hx W (denE w (.var i))) := by
  refine PE.weak (pe_var hN hv hd hcd) fun σ H Q ⟨μ, M, σ', r, e, q⟩ => ?_
  unfold denE at q
  cases h : σ'[i]? with
  | none => rw [h] at q; exact q.elim
  | some o =>
    rw [h] at q
    cases o with
    | none => exact q.elim
    | some v =>
      obtain ⟨u, e1, s⟩ := e.at_ i v h
      cases v with
      | exn c fs => exact q.elim
      | non => exact ⟨u, e1, q.now r s⟩
      | bl _ => exact ⟨u, e1, q.now r s⟩
      | int _ => exact ⟨u, e1, q.now r s⟩
      | str _ => exact ⟨u, e1, q.now r s⟩
      | tup _ => exact ⟨u, e1, q.now r s⟩
      | loc _ => exact ⟨u, e1, q.now r s⟩
theorem le_glo_int {x : Str} {i : Int} (hg : Gl X x) (hm : ∃ t, X.mg x = some (.int i t)) (hw : w.glo x = some (.int i)) (hd : (x == ("__debug__" : Str)) = false) : PE X (.Name x pos) (LE X fld hx W (denE w (.glo x))) := by
  obtain ⟨t, hm⟩ := hm
  refine PE.weak (pe_glob (v := .int i) hg hm ⟨t, rfl⟩ hd) fun σ H Q ⟨μ, M, σ', r, e, q⟩ => ?_
  unfold denE at q
  rw [hw] at q
  exact q.now r (.int i)
theorem le_glo_str {x z : Str} (hg : Gl X x) (hm : ∃ t, X.mg x = some (.str z t)) (hw : w.glo x = some (.str z)) (hd : (x == ("__debug__" : Str)) = false) : PE X (.Name x pos) (LE X fld hx W (denE w (.glo x))) := by
  obtain ⟨t, hm⟩ := hm
  refine PE.weak (pe_glob (v := .str z) hg hm ⟨t, rfl⟩ hd) fun σ H Q ⟨μ, M, σ', r, e, q⟩ => ?_
  unfold denE at q
  rw [hw] at q
  exact q.now r (.str z)

/-! ### two places -/
/-- a test's reading out of the value's -/
theorem LT.to {f : Env → Store → Out PV} {σ : St} {H : Hp} {Q : Bool → Hp → Prop} (q : LT X fld hx W (toT f) σ H Q) : LE X fld hx W f σ H (fun u H' => ∃ k, u = .bl k ∧ Q k H') := by
  obtain ⟨μ, M, σ', r, en, q⟩ := q
  obtain ⟨μ1, M1, s1, r1, e1, g1⟩ := LE.bind r en q
  refine ⟨μ1, M1, s1, r1, e1, g1.mono (fun u H2 ⟨μ2, M2, v, s2, r2, e2, rv, _, g2⟩ => ?_) fun _ _ _ z => z⟩
  cases rv with
  | bl b => exact ⟨b, rfl, g2.now r2 rfl⟩
  | _ => exact g2.elim
theorem w_two {f g : Env → Store → Out PV} {k : PV → PV → Store → Out PV} {σ : St} {H : Hp} {Q : VK} (q : LE X fld hx W (fun σ M => (f σ M).bind fun x M => (g σ M).bind fun y M => k x y M) σ H Q) :
    tOp (R2L X fld k) (LE X fld hx W f) (LE X fld hx W g) σ H Q := by
  obtain ⟨μ, M, σ', r, e, q⟩ := q
  obtain ⟨μ1, M1, τ, r1, e1, g1⟩ := LE.bind r e q
  refine ⟨μ1, M1, τ, r1, e1, g1.mono (fun u H2 ⟨μ2, M2, v, s2, r2, e2, rv, _, g2⟩ => ?_) fun _ _ _ z => z⟩
  obtain ⟨μ3, M3, τ3, r3, e3, g3⟩ := LE.bind r2 e2 g2
  refine ⟨μ3, M3, τ3, r3, e3, g3.mono (fun u' H4 ⟨μ4, M4, v', s4, r4, e4, rv', _, g4⟩ => ?_) fun _ _ _ z => z⟩
  exact ⟨_, μ4, M4, v, v', r4, rv.step s4, rv', g4⟩
theorem le_op {op : Operator} {o : Bop} (ho : OpR X (binaryOp op) (R2L X fld (bopV o))) (ha : PE X a (LE X fld hx W (denE w ca))) (hb : PE X b (LE X fld hx W (denE w cb))) : PE X (.BinOp a op b pos) (LE X fld hx W (denE w (.bin o ca cb))) := by
  refine PE.weak (pe_op ho ha hb) fun σ H Q ⟨μ, M, σ', r, e, q⟩ => ?_
  unfold denE at q
  exact w_two ⟨μ, M, σ', r, e, q⟩
theorem w_cmp {o : Cop} {σ : St} {H : Hp} {Q : VK} (q : LE X fld hx W (denE w (.cmp o ca cb)) σ H Q) : tOp (R2L X fld (copV o)) (LE X fld hx W (denE w ca)) (LE X fld hx W (denE w cb)) σ H Q := by
  obtain ⟨μ, M, σ', r, e, q⟩ := q
  unfold denE at q
  exact w_two ⟨μ, M, σ', r, e, q⟩
theorem le_cmp {op : CmpOp} {o : Cop} (ho : OpR X (compareOp op) (R2L X fld (copV o))) (ha : PE X a (LE X fld hx W (denE w ca))) (hb : PE X b (LE X fld hx W (denE w cb))) (hm : behindInMarks op b = false) : PE X (.Compare a [op] [b] pos) (LE X fld hx W (denE w (.cmp o ca cb))) :=
  PE.weak (pe_cmpR ho ha hb hm) fun σ H Q q => w_cmp q
theorem lt_cmp {op : CmpOp} {o : Cop} (ho : OpR X (compareOp op) (R2L X fld (copV o))) (ha : PE X a (LE X fld hx W (denE w ca))) (hb : PE X b (LE X fld hx W (denE w cb))) (hm : behindInMarks op b = false) : PT X (.Compare a [op] [b] pos) (LT X fld hx W (toT (denE w (.cmp o ca cb)))) :=
  PT.weak (pt_cmpR ho ha hb hm) fun σ H Q q => w_cmp q.to
theorem w_chn {o₁ o₂ : Cop} {σ : St} {H : Hp} {Q : VK} (q : LE X fld hx W (denE w (.chn o₁ o₂ ca cb cc)) σ H Q) :
    tChain (R2L X fld (copV o₁)) (R2L X fld (copV o₂)) (LE X fld hx W (denE w ca)) (LE X fld hx W (denE w cb)) (LE X fld hx W (denE w cc)) σ H Q := by
  obtain ⟨μ, M, σ', r, e, q⟩ := q
  unfold denE at q
  obtain ⟨μ1, M1, τ, r1, e1, g1⟩ := LE.bind r e q
  refine ⟨μ1, M1, τ, r1, e1, g1.mono (fun u H2 ⟨μ2, M2, v, s2, r2, e2, rv, _, g2⟩ => ?_) fun _ _ _ z => z⟩
  obtain ⟨μ3, M3, τ3, r3, e3, g3⟩ := LE.bind r2 e2 g2
  refine ⟨μ3, M3, τ3, r3, e3, g3.mono (fun u' H4 ⟨μ4, M4, v', s4, r4, e4, rv', _, g4⟩ => ?_) fun _ _ _ z => z⟩
  have g5 := Good.bind (R := RV X.K) g4
  refine ⟨_, μ4, M4, v, v', r4, rv.step s4, rv', g5.mono (fun z H5 ⟨μ5, M5, t, s5, r5, rt, _, g6⟩ => ?_) fun _ _ _ z => z⟩
  cases rt with
  | bl k =>
    refine ⟨k, rfl, ?_⟩
    cases k with
    | true =>
      refine iteT ?_
      obtain ⟨μ7, M7, τ7, r7, e7, g7⟩ := LE.bind r5 (e4.step r4 s5) g6
      refine ⟨μ7, M7, τ7, r7, e7, g7.mono (fun u'' H8 ⟨μ8, M8, v'', s8, r8, e8, rv'', _, g8⟩ => ?_) fun _ _ _ z => z⟩
      exact ⟨_, μ8, M8, v', v'', r8, (rv'.step s5).step s8, rv'', g8⟩
    | false => exact iteF (g6.now r5 (.bl false))
  | _ => exact g6.elim
theorem le_chn {op op' : CmpOp} {o o' : Cop} (ho : OpR X (compareOp op) (R2L X fld (copV o))) (ho' : OpR X (compareOp op') (R2L X fld (copV o'))) (ha : PE X a (LE X fld hx W (denE w ca))) (hb : PE X b (LE X fld hx W (denE w cb))) (hc : PE X c (LE X fld hx W (denE w cc)))
    (hm : lastMarks [op, op'] [b, c] = false) : PE X (.Compare a [op, op'] [b, c] pos) (LE X fld hx W (denE w (.chn o o' ca cb cc))) :=
  PE.weak (pe_chain ho ho' ha hb hc hm) fun σ H Q q => w_chn q
theorem lt_chn {op op' : CmpOp} {o o' : Cop} (ho : OpR X (compareOp op) (R2L X fld (copV o))) (ho' : OpR X (compareOp op') (R2L X fld (copV o'))) (ha : PE X a (LE X fld hx W (denE w ca))) (hb : PE X b (LE X fld hx W (denE w cb))) (hc : PE X c (LE X fld hx W (denE w cc)))
    (hm : lastMarks [op, op'] [b, c] = false) : PT X (.Compare a [op, op'] [b, c] pos) (LT X fld hx W (toT (denE w (.chn o o' ca cb cc)))) :=
  PT.weak (pt_chain ho ho' ha hb hc hm) fun σ H Q q => w_chn q.to

/-! ### not, and, or, if else -/
theorem le_neg (ha : PE X a (LE X fld hx W (denE w ca))) : PE X (.UnaryOp .USub a pos) (LE X fld hx W (denE w (.neg ca))) := by
  refine PE.weak (pe_un un_neg ha) fun σ H Q ⟨μ, M, σ', r, e, q⟩ => ?_
  unfold denE at q
  obtain ⟨μ1, M1, τ, r1, e1, g1⟩ := LE.bind r e q
  refine ⟨μ1, M1, τ, r1, e1, g1.mono (fun u H2 ⟨μ2, M2, v, s2, r2, e2, rv, _, g2⟩ => ?_) fun _ _ _ z => z⟩
  cases rv with
  | int i => exact ⟨i, rfl, g2.now r2 (.int _)⟩
  | _ => exact g2.elim
theorem le_not (ha : PE X a (LE X fld hx W (denE w ca))) : PE X (.UnaryOp .Not a pos) (LE X fld hx W (denE w (.not ca))) := by
  refine PE.weak (pe_not ha) fun σ H Q ⟨μ, M, σ', r, e, q⟩ => ?_
  unfold denE at q
  obtain ⟨μ1, M1, τ, r1, e1, g1⟩ := LE.bind r e q
  refine ⟨μ1, M1, τ, r1, e1, g1.mono (fun u H2 ⟨μ2, M2, v, s2, r2, e2, rv, _, g2⟩ => ?_) fun _ _ _ z => z⟩
  cases rv with
  | bl k => exact ⟨k, rfl, g2.now r2 (.bl _)⟩
  | _ => exact g2.elim
/-- a test on its way -/
theorem Good.toT {α β : Type} {R : Mu → Hp → Store → β → α → Prop} {f : Env → Store → Out PV} {σ' : Env} {H : Hp} {μ : Mu} {M : Store} {k : Bool → Store → Out α} {k' : PV → Store → Out α} {Q : β → Hp → Prop} {E : XK}
    (h1 : ∀ b M, k' (.bl b) M = k b M) (h2 : ∀ v M, blV v = none → k' v M = .fail)
    (q : Good X.K X.mg fld R μ H M E Q ((f σ' M).bind k')) : Good X.K X.mg fld R μ H M E Q ((Mini.toT f σ' M).bind k) := by
  unfold Mini.toT
  cases e : f σ' M with
  | fail => rw [e] at q; exact q
  | exc c fs M' => rw [e] at q; exact q
  | ok v M' =>
    rw [e] at q
    have q : Good X.K X.mg fld R μ H M E Q (k' v M') := q
    cases hb : blV v with
    | none => rw [h2 v M' hb] at q; exact q.elim
    | some b =>
      cases v with
      | bl b' =>
        cases hb
        rw [h1] at q
        exact q
      | _ => cases hb
theorem w_if {α β : Type} {R : Mu → Hp → Store → β → α → Prop} {f : Env → Store → Out PV} {σ : St} {H : Hp} {μ : Mu} {M : Store} {σ' : Env} {k' : PV → Store → Out α} {Q : β → Hp → Prop} (r : Rel X.K X.mg μ H M) (e : EnvR X.K X.mg fld hx μ H M σ σ')
    (h2 : ∀ v M, blV v = none → k' v M = .fail) (q : Good X.K X.mg fld R μ H M (WE W σ) Q ((f σ' M).bind k')) :
    LT X fld hx W (toT f) σ H (fun b H₁ => ∃ μ₁ M₁, Step X.K μ H M μ₁ H₁ M₁ ∧ Rel X.K X.mg μ₁ H₁ M₁ ∧ EnvR X.K X.mg fld hx μ₁ H₁ M₁ σ σ' ∧ Good X.K X.mg fld R μ₁ H₁ M₁ (WE W σ) Q (k' (.bl b) M₁)) :=
  LT.bind r e (Good.toT (k := fun b M => k' (.bl b) M) (fun _ _ => rfl) h2 q)
theorem lt_not (ha : PT X a (LT X fld hx W (toT (denE w ca)))) : PT X (.UnaryOp .Not a pos) (LT X fld hx W (toT (denE w (.not ca)))) := by
  refine PT.weak (pt_not ha) fun σ H Q ⟨μ, M, σ', r, e, q⟩ => ?_
  have q' : Good X.K X.mg fld RB μ H M (WE W σ) Q ((denE w ca σ' M).bind fun x M => (match x with
    | .bl b => .ok (!b) M
    | _ => .fail)) := by
    unfold toT denE at q
    cases h : denE w ca σ' M with
    | fail => rw [h] at q; exact q
    | exc c fs M' => rw [h] at q; exact q
    | ok v M' => rw [h] at q; cases v <;> exact q
  obtain ⟨μ1, M1, τ, r1, e1, g1⟩ := w_if r e (fun v M h => by cases v <;> first | rfl | cases h) q'
  exact ⟨μ1, M1, τ, r1, e1, g1.mono (fun b H2 ⟨μ2, M2, s2, r2, e2, g2⟩ => g2.now r2 rfl) fun _ _ _ z => z⟩
theorem w_and {σ : St} {H : Hp} {Q : Bool → Hp → Prop} (q : LT X fld hx W (toT (denE w (.and ca cb))) σ H Q) : tAnd (LT X fld hx W (toT (denE w ca))) (LT X fld hx W (toT (denE w cb))) σ H Q := by
  obtain ⟨μ, M, σ', r, e, q⟩ := q
  have q' : Good X.K X.mg fld RB μ H M (WE W σ) Q ((denE w ca σ' M).bind fun x M => (match x with
    | .bl true => toT (denE w cb) σ' M
    | .bl false => .ok false M
    | _ => .fail)) := by
    unfold toT denE at q
    cases h : denE w ca σ' M with
    | fail => rw [h] at q; exact q
    | exc c fs M' => rw [h] at q; exact q
    | ok v M' =>
      rw [h] at q
      cases v with
      | bl b => cases b <;> exact q
      | _ => exact q
  obtain ⟨μ1, M1, τ, r1, e1, g1⟩ := w_if r e (fun v M h => by cases v <;> first | rfl | cases h) q'
  refine ⟨μ1, M1, τ, r1, e1, g1.mono (fun b H2 ⟨μ2, M2, s2, r2, e2, g2⟩ => ?_) fun _ _ _ z => z⟩
  cases b with
  | true => exact iteT ⟨μ2, M2, σ', r2, e2, g2⟩
  | false => exact iteF (g2.now r2 rfl)
theorem w_or {σ : St} {H : Hp} {Q : Bool → Hp → Prop} (q : LT X fld hx W (toT (denE w (.or ca cb))) σ H Q) : tOr (LT X fld hx W (toT (denE w ca))) (LT X fld hx W (toT (denE w cb))) σ H Q := by
  obtain ⟨μ, M, σ', r, e, q⟩ := q
  have q' : Good X.K X.mg fld RB μ H M (WE W σ) Q ((denE w ca σ' M).bind fun x M => (match x with
    | .bl true => .ok true M
    | .bl false => toT (denE w cb) σ' M
    | _ => .fail)) := by
    unfold toT denE at q
    cases h : denE w ca σ' M with
    | fail => rw [h] at q; exact q
    | exc c fs M' => rw [h] at q; exact q
    | ok v M' =>
      rw [h] at q
      cases v with
      | bl b => cases b <;> exact q
      | _ => exact q
  obtain ⟨μ1, M1, τ, r1, e1, g1⟩ := w_if r e (fun v M h => by cases v <;> first | rfl | cases h) q'
  refine ⟨μ1, M1, τ, r1, e1, g1.mono (fun b H2 ⟨μ2, M2, s2, r2, e2, g2⟩ => ?_) fun _ _ _ z => z⟩
  cases b with
  | false => exact iteF ⟨μ2, M2, σ', r2, e2, g2⟩
  | true => exact iteT (g2.now r2 rfl)
theorem w_andV {σ : St} {H : Hp} {Q : VK} (q : LE X fld hx W (denE w (.and ca cb)) σ H Q) : tAndV (LE X fld hx W (denE w ca)) (LE X fld hx W (denE w cb)) σ H Q := by
  obtain ⟨μ, M, σ', r, e, q⟩ := q
  unfold denE at q
  obtain ⟨μ1, M1, τ, r1, e1, g1⟩ := LE.bind r e q
  refine ⟨μ1, M1, τ, r1, e1, g1.mono (fun u H2 ⟨μ2, M2, v, s2, r2, e2, rv, _, g2⟩ => ?_) fun _ _ _ z => z⟩
  cases rv with
  | bl b =>
    refine ⟨b, rfl, ?_⟩
    cases b with
    | true => exact iteT ⟨μ2, M2, σ', r2, e2, g2⟩
    | false => exact iteF (g2.now r2 (.bl false))
  | _ => exact g2.elim
theorem w_orV {σ : St} {H : Hp} {Q : VK} (q : LE X fld hx W (denE w (.or ca cb)) σ H Q) : tOrV (LE X fld hx W (denE w ca)) (LE X fld hx W (denE w cb)) σ H Q := by
  obtain ⟨μ, M, σ', r, e, q⟩ := q
  unfold denE at q
  obtain ⟨μ1, M1, τ, r1, e1, g1⟩ := LE.bind r e q
  refine ⟨μ1, M1, τ, r1, e1, g1.mono (fun u H2 ⟨μ2, M2, v, s2, r2, e2, rv, _, g2⟩ => ?_) fun _ _ _ z => z⟩
  cases rv with
  | bl b =>
    refine ⟨b, rfl, ?_⟩
    cases b with
    | false => exact iteF ⟨μ2, M2, σ', r2, e2, g2⟩
    | true => exact iteT (g2.now r2 (.bl true))
  | _ => exact g2.elim
theorem le_ife (hc : PT X c (LT X fld hx W (toT (denE w cc)))) (ha : PE X a (LE X fld hx W (denE w ca))) (hb : PE X b (LE X fld hx W (denE w cb))) : PE X (.IfExp c a b pos) (LE X fld hx W (denE w (.ife cc ca cb))) := by
  refine PE.weak (pe_ifExp hc ha hb) fun σ H Q ⟨μ, M, σ', r, e, q⟩ => ?_
  unfold denE at q
  obtain ⟨μ1, M1, τ, r1, e1, g1⟩ := w_if r e (fun v M h => by cases v <;> first | rfl | cases h) q
  refine ⟨μ1, M1, τ, r1, e1, g1.mono (fun b H2 ⟨μ2, M2, s2, r2, e2, g2⟩ => ?_) fun _ _ _ z => z⟩
  cases b with
  | true => exact iteT ⟨μ2, M2, σ', r2, e2, g2⟩
  | false => exact iteF ⟨μ2, M2, σ', r2, e2, g2⟩

/-! ### lists of expressions, displays -/
theorem la_nil : PA X [] (LA X fld hx W (denEs w .nil)) := PA.weak pa_nil fun σ H Q ⟨μ, M, σ', r, e, q⟩ => q.now r .nil
theorem la_cons {es : List Expr} {ces : Es} (ha : PE X a (LE X fld hx W (denE w ca))) (hr : PA X es (LA X fld hx W (denEs w ces))) (hs : starEach (a :: es) X.env = (false, eval a X.env) :: starEach es X.env) :
    PA X (a :: es) (LA X fld hx W (denEs w (.cons ca ces))) := by
  refine PA.weak (pa_cons ha hr hs) fun σ H Q ⟨μ, M, σ', r, e, q⟩ => ?_
  unfold denEs at q
  obtain ⟨μ1, M1, τ, r1, e1, g1⟩ := LE.bind r e q
  refine ⟨μ1, M1, τ, r1, e1, g1.mono (fun u H2 ⟨μ2, M2, v, s2, r2, e2, rv, _, g2⟩ => ?_) fun _ _ _ z => z⟩
  obtain ⟨μ3, M3, τ3, r3, e3, g3⟩ := LA.bind r2 e2 g2
  refine ⟨μ3, M3, τ3, r3, e3, g3.mono (fun us H4 ⟨μ4, M4, vs, s4, r4, e4, rvs, _, g4⟩ => ?_) fun _ _ _ z => z⟩
  exact g4.now r4 (.cons (rv.step s4) rvs)
def Es.len : Es → Nat
  | .nil => 0
  | .cons _ es => es.len + 1
theorem denEs_len : ∀ {es : Es} {σ : Env} {M M' : Store} {vs : List PV}, denEs w es σ M = .ok vs M' → vs.length = es.len
  | .nil, _, _, _, _, h => by unfold denEs at h; cases h; rfl
  | .cons e es, σ, M, M', vs, h => by
    unfold denEs at h
    cases h1 : denE w e σ M with
    | fail => rw [h1] at h; cases h
    | exc c fs M' => rw [h1] at h; cases h
    | ok v M1 =>
      rw [h1] at h
      cases h2 : denEs w es σ M1 with
      | fail => simp only [Out.bind, h2] at h; cases h
      | exc c fs M' => simp only [Out.bind, h2] at h; cases h
      | ok vs' M2 =>
        simp only [Out.bind, h2] at h
        cases h
        show vs'.length + 1 = _
        rw [denEs_len h2]
        rfl
theorem cap_eq : cap = sizeLine := sizeLine_eq.symm
theorem le_tup {es : List Expr} {ces : Es} {k : Nat} (h : PA X es (LA X fld hx W (denEs w ces))) (hl : ces.len ≤ 1000) : PE X (.Tuple es k pos) (LE X fld hx W (denE w (.tup ces))) := by
  refine PE.weak (pe_tup h) fun σ H Q ⟨μ, M, σ', r, e, q⟩ => ?_
  unfold denE at q
  obtain ⟨μ1, M1, τ, r1, e1, g1⟩ := LA.bind r e q
  refine ⟨μ1, M1, τ, r1, e1, g1.mono (fun us H2 ⟨μ2, M2, vs, s2, r2, e2, rvs, eq, g2⟩ => ?_) fun _ _ _ z => z⟩
  refine ⟨?_, fun p hp => g2.tup r2 hp rvs⟩
  have z := denEs_len eq
  rw [rvs.length, z]
  exact Nat.le_of_lt (small1000 hl)
theorem le_lst {es : List Expr} {ces : Es} (h : PA X es (LA X fld hx W (denEs w ces))) (hl : ces.len ≤ 1000) : PE X (.List es pos) (LE X fld hx W (denE w (.lst ces))) := by
  refine PE.weak (pe_lst h) fun σ H Q ⟨μ, M, σ', r, e, q⟩ => ?_
  unfold denE at q
  obtain ⟨μ1, M1, τ, r1, e1, g1⟩ := LA.bind r e q
  refine ⟨μ1, M1, τ, r1, e1, g1.mono (fun us H2 ⟨μ2, M2, vs, s2, r2, e2, rvs, eq, g2⟩ => ?_) fun _ _ _ z => z⟩
  refine ⟨?_, fun p hp => g2.layL r2 hp rvs⟩
  have z := denEs_len eq
  rw [rvs.length, z]
  exact Nat.le_of_lt (small1000 hl)
end
end Mini

set_option autoImplicit false
set_option linter.all false
set_option maxRecDepth 100000
/-! Mini4: operators, comparisons, subscripts, built-ins and methods of built-ins, by values. -/
namespace Mini
open PySem PySem.Spec L2
open PyProof.Rows hiding St
section
variable {X : Cx} {fld : Str → Option Str}

/-! ### arithmetic -/
theorem or_add : OpR X (binaryOp .Add) (R2L X fld (bopV .add)) := by
  rintro pins s σ H x y v u Q I rx ry ⟨E, μ, M, a, b, r, ha, hb, g⟩
  cases ha with
  | int i =>
    cases hb with
    | int j => exact op_add pins s σ H _ _ v u Q I rx ry ⟨i, j, rfl, rfl, g.now r (.int _)⟩
    | _ => exact g.elim
  | str x =>
    cases hb with
    | str y =>
      have g : Good X.K X.mg fld (RV X.K) μ H M E Q (if x.length + y.length ≤ cap then .ok (.str (x ++ y)) M else .fail) := g
      by_cases c : x.length + y.length ≤ cap
      · rw [if_pos c] at g
        exact op_add_str pins s σ H _ _ v u Q I rx ry ⟨x, y, rfl, rfl, by rw [← cap_eq]; exact c, g.now r (.str _)⟩
      · rw [if_neg c] at g; exact g.elim
    | _ => exact g.elim
  | @tup p vs xs h1 q1 =>
    cases hb with
    | @tup p' vs' ys h2 q2 =>
      have g : Good X.K X.mg fld (RV X.K) μ H M E Q (if xs.length + ys.length ≤ cap then .ok (.tup (xs ++ ys)) M else .fail) := g
      by_cases c : xs.length + ys.length ≤ cap
      · rw [if_pos c] at g
        refine op_catA pins s σ H _ _ v u Q I rx ry ⟨p, p', vs, vs', rfl, rfl, h1, h2, ?_, fun e => ?_, fun e e' => ?_, fun e e' q hq => g.tup r hq (q1.append q2)⟩
        · rw [q1.length, q2.length, ← cap_eq]; exact c
        · subst e
          cases q1
          exact g.now r (.tup h2 q2)
        · subst e'
          cases q2
          rw [List.append_nil] at g
          exact g.now r (.tup h1 q1)
      · rw [if_neg c] at g; exact g.elim
    | _ => exact g.elim
  | @loc i h1 =>
    cases hb with
    | @loc j h2 =>
      have g : Good X.K X.mg fld (RV X.K) μ H M E Q (match M[i]?, M[j]? with
        | some (.lst x), some (.lst y) => if x.length + y.length ≤ cap then .ok (.loc M.length) (M ++ [.lst (x ++ y)]) else .fail
        | _, _ => .fail) := g
      cases e1 : M[i]? with
      | none => rw [e1] at g; exact g.elim
      | some o1 =>
        cases e2 : M[j]? with
        | none => rw [e1, e2] at g; cases o1 <;> exact g.elim
        | some o2 =>
          rw [e1, e2] at g
          cases o1 with
          | lst xs =>
            cases o2 with
            | lst ys =>
              dsimp only at g
              by_cases c : xs.length + ys.length ≤ cap
              · rw [if_pos c] at g
                obtain ⟨vs, z1, q1⟩ := r.lst e1
                obtain ⟨vs', z2, q2⟩ := r.lst e2
                refine op_cat pins s σ H _ _ v u Q I rx ry ⟨_, _, vs, vs', rfl, rfl, z1, z2, ?_, fun p hp => g.layL r hp (q1.append q2)⟩
                rw [q1.length, q2.length, ← cap_eq]; exact c
              · rw [if_neg c] at g; exact g.elim
            | _ => exact g.elim
          | _ => cases o2 <;> exact g.elim
    | _ => exact g.elim
  | _ => cases hb <;> exact g.elim
theorem or_sub : OpR X (binaryOp .Sub) (R2L X fld (bopV .sub)) := by
  rintro pins s σ H x y v u Q I rx ry ⟨E, μ, M, a, b, r, ha, hb, g⟩
  cases ha with
  | int i =>
    cases hb with
    | int j => exact op_sub pins s σ H _ _ v u Q I rx ry ⟨i, j, rfl, rfl, g.now r (.int _)⟩
    | _ => exact g.elim
  | _ => cases hb <;> exact g.elim
theorem big_of {i : Int} (h : i.natAbs < big) : -(2 ^ 64) < i ∧ i < 2 ^ 64 := by
  unfold big at h
  omega
theorem or_mul : OpR X (binaryOp .Mult) (R2L X fld (bopV .mul)) := by
  rintro pins s σ H x y v u Q I rx ry ⟨E, μ, M, a, b, r, ha, hb, g⟩
  cases ha with
  | int i =>
    cases hb with
    | int j =>
      have g : Good X.K X.mg fld (RV X.K) μ H M E Q (if i.natAbs < big ∨ j.natAbs < big then .ok (.int (i * j)) M else .fail) := g
      by_cases c : i.natAbs < big ∨ j.natAbs < big
      · rw [if_pos c] at g
        exact op_mul pins s σ H _ _ v u Q I rx ry ⟨i, j, rfl, rfl, c.elim (fun h => .inl (big_of h)) (fun h => .inr (big_of h)), g.now r (.int _)⟩
      · rw [if_neg c] at g; exact g.elim
    | _ => exact g.elim
  | @tup p vs xs h1 q1 =>
    cases hb with
    | int j =>
      have g : Good X.K X.mg fld (RV X.K) μ H M E Q (if xs ≠ [] ∧ xs.length ≤ 1000 ∧ 2 ≤ j ∧ j ≤ 1000 then .ok (.tup (List.replicate j.toNat xs).flatten) M else .fail) := g
      by_cases c : xs ≠ [] ∧ xs.length ≤ 1000 ∧ 2 ≤ j ∧ j ≤ 1000
      · rw [if_pos c] at g
        refine op_repT pins s σ H _ _ v u Q I rx ry ⟨p, j, vs, rfl, rfl, h1, fun e => ?_, c.2.2.1, c.2.2.2, by rw [q1.length]; exact c.2.1, fun q hq => g.tup r hq (q1.flat_rep _)⟩
        subst e
        cases q1
        exact c.1 rfl
      · rw [if_neg c] at g; exact g.elim
    | _ => exact g.elim
  | @loc i h1 =>
    cases hb with
    | int j =>
      have g : Good X.K X.mg fld (RV X.K) μ H M E Q (match M[i]? with
        | some (.lst x) => if x.length * j.toNat ≤ cap ∧ j.natAbs < 1000000 then .ok (.loc M.length) (M ++ [.lst (List.replicate j.toNat x).flatten]) else .fail
        | _ => .fail) := g
      cases e1 : M[i]? with
      | none => rw [e1] at g; exact g.elim
      | some o1 =>
        rw [e1] at g
        cases o1 with
        | lst xs =>
          dsimp only at g
          by_cases c : xs.length * j.toNat ≤ cap ∧ j.natAbs < 1000000
          · rw [if_pos c] at g
            obtain ⟨vs, z1, q1⟩ := r.lst e1
            exact op_rep pins s σ H _ _ v u Q I rx ry ⟨_, j, vs, rfl, rfl, z1, by omega, by omega, by rw [q1.length, ← cap_eq]; exact c.1, fun p hp => g.layL r hp (q1.flat_rep _)⟩
          · rw [if_neg c] at g; exact g.elim
        | _ => exact g.elim
    | _ => exact g.elim
  | _ => cases hb <;> exact g.elim
theorem or_fdiv : OpR X (binaryOp .FloorDiv) (R2L X fld (bopV .fdiv)) := by
  rintro pins s σ H x y v u Q I rx ry ⟨E, μ, M, a, b, r, ha, hb, g⟩
  cases ha with
  | int i =>
    cases hb with
    | int j =>
      have g : Good X.K X.mg fld (RV X.K) μ H M E Q (if 0 < j ∧ j < 1073741824 then .ok (.int (i / j)) M else .fail) := g
      by_cases c : 0 < j ∧ j < 1073741824
      · rw [if_pos c] at g
        exact op_fdiv pins s σ H _ _ v u Q I rx ry ⟨i, j, rfl, rfl, c, g.now r (.int _)⟩
      · rw [if_neg c] at g; exact g.elim
    | _ => exact g.elim
  | _ => cases hb <;> exact g.elim
theorem or_mod : OpR X (binaryOp .Mod) (R2L X fld (bopV .mod)) := by
  rintro pins s σ H x y v u Q I rx ry ⟨E, μ, M, a, b, r, ha, hb, g⟩
  cases ha with
  | int i =>
    cases hb with
    | int j =>
      have g : Good X.K X.mg fld (RV X.K) μ H M E Q (if 0 < j then .ok (.int (i % j)) M else .fail) := g
      by_cases c : 0 < j
      · rw [if_pos c] at g
        exact op_mod pins s σ H _ _ v u Q I rx ry ⟨i, j, rfl, rfl, c, g.now r (.int _)⟩
      · rw [if_neg c] at g; exact g.elim
    | _ => exact g.elim
  | _ => cases hb <;> exact g.elim
theorem or_pow : OpR X (binaryOp .Pow) (R2L X fld (bopV .pow)) := by
  rintro pins s σ H x y v u Q I rx ry ⟨E, μ, M, a, b, r, ha, hb, g⟩
  cases ha with
  | int i =>
    cases hb with
    | int j =>
      have g : Good X.K X.mg fld (RV X.K) μ H M E Q (if 0 ≤ j ∧ j ≤ 1000 ∧ i.natAbs < big then .ok (.int (i ^ j.toNat)) M else .fail) := g
      by_cases c : 0 ≤ j ∧ j ≤ 1000 ∧ i.natAbs < big
      · rw [if_pos c] at g
        exact op_pow pins s σ H _ _ v u Q I rx ry ⟨i, j, rfl, rfl, ⟨c.1, by omega, c.2.2⟩, g.now r (.int _)⟩
      · rw [if_neg c] at g; exact g.elim
    | _ => exact g.elim
  | _ => cases hb <;> exact g.elim

/-! ### order of ints, is -/
theorem or_ord {op : CmpOp} {o : Cop} {p : Int → Int → Bool} (rule : OpR X (compareOp op) (rI0 fun i j => .bl (p i j))) (hi : ∀ i j M, copV o (.int i) (.int j) M = .ok (.bl (p i j)) M)
    (hn : ∀ x y M, (∀ i j, ¬ (x = .int i ∧ y = .int j)) → copV o x y M = .fail) : OpR X (compareOp op) (R2L X fld (copV o)) := by
  rintro pins s σ H x y v u Q I rx ry ⟨E, μ, M, a, b, r, ha, hb, g⟩
  by_cases c : ∃ i j, a = .int i ∧ b = .int j
  · obtain ⟨i, j, rfl, rfl⟩ := c
    cases ha
    cases hb
    rw [hi] at g
    exact rule pins s σ H _ _ v u Q I rx ry ⟨i, j, rfl, rfl, g.now r (.bl _)⟩
  · rw [hn a b M fun i j h => c ⟨i, j, h⟩] at g
    exact g.elim
theorem or_lt : OpR X (compareOp .Lt) (R2L X fld (copV .lt)) := or_ord op_lt (fun _ _ _ => rfl) fun x y M h => by
  cases x <;> cases y <;> first | rfl | exact absurd ⟨rfl, rfl⟩ (h _ _)
theorem or_le : OpR X (compareOp .LtE) (R2L X fld (copV .le)) := or_ord op_le (fun _ _ _ => rfl) fun x y M h => by
  cases x <;> cases y <;> first | rfl | exact absurd ⟨rfl, rfl⟩ (h _ _)
theorem or_gt : OpR X (compareOp .Gt) (R2L X fld (copV .gt)) := or_ord op_gt (fun _ _ _ => rfl) fun x y M h => by
  cases x <;> cases y <;> first | rfl | exact absurd ⟨rfl, rfl⟩ (h _ _)
theorem or_ge : OpR X (compareOp .GtE) (R2L X fld (copV .ge)) := or_ord op_ge (fun _ _ _ => rfl) fun x y M h => by
  cases x <;> cases y <;> first | rfl | exact absurd ⟨rfl, rfl⟩ (h _ _)
theorem Rep.non_iff {K : PySem.W.Frag} {μ : Mu} {H : Hp} {n : Nat} {u : V} {x : PV} (h : Rep K μ H n u x) : decide (u = V.non) = decide (x = PV.non) := by
  cases h <;> first | rfl | exact (decide_eq_false (fun z => nomatch z)).trans (decide_eq_false (fun z => nomatch z)).symm
theorem or_is : OpR X (compareOp .Is) (R2L X fld (copV .is)) := by
  rintro pins s σ H x y v u Q I rx ry ⟨E, μ, M, a, b, r, ha, hb, g⟩
  cases hb with
  | non =>
    have g : Good X.K X.mg fld (RV X.K) μ H M E Q (.ok (.bl (decide (a = .non))) M) := by
      cases a <;> exact g
    refine op_isN pins s σ H _ _ v u Q I rx ry ⟨rfl, ?_⟩
    rw [ha.non_iff]
    exact g.now r (.bl _)
  | bl k =>
    cases ha with
    | bl j => exact op_isBl pins s σ H _ _ v u Q I rx ry ⟨j, k, rfl, rfl, g.now r (by show Rep _ _ _ _ (.bl (decide (j = k))) (.bl (j == k)); cases j <;> cases k <;> exact .bl _)⟩
    | _ => exact g.elim
  | _ => cases ha <;> exact g.elim
theorem or_isnt : OpR X (compareOp .IsNot) (R2L X fld (copV .isnt)) := by
  rintro pins s σ H x y v u Q I rx ry ⟨E, μ, M, a, b, r, ha, hb, g⟩
  cases hb with
  | non =>
    have g : Good X.K X.mg fld (RV X.K) μ H M E Q (.ok (.bl (!decide (a = .non))) M) := by
      cases a <;> exact g
    refine op_notN pins s σ H _ _ v u Q I rx ry ⟨rfl, ?_⟩
    rw [ha.non_iff]
    exact g.now r (.bl _)
  | bl k =>
    cases ha with
    | bl j => exact op_notBl pins s σ H _ _ v u Q I rx ry ⟨j, k, rfl, rfl, g.now r (by show Rep _ _ _ _ (.bl (!decide (j = k))) (.bl (!(j == k))); cases j <;> cases k <;> exact .bl _)⟩
    | _ => exact g.elim
  | _ => cases ha <;> exact g.elim
end

/-! ### == , in -/
mutual
def DV.py : DV → PyData
  | .non => .none
  | .bl b => .bool b
  | .int i => .int i
  | .str z => .str z
  | .tup xs => .tuple (DV.pys xs)
  | .lst xs => .list (DV.pys xs)
def DV.pys : List DV → List PyData
  | [] => []
  | x :: xs => DV.py x :: DV.pys xs
end
mutual
theorem DV.eqv_py : ∀ x y : DV, PyData.eqv x.py y.py = DV.eqv x y
  | .non, y => by cases y <;> simp [DV.py, PyData.eqv, DV.eqv]
  | .bl _, y => by cases y <;> simp [DV.py, PyData.eqv, DV.eqv]
  | .int _, y => by cases y <;> simp [DV.py, PyData.eqv, DV.eqv]
  | .str _, y => by cases y <;> simp [DV.py, PyData.eqv, DV.eqv]
  | .tup xs, y => by
    cases y with
    | tup ys => simp [DV.py, PyData.eqv, DV.eqv, DV.eqvs_py xs ys]
    | _ => simp [DV.py, PyData.eqv, DV.eqv]
  | .lst xs, y => by
    cases y with
    | lst ys => simp [DV.py, PyData.eqv, DV.eqv, DV.eqvs_py xs ys]
    | _ => simp [DV.py, PyData.eqv, DV.eqv]
theorem DV.eqvs_py : ∀ x y : List DV, PyData.eqvAll (DV.pys x) (DV.pys y) = DV.eqvs x y
  | [], y => by cases y <;> simp [DV.pys, PyData.eqvAll, DV.eqvs]
  | x :: xs, y => by
    cases y with
    | nil => simp [DV.pys, PyData.eqvAll, DV.eqvs]
    | cons y ys => simp [DV.pys, PyData.eqvAll, DV.eqvs, DV.eqv_py x y, DV.eqvs_py xs ys]
end
mutual
def PV.dv : PV → DV
  | .non => .non
  | .bl b => .bl b
  | .int i => .int i
  | .str z => .str z
  | .tup xs => .tup (PV.dvs xs)
  | .loc _ => .non
  | .exn _ _ => .non
def PV.dvs : List PV → List DV
  | [] => []
  | x :: xs => PV.dv x :: PV.dvs xs
end
theorem PV.dvs_map : ∀ xs : List PV, PV.dvs xs = xs.map PV.dv
  | [] => rfl
  | x :: xs => by rw [List.map_cons, ← PV.dvs_map xs]; rfl
theorem PV.data_flat {M : Store} : ∀ (n : Nat) (x : PV), PV.flat n x = true → PV.data M n x = some x.dv := by
  intro n
  induction n with
  | zero =>
    intro x h
    cases x with
    | str z => exact if_pos h
    | tup xs => cases h
    | loc _ => cases h
    | exn _ _ => cases h
    | _ => rfl
  | succ n ih =>
    have ihs : ∀ xs : List PV, xs.all (PV.flat n) = true → mapO (PV.data M n) xs = some (PV.dvs xs) := by
      intro xs
      induction xs with
      | nil => intro _; rfl
      | cons x xs jh =>
        intro h
        rw [List.all_cons, Bool.and_eq_true] at h
        simp only [mapO, ih x h.1, jh h.2]
        rfl
    intro x h
    cases x with
    | str z => exact if_pos h
    | tup xs =>
      show (mapO (PV.data M n) xs).map DV.tup = _
      rw [ihs xs h]
      rfl
    | loc _ => cases h
    | exn _ _ => cases h
    | _ => rfl
mutual
theorem PV.eqv_dv : ∀ (x y : PV) (n m : Nat), PV.flat n x = true → PV.flat m y = true → DV.eqv x.dv y.dv = PV.eqv x y
  | .non, y, n, m, _, h => by cases y <;> first | rfl | (cases m <;> cases h)
  | .bl _, y, n, m, _, h => by cases y <;> first | rfl | (cases m <;> cases h)
  | .int _, y, n, m, _, h => by cases y <;> first | rfl | (cases m <;> cases h)
  | .str _, y, n, m, _, h => by cases y <;> first | rfl | (cases m <;> cases h)
  | .tup xs, y, n, m, h', h => by
    cases y with
    | tup ys =>
      cases n with
      | zero => cases h'
      | succ n =>
        cases m with
        | zero => cases h
        | succ m => exact PV.eqvs_dv xs ys n m h' h
    | _ => first | rfl | (cases m <;> cases h)
  | .loc _, _, n, _, h, _ => by cases n <;> cases h
  | .exn _ _, _, n, _, h, _ => by cases n <;> cases h
theorem PV.eqvs_dv : ∀ (x y : List PV) (n m : Nat), x.all (PV.flat n) = true → y.all (PV.flat m) = true → DV.eqvs (PV.dvs x) (PV.dvs y) = PV.eqvs x y
  | [], y, n, m, _, h => by cases y <;> rfl
  | x :: xs, y, n, m, h', h => by
    cases y with
    | nil => rfl
    | cons y ys =>
      rw [List.all_cons, Bool.and_eq_true] at h h'
      show (DV.eqv (PV.dv x) (PV.dv y) && DV.eqvs (PV.dvs xs) (PV.dvs ys)) = (PV.eqv x y && PV.eqvs xs ys)
      rw [PV.eqv_dv x y n m h'.1 h.1, PV.eqvs_dv xs ys n m h'.2 h.2]
end
/-- equality by data -/
theorem eqD_data {x y : PV} {M : Store} {b : Bool} (h : eqD x y M = some b) : ∃ d e, PV.data M 60 x = some d ∧ PV.data M 60 y = some e ∧ b = DV.eqv d e := by
  unfold eqD at h
  by_cases c : PV.flat 60 x = true ∧ PV.flat 60 y = true
  · rw [if_pos c] at h
    cases h
    exact ⟨_, _, PV.data_flat 60 x c.1, PV.data_flat 60 y c.2, (PV.eqv_dv x y 60 60 c.1 c.2).symm⟩
  · rw [if_neg c] at h
    cases e1 : PV.data M 60 x with
    | none => rw [e1] at h; cases h
    | some d =>
      cases e2 : PV.data M 60 y with
      | none => rw [e1, e2] at h; cases h
      | some e =>
        rw [e1, e2] at h
        cases h
        exact ⟨_, _, rfl, rfl, rfl⟩
theorem strOk_eq {z : Str} (h : strOk z = true) : PyData.canLay0 (.str z) = true := by
  have e : PyData.canLay0 (.str z) = z.cps.all (· < 0x110000) := by simp [PyData.canLay0, PyData.strOk]
  rw [e, ← Array.all_toList]
  exact h
section
variable {K : PySem.W.Frag} {mg : Str → Option Value} {μ : Mu} {H : Hp} {M : Store}
theorem two_le_of {n : Nat} {d : Nat} (h : d ≤ n) : d + 1 ≤ n + 1 := Nat.succ_le_succ h
theorem data_dp (r : Rel K mg μ H M) : ∀ (n : Nat) (x : PV) (u : V) (d : DV), Rep K μ H M.length u x → PV.data M n x = some d → Dp K H u d.py ∧ d.py.canLay0 = true ∧ d.py.depth ≤ n := by
  intro n
  induction n with
  | zero =>
    intro x u d h e
    cases h with
    | non => cases e; exact ⟨.non, rfl, Nat.le_refl _⟩
    | bl b => cases e; exact ⟨.bl b, rfl, Nat.le_refl _⟩
    | int i => cases e; exact ⟨.int i, rfl, Nat.le_refl _⟩
    | str z =>
      simp only [PV.data] at e
      by_cases c : strOk z = true
      · rw [if_pos c] at e; cases e; exact ⟨.str z, strOk_eq c, Nat.le_refl _⟩
      · rw [if_neg c] at e; cases e
    | tup _ _ => simp [PV.data] at e
    | loc _ => simp [PV.data] at e
  | succ n ih =>
    have ihs : ∀ (xs : List PV) (us : List V) (ds : List DV), Reps K μ H M.length us xs → mapO (PV.data M n) xs = some ds → DpAll K H us (DV.pys ds) ∧ PyData.canLayAll0 (DV.pys ds) = true ∧ PyData.depthAll (DV.pys ds) ≤ n := by
      intro xs
      induction xs with
      | nil =>
        intro us ds h e
        cases h
        cases e
        exact ⟨.nil, rfl, Nat.zero_le _⟩
      | cons x xs jh =>
        intro us ds h e
        cases h with
        | cons h1 h2 =>
          simp only [mapO] at e
          cases e1 : PV.data M n x with
          | none => simp only [e1] at e; cases e
          | some d =>
            cases e2 : mapO (PV.data M n) xs with
            | none => simp only [e1, e2] at e; cases e
            | some ds' =>
              simp only [e1, e2] at e
              cases e
              obtain ⟨a1, a2, a3⟩ := ih x _ d h1 e1
              obtain ⟨b1, b2, b3⟩ := jh _ ds' h2 e2
              exact ⟨.cons a1 b1, by simp [DV.pys, PyData.canLayAll0, a2, b2], by simp only [DV.pys, PyData.depthAll]; omega⟩
    intro x u d h e
    cases h with
    | non => cases e; exact ⟨.non, rfl, Nat.zero_le _⟩
    | bl b => cases e; exact ⟨.bl b, rfl, Nat.zero_le _⟩
    | int i => cases e; exact ⟨.int i, rfl, Nat.zero_le _⟩
    | str z =>
      simp only [PV.data] at e
      by_cases c : strOk z = true
      · rw [if_pos c] at e; cases e; exact ⟨.str z, strOk_eq c, Nat.zero_le _⟩
      · rw [if_neg c] at e; cases e
    | @tup p vs xs hq hr =>
      simp only [PV.data] at e
      cases e1 : mapO (PV.data M n) xs with
      | none => rw [e1] at e; cases e
      | some ds =>
        rw [e1] at e
        cases e
        obtain ⟨b1, b2, b3⟩ := ihs xs vs ds hr e1
        exact ⟨.tup hq b1, by simp [DV.py, PyData.canLay0, b2], by simp only [DV.py, PyData.depth]; omega⟩
    | @loc i hi =>
      simp only [PV.data] at e
      cases e1 : M[i]? with
      | none => rw [e1] at e; cases e
      | some o =>
        rw [e1] at e
        cases o with
        | lst xs =>
          dsimp only at e
          cases e2 : mapO (PV.data M n) xs with
          | none => rw [e2] at e; cases e
          | some ds =>
            rw [e2] at e
            cases e
            obtain ⟨vs, z, q⟩ := r.lst e1
            obtain ⟨b1, b2, b3⟩ := ihs xs vs ds q e2
            exact ⟨.lst (SqL.of z) b1, by simp [DV.py, PyData.canLay0, b2], by simp only [DV.py, PyData.depth]; omega⟩
        | _ => cases e
theorem shaped_of {d : PyData} {n : Nat} (h : d.canLay0 = true ∧ d.depth ≤ n) (hn : n ≤ 64) : SeqAt.shaped d = true := by
  show (d.canLay0 && decide (d.depth ≤ 64)) = true
  rw [Bool.and_eq_true]
  exact ⟨h.1, decide_eq_true (Nat.le_trans h.2 hn)⟩
end
section
variable {X : Cx} {fld : Str → Option Str}
theorem or_eq (hu : X.A.units + 64 < cLine) : OpR X (compareOp .Eq) (R2L X fld (copV .eq)) := by
  rintro pins s σ H x y v u Q I rx ry ⟨E, μ, M, a, b, r, ha, hb, g⟩
  have g : Good X.K X.mg fld (RV X.K) μ H M E Q ((opt M (eqD a b M)).bind fun b M => .ok (.bl b) M) := g
  cases h : eqD a b M with
  | none => rw [h] at g; exact g.elim
  | some k =>
    rw [h] at g
    obtain ⟨d, e, h1, h2, rfl⟩ := eqD_data h
    obtain ⟨a1, a2⟩ := data_dp r 60 a x d ha h1
    obtain ⟨b1, b2⟩ := data_dp r 60 b y e hb h2
    refine op_eqD hu pins s σ H x y v u Q I rx ry ⟨_, _, a1, b1, shaped_of a2 (by decide), shaped_of b2 (by decide), ?_⟩
    rw [DV.eqv_py]
    exact g.now r (.bl _)
theorem or_ne (hu : X.A.units + 64 < cLine) : OpR X (compareOp .NotEq) (R2L X fld (copV .ne)) := by
  rintro pins s σ H x y v u Q I rx ry ⟨E, μ, M, a, b, r, ha, hb, g⟩
  have g : Good X.K X.mg fld (RV X.K) μ H M E Q ((opt M (eqD a b M)).bind fun b M => .ok (.bl (!b)) M) := g
  cases h : eqD a b M with
  | none => rw [h] at g; exact g.elim
  | some k =>
    rw [h] at g
    obtain ⟨d, e, h1, h2, rfl⟩ := eqD_data h
    obtain ⟨a1, a2⟩ := data_dp r 60 a x d ha h1
    obtain ⟨b1, b2⟩ := data_dp r 60 b y e hb h2
    refine op_neD hu pins s σ H x y v u Q I rx ry ⟨_, _, a1, b1, shaped_of a2 (by decide), shaped_of b2 (by decide), ?_⟩
    rw [DV.eqv_py]
    exact g.now r (.bl _)
/-- x in a list or a tuple of data -/
def rInQ (K : PySem.W.Frag) (neg : Bool) : R2 := fun x y H Q => ∃ d ds, Dp K H x d ∧ (Dp K H y (.list ds) ∨ Dp K H y (.tuple ds)) ∧ SeqAt.shaped d = true ∧ SeqAt.shaped (.list ds) = true ∧ Q (.bl (if neg then !ds.any (fun z => PyData.eqv z d) else ds.any fun z => PyData.eqv z d)) H
theorem op_inQ (hu : X.A.units + 65 < cLine) : OpR X (compareOp .In) (rInQ X.K false) := by
  intro pins s σ H x y v u Q I rx ry h
  obtain ⟨d, ds, hd, he, sd, se, q⟩ := h
  obtain ⟨as, r1⟩ := Dp.reads I d x v hd rx
  rcases he with he | he
  · obtain ⟨bs, r2⟩ := Dp.reads I (.list ds) y u he ry
    exact SeqAt.in_list_reads r2 r1 (SeqAt.canLay_of_shaped se) (SeqAt.canLay_of_shaped sd) (room_in_shaped sd hu) ⟨.bl _, H, I, rfl, q⟩
  · obtain ⟨bs, r2⟩ := Dp.reads I (.tuple ds) y u he ry
    exact SeqAt.in_tuple_reads r2 r1 (SeqAt.canLay_of_shaped se) (SeqAt.canLay_of_shaped sd) (room_in_shaped sd hu) ⟨.bl _, H, I, rfl, q⟩
theorem op_notInQ (hu : X.A.units + 65 < cLine) : OpR X (compareOp .NotIn) (rInQ X.K true) := by
  intro pins s σ H x y v u Q I rx ry h
  obtain ⟨d, ds, hd, he, sd, se, q⟩ := h
  obtain ⟨as, r1⟩ := Dp.reads I d x v hd rx
  rcases he with he | he
  · obtain ⟨bs, r2⟩ := Dp.reads I (.list ds) y u he ry
    exact SeqAt.notIn_list_reads r2 r1 (SeqAt.canLay_of_shaped se) (SeqAt.canLay_of_shaped sd) (room_in_shaped sd hu) ⟨.bl _, H, I, rfl, q⟩
  · obtain ⟨bs, r2⟩ := Dp.reads I (.tuple ds) y u he ry
    exact SeqAt.notIn_tuple_reads r2 r1 (SeqAt.canLay_of_shaped se) (SeqAt.canLay_of_shaped sd) (room_in_shaped sd hu) ⟨.bl _, H, I, rfl, q⟩
end

section
variable {X : Cx} {fld : Str → Option Str}
theorem pys_any {ys : List PV} {d : DV} {x : PV} (hd : d = x.dv) (n : Nat) (hx : PV.flat n x = true) (hy : ys.all (PV.flat n) = true) : ((DV.pys (PV.dvs ys)).any fun z => PyData.eqv z d.py) = ys.any fun y => PV.eqv y x := by
  induction ys with
  | nil => rfl
  | cons y ys ih =>
    rw [List.all_cons, Bool.and_eq_true] at hy
    show (PyData.eqv (PV.dv y).py d.py || (DV.pys (PV.dvs ys)).any fun z => PyData.eqv z d.py) = (PV.eqv y x || ys.any fun y => PV.eqv y x)
    rw [ih hy.2, DV.eqv_py, hd, PV.eqv_dv y x n n hy.1 hx]
theorem in_seq {K : PySem.W.Frag} {mg : Str → Option Value} {μ : Mu} {H : Hp} {M : Store} (r : Rel K mg μ H M) {a y : PV} {x v : V} {ys : List PV} {b : Bool} (ha : Rep K μ H M.length x a) (hb : Rep K μ H M.length v y)
    (hy : y = .tup ys ∨ ∃ p, y = .loc p ∧ M[p]? = some (.lst ys)) (h : inD a ys = some b) : ∃ d ds, Dp K H x d ∧ (Dp K H v (.list ds) ∨ Dp K H v (.tuple ds)) ∧ SeqAt.shaped d = true ∧ SeqAt.shaped (.list ds) = true ∧ (ds.any fun z => PyData.eqv z d) = b := by
  unfold inD at h
  by_cases c : PV.flat 60 a = true ∧ PV.flats 60 ys = true
  · rw [if_pos c] at h
    cases h
    obtain ⟨a1, a2⟩ := data_dp r 60 a x _ ha (PV.data_flat 60 a c.1)
    have hm : mapO (PV.data M 60) ys = some (PV.dvs ys) := by
      have z := PV.data_flat (M := M) 61 (.tup ys) c.2
      simp only [PV.data] at z
      cases q : mapO (PV.data M 60) ys with
      | none => rw [q] at z; cases z
      | some w =>
        rw [q] at z
        have z : some (DV.tup w) = some (DV.tup (PV.dvs ys)) := z
        injection z with z
        injection z with z
        rw [z]
    refine ⟨_, DV.pys (PV.dvs ys), a1, ?_, shaped_of a2 (by decide), ?_, pys_any rfl 60 c.1 c.2⟩
    · rcases hy with rfl | ⟨p, rfl, e⟩
      · obtain ⟨b1, b2⟩ := data_dp r 61 (.tup ys) v (.tup (PV.dvs ys)) hb (by simp only [PV.data]; rw [hm]; rfl)
        exact .inr b1
      · obtain ⟨b1, b2⟩ := data_dp r 61 (.loc p) v (.lst (PV.dvs ys)) hb (by simp only [PV.data]; rw [e]; dsimp only; rw [hm]; rfl)
        exact .inl b1
    · rcases hy with rfl | ⟨p, rfl, e⟩
      · obtain ⟨b1, b2, b3⟩ := data_dp r 61 (.tup ys) v (.tup (PV.dvs ys)) hb (by simp only [PV.data]; rw [hm]; rfl)
        refine shaped_of (n := 61) ⟨?_, ?_⟩ (by decide)
        · have z : PyData.canLayAll0 (DV.pys (PV.dvs ys)) = true := by simpa [DV.py, PyData.canLay0] using b2
          simpa [PyData.canLay0] using z
        · simpa [DV.py, PyData.depth] using b3
      · obtain ⟨b1, b2, b3⟩ := data_dp r 61 (.loc p) v (.lst (PV.dvs ys)) hb (by simp only [PV.data]; rw [e]; dsimp only; rw [hm]; rfl)
        exact shaped_of ⟨b2, b3⟩ (by decide)
  · rw [if_neg c] at h; cases h
theorem sign_of {y : Str} {c : Nat} (h : y.cps.toList = [c]) : y = ⟨#[c]⟩ := by
  obtain ⟨a⟩ := y
  have e : a = #[c] := by rw [← Array.toList_inj]; exact h
  rw [e]
theorem or_isin (hu : X.A.units + 65 < cLine) : OpR X (compareOp .In) (R2L X fld (copV .isin)) := by
  rintro pins s σ H x y v u Q I rx ry ⟨E, μ, M, a, b, r, ha, hb, g⟩
  have g : Good X.K X.mg fld (RV X.K) μ H M E Q (copV.inV a b M) := g
  have seq : ∀ ys, (b = .tup ys ∨ ∃ p, b = .loc p ∧ M[p]? = some (.lst ys)) → Good X.K X.mg fld (RV X.K) μ H M E Q ((opt M (inD a ys)).bind fun b M => .ok (.bl b) M) → wpAny (model X.prog X.w) X.A (compareOp .In v u) (EP X pins σ Q) X.xe s := fun ys hy g => by
    cases h : inD a ys with
    | none => rw [h] at g; exact g.elim
    | some k =>
      rw [h] at g
      obtain ⟨d, ds, h1, h2, h3, h4, h5⟩ := in_seq r ha hb hy h
      refine op_inQ hu pins s σ H x y v u Q I rx ry ⟨d, ds, h1, h2, h3, h4, ?_⟩
      rw [if_neg Bool.false_ne_true, h5]
      exact g.now r (.bl _)
  cases hb with
  | @tup p vs ys h1 q1 => exact seq ys (.inl rfl) (by cases ha <;> exact g)
  | @loc i h1 =>
    have g : Good X.K X.mg fld (RV X.K) μ H M E Q (match M[i]? with
      | some (.lst ys) => (opt M (inD a ys)).bind fun b M => .ok (.bl b) M
      | some (.dct kvs) => if PV.key 6 a = true then .ok (.bl (lookD a kvs).isSome) M else .fail
      | _ => .fail) := by cases ha <;> exact g
    cases e1 : M[i]? with
    | none => rw [e1] at g; exact g.elim
    | some o1 =>
      rw [e1] at g
      cases o1 with
      | lst ys => exact seq ys (.inr ⟨i, rfl, e1⟩) g
      | dct kvs => exact (r.obj i _ e1).elim
      | _ => exact g.elim
  | str z =>
    cases ha with
    | str y =>
      have g : Good X.K X.mg fld (RV X.K) μ H M E Q (match y.cps.toList with
        | [c] => .ok (.bl (decide (c ∈ z.cps.toList))) M
        | _ => .fail) := g
      cases e : y.cps.toList with
      | nil => rw [e] at g; exact g.elim
      | cons c t =>
        cases t with
        | cons _ _ => rw [e] at g; exact g.elim
        | nil =>
          rw [e] at g
          refine op_in_sign pins s σ H _ _ v u Q I rx ry ⟨c, z, by rw [sign_of e], rfl, g.now r (.bl _)⟩
    | _ => exact g.elim
  | _ => cases ha <;> exact g.elim
theorem or_notin (hu : X.A.units + 65 < cLine) : OpR X (compareOp .NotIn) (R2L X fld (copV .notin)) := by
  rintro pins s σ H x y v u Q I rx ry ⟨E, μ, M, a, b, r, ha, hb, g⟩
  have g : Good X.K X.mg fld (RV X.K) μ H M E Q ((copV.inV a b M).bind fun b M => .ok (.bl (!blOf b)) M) := g
  have seq : ∀ ys, (b = .tup ys ∨ ∃ p, b = .loc p ∧ M[p]? = some (.lst ys)) → Good X.K X.mg fld (RV X.K) μ H M E Q (((opt M (inD a ys)).bind fun b M => Out.ok (PV.bl b) M).bind fun b M => .ok (.bl (!blOf b)) M) → wpAny (model X.prog X.w) X.A (compareOp .NotIn v u) (EP X pins σ Q) X.xe s := fun ys hy g => by
    cases h : inD a ys with
    | none => rw [h] at g; exact g.elim
    | some k =>
      rw [h] at g
      obtain ⟨d, ds, h1, h2, h3, h4, h5⟩ := in_seq r ha hb hy h
      refine op_notInQ hu pins s σ H x y v u Q I rx ry ⟨d, ds, h1, h2, h3, h4, ?_⟩
      rw [if_pos rfl, h5]
      exact g.now r (.bl _)
  cases hb with
  | @tup p vs ys h1 q1 => exact seq ys (.inl rfl) (by cases ha <;> exact g)
  | @loc i h1 =>
    have g : Good X.K X.mg fld (RV X.K) μ H M E Q ((match M[i]? with
      | some (.lst ys) => (opt M (inD a ys)).bind fun b M => Out.ok (PV.bl b) M
      | some (.dct kvs) => if PV.key 6 a = true then .ok (.bl (lookD a kvs).isSome) M else .fail
      | _ => .fail).bind fun b M => .ok (.bl (!blOf b)) M) := by cases ha <;> exact g
    cases e1 : M[i]? with
    | none => rw [e1] at g; exact g.elim
    | some o1 =>
      rw [e1] at g
      cases o1 with
      | lst ys => exact seq ys (.inr ⟨i, rfl, e1⟩) g
      | dct kvs => exact (r.obj i _ e1).elim
      | _ => exact g.elim
  | str z =>
    cases ha with
    | str y =>
      have g : Good X.K X.mg fld (RV X.K) μ H M E Q ((match y.cps.toList with
        | [c] => Out.ok (PV.bl (decide (c ∈ z.cps.toList))) M
        | _ => .fail).bind fun b M => .ok (.bl (!blOf b)) M) := g
      cases e : y.cps.toList with
      | nil => rw [e] at g; exact g.elim
      | cons c t =>
        cases t with
        | cons _ _ => rw [e] at g; exact g.elim
        | nil =>
          rw [e] at g
          refine op_notIn_sign pins s σ H _ _ v u Q I rx ry ⟨c, z, by rw [sign_of e], rfl, g.now r (.bl _)⟩
    | _ => exact g.elim
  | _ => cases ha <;> exact g.elim

/-! ### subscripts, slices -/
theorem ir_ix : IxR X (R2L X fld ixV) := by
  rintro value slice pins s σ H x y v u Q I rx ry ⟨E, μ, M, a, b, r, ha, hb, g⟩ hs
  cases ha with
  | @tup p vs xs h1 q1 =>
    cases hb with
    | int i =>
      have g : Good X.K X.mg fld (RV X.K) μ H M E Q (opt M (Mini.atI xs i)) := g
      cases e : Mini.atI xs i with
      | none => rw [e] at g; exact g.elim
      | some z =>
        rw [e] at g
        obtain ⟨u', e', q⟩ := q1.atI e
        exact ix_tup value slice pins s σ H _ _ v u Q I rx ry ⟨p, vs, i, u', rfl, rfl, h1, e', g.now r q⟩ hs
    | _ => exact g.elim
  | str z =>
    cases hb with
    | int i =>
      have g : Good X.K X.mg fld (RV X.K) μ H M E Q (if z.length ≤ cap then opt M ((Mini.atI z.cps.toList i).map fun c => PV.str ⟨#[c]⟩) else .fail) := g
      by_cases c : z.length ≤ cap
      case neg => rw [if_neg c] at g; exact g.elim
      rw [if_pos c] at g
      cases e : Mini.atI z.cps.toList i with
      | none => rw [e] at g; exact g.elim
      | some k =>
        rw [e] at g
        exact ix_str value slice pins s σ H _ _ v u Q I rx ry ⟨z, i, k, rfl, rfl, by rw [← cap_eq]; exact c, e, g.now r (.str _)⟩ hs
    | _ => exact g.elim
  | @loc p hp =>
    have g : Good X.K X.mg fld (RV X.K) μ H M E Q (match (generalizing := false) M[p]?, b with
      | some (.lst xs), .int i => opt M (Mini.atI xs i)
      | some (.frz xs), .int i => opt M (Mini.atI xs i)
      | some (.dct kvs), k => if PV.key 6 k = true then opt M (lookD k kvs) else .fail
      | _, _ => .fail) := by cases b <;> exact g
    have fin : ∀ xs i, b = .int i → seqL (.loc p) M = some xs → Good X.K X.mg fld (RV X.K) μ H M E Q (opt M (Mini.atI xs i)) → wpAny (model X.prog X.w) X.A (subscriptTail value slice v u) (EP X pins σ Q) X.xe s := by
      intro xs i eb hq gg
      subst eb
      cases hb
      cases e : Mini.atI xs i with
      | none => rw [e] at gg; exact gg.elim
      | some z =>
        rw [e] at gg
        obtain ⟨vs, h1, q1, _⟩ := r.seq hq
        obtain ⟨u', e', q⟩ := q1.atI e
        exact ix_list value slice pins s σ H _ _ v u Q I rx ry ⟨_, vs, i, u', rfl, rfl, h1, e', gg.now r q⟩ hs
    cases e1 : M[p]? with
    | none => rw [e1] at g; cases b <;> exact g.elim
    | some o1 =>
      rw [e1] at g
      cases o1 with
      | lst ys =>
        cases b with
        | int i => exact fin ys i rfl (by unfold seqL; dsimp only; rw [e1]) g
        | _ => exact g.elim
      | frz ys =>
        cases b with
        | int i => exact fin ys i rfl (by unfold seqL; dsimp only; rw [e1]) g
        | _ => exact g.elim
      | dct kvs => exact (r.obj p _ e1).elim
      | ins _ _ => cases b <;> exact g.elim
  | _ => cases hb <;> exact g.elim
theorem sIx_eq (n d : Nat) (o : Option Int) : Mini.sIx n d o = HT.sIx n d o := by cases o <;> rfl
theorem sr_sl : SlR X (fun x lo hi H Q => R1L X fld (fun a M => slV a lo hi M) x H Q) := by
  rintro pins s σ H x v vl vu lo hi sl Q I rx hs pl pu ⟨E, μ, M, a, r, ha, g⟩
  cases ha with
  | @tup p vs xs h1 q1 =>
    have g : Good X.K X.mg fld (RV X.K) μ H M E Q (.ok (.tup (cutL xs (Mini.sIx xs.length 0 lo) (Mini.sIx xs.length xs.length hi))) M) := g
    refine sl_tupA pins s σ H _ v vl vu lo hi sl Q I rx hs pl pu ⟨p, vs, rfl, h1, fun e => ?_, fun e q hq => ?_⟩
    · rw [q1.length, ← sIx_eq, ← sIx_eq] at e
      rw [e.1, e.2] at g
      have z : cutL xs 0 xs.length = xs := by unfold cutL; rw [List.drop_zero, Nat.sub_zero, List.take_length]
      rw [z] at g
      exact g.now r (.tup h1 q1)
    · have z : Reps X.K μ H M.length (cutV vs lo hi) (cutL xs (Mini.sIx xs.length 0 lo) (Mini.sIx xs.length xs.length hi)) := by
        unfold cutV
        rw [q1.length, ← sIx_eq, ← sIx_eq]
        exact q1.cut _ _
      exact g.tup r hq z
  | str z =>
    have g : Good X.K X.mg fld (RV X.K) μ H M E Q (if z.length ≤ cap then .ok (.str ⟨(cutL z.cps.toList (Mini.sIx z.length 0 lo) (Mini.sIx z.length z.length hi)).toArray⟩) M else .fail) := g
    by_cases c : z.length ≤ cap
    case neg => rw [if_neg c] at g; exact g.elim
    rw [if_pos c] at g
    refine sl_str pins s σ H _ v vl vu lo hi sl Q I rx hs pl pu ⟨z, rfl, by rw [← cap_eq]; exact c, ?_⟩
    have e : cutS z lo hi = ⟨(cutL z.cps.toList (Mini.sIx z.length 0 lo) (Mini.sIx z.length z.length hi)).toArray⟩ := by
      unfold cutS cutL
      rw [sIx_eq, sIx_eq]
    rw [e]
    exact g.now r (.str _)
  | @loc p hp =>
    have g : Good X.K X.mg fld (RV X.K) μ H M E Q (match seqL (.loc p) M with
      | some xs => .ok (.loc M.length) (M ++ [.lst (cutL xs (Mini.sIx xs.length 0 lo) (Mini.sIx xs.length xs.length hi))])
      | none => .fail) := g
    cases e : seqL (.loc p) M with
    | none => rw [e] at g; exact g.elim
    | some xs =>
      rw [e] at g
      obtain ⟨vs, h1, q1, _⟩ := r.seq e
      refine sl_list pins s σ H _ v vl vu lo hi sl Q I rx hs pl pu ⟨_, vs, rfl, h1, fun q hq => g.layL r hq ?_⟩
      unfold cutV
      rw [q1.length, ← sIx_eq, ← sIx_eq]
      exact q1.cut _ _
  | _ => exact g.elim
end

/-! ### built-ins -/
section
variable {X : Cx} {fld : Str → Option Str}
theorem Reps.one {K : PySem.W.Frag} {μ : Mu} {H : Hp} {n : Nat} {us : List V} {x : PV} (h : Reps K μ H n us [x]) : ∃ u, us = [u] ∧ Rep K μ H n u x := by
  cases h with
  | cons r t => cases t; exact ⟨_, rfl, r⟩
theorem Reps.two {K : PySem.W.Frag} {μ : Mu} {H : Hp} {n : Nat} {us : List V} {x y : PV} (h : Reps K μ H n us [x, y]) : ∃ u w, us = [u, w] ∧ Rep K μ H n u x ∧ Rep K μ H n w y := by
  cases h with
  | cons r t =>
    cases t with
    | cons r2 t => cases t; exact ⟨_, _, rfl, r, r2⟩
/-- a list or a tuple, read -/
theorem Rel.seqV {K : PySem.W.Frag} {mg : Str → Option Value} {μ : Mu} {H : Hp} {M : Store} (r : Rel K mg μ H M) {v : PV} {u : V} {xs : List PV} (hu : Rep K μ H M.length u v) (h : seqV v M = some xs) :
    ∃ p vs, u = .ref p ∧ (SqL K H p vs ∨ SqT K H p vs) ∧ Reps K μ H M.length vs xs := by
  cases hu with
  | @tup p vs ys h1 q1 => cases h; exact ⟨p, vs, rfl, .inr h1, q1⟩
  | @loc i hi =>
    obtain ⟨vs, h1, q1, _⟩ := r.seq (i := i) (xs := xs) h
    exact ⟨_, vs, rfl, .inl h1, q1⟩
  | _ => cases h
theorem cr_bad {f : Value} {b : Bi} (h : ∀ vs H Q, ¬ RsL X fld (biV b) vs H Q) : CallR X f (RsL X fld (biV b)) := fun pins s σ H vs us Q I r q => (h vs H Q q).elim
/-- a built-in of one argument -/
theorem cr_one {f : Value} {b : Bi} (h0 : ∀ M, biV b [] M = .fail) (h2 : ∀ x y r M, biV b (x :: y :: r) M = .fail)
    (h : ∀ E μ M a (pins : List (Addr × Obj)) (s : Shared) (σ : St) (H : Hp) (x : V) (us : List Value) (Q : VK), L2.Inv X pins σ H s → Vals [x] us → Rel X.K X.mg μ H M → Rep X.K μ H M.length x a → Good X.K X.mg fld (RV X.K) μ H M E Q (biV b [a] M) → wpAny (model X.prog X.w) X.A (call f us) (EP X pins σ Q) X.xe s) :
    CallR X f (RsL X fld (biV b)) := by
  rintro pins s σ H xs us Q I rv ⟨E, μ, M, as, r, ha, g⟩
  cases as with
  | nil => rw [h0] at g; exact g.elim
  | cons a t =>
    cases t with
    | nil =>
      obtain ⟨x, rfl, q⟩ := ha.one
      exact h E μ M a pins s σ H x us Q I rv r q g
    | cons b t => rw [h2] at g; exact g.elim
theorem cr_len : CallR X (.builtin "len") (RsL X fld (biV .len)) := by
  refine cr_one (fun _ => rfl) (fun x y r M => by cases x <;> rfl) fun E μ M a pins s σ H x us Q I rv r ha g => ?_
  cases ha with
  | str z =>
    have g : Good X.K X.mg fld (RV X.K) μ H M E Q (if z.length ≤ cap then .ok (.int z.length) M else .fail) := g
    by_cases c : z.length ≤ cap
    case neg => rw [if_neg c] at g; exact g.elim
    rw [if_pos c] at g
    exact call_len_str pins s σ H _ us Q I rv ⟨z, rfl, by rw [← cap_eq]; exact c, g.now r (.int _)⟩
  | @tup p vs xs h1 q1 =>
    have g : Good X.K X.mg fld (RV X.K) μ H M E Q (.ok (.int xs.length) M) := g
    refine call_len_seq pins s σ H _ us Q I rv ⟨p, vs, rfl, .inr h1, ?_⟩
    rw [q1.length]
    exact g.now r (.int _)
  | @loc p hp =>
    have g : Good X.K X.mg fld (RV X.K) μ H M E Q (match M[p]? with
      | some (.lst xs) => .ok (.int xs.length) M
      | some (.frz xs) => .ok (.int xs.length) M
      | some (.dct kvs) => .ok (.int kvs.length) M
      | _ => .fail) := g
    cases e1 : M[p]? with
    | none => rw [e1] at g; exact g.elim
    | some o1 =>
      rw [e1] at g
      cases o1 with
      | lst ys =>
        obtain ⟨vs, z, q⟩ := r.lst e1
        refine call_len_seq pins s σ H _ us Q I rv ⟨_, vs, rfl, .inl (SqL.of z), ?_⟩
        rw [q.length]
        exact g.now r (.int _)
      | frz ys =>
        obtain ⟨ob, vs, z, q⟩ := r.obj p _ e1
        refine call_len_seq pins s σ H _ us Q I rv ⟨_, vs, rfl, .inl (.inl (.inr ⟨ob, z⟩)), ?_⟩
        rw [q.length]
        exact g.now r (.int _)
      | dct kvs => exact (r.obj p _ e1).elim
      | ins _ _ => exact g.elim
  | _ => exact g.elim
theorem sum_any {pins : List (Addr × Obj)} {s : Shared} {σ : St} {H : Hp} {p : Addr} {ns : List Int} {us : List Value} {Q : VK} (hc : X.calm = true) (I : L2.Inv X pins σ H s) (rv : Vals [V.ref p] us) (h : SqL X.K H p (ns.map V.int) ∨ SqT X.K H p (ns.map V.int)) (q : Q (.int ns.sum) H) :
    wpAny (model X.prog X.w) X.A (call (.builtin "sum") us) (EP X pins σ Q) X.xe s := by
  rcases h with h | h
  · exact L2.cr_sum hc pins s σ H _ us Q I rv ⟨p, ns, rfl, h, q⟩
  · obtain ⟨its, rq, ht, _⟩ := I.tuple h
    rw [Vals.ref1 rv]
    have hi := rq.ints
    obtain ⟨xs, e⟩ := hi.allInts.items
    have hn : numsOf (intItems xs).toList = ns := by rw [← e]; exact hi.numsOf
    rw [nums_intItems] at hn
    rw [e] at ht
    refine PySem.W.ktm_sumG (I.ok.hd hc) (show s.heap.IsTuple p (intItems xs) from ht) fun h' tk t' hk => ?_
    rw [preSum_eq, List.take_of_length_le (by simp), hn]
    exact ⟨.int _, H, I.kept hk, ⟨_, rfl⟩, q⟩
theorem cr_sum (hc : X.calm = true) : CallR X (.builtin "sum") (RsL X fld (biV .sum)) := by
  refine cr_one (fun _ => rfl) (fun x y r M => rfl) fun E μ M a pins s σ H x us Q I rv r ha g => ?_
  have g : Good X.K X.mg fld (RV X.K) μ H M E Q (match seqV a M with
    | some xs => if isInts xs = true then .ok (.int (xs.map intOf).sum) M else .fail
    | none => .fail) := g
  cases e : seqV a M with
  | none => rw [e] at g; exact g.elim
  | some xs =>
    rw [e] at g
    dsimp only at g
    by_cases c : isInts xs = true
    case neg => rw [if_neg c] at g; exact g.elim
    rw [if_pos c] at g
    obtain ⟨p, vs, rfl, h1, q1⟩ := r.seqV ha e
    rw [q1.ints c] at h1
    exact sum_any hc I rv h1 (g.now r (.int _))
theorem cr_all (hc : X.calm = true) : CallR X (.builtin "all") (RsL X fld (biV .all)) := by
  refine cr_one (fun _ => rfl) (fun x y r M => rfl) fun E μ M a pins s σ H x us Q I rv r ha g => ?_
  have gg : Good X.K X.mg fld (RV X.K) μ H M E Q (match seqL a M with
    | some xs => if isBls xs = true then .ok (.bl ((xs.map blOf).all id)) M else .fail
    | none => .fail) := g
  cases e : seqL a M with
  | none => rw [e] at gg; exact gg.elim
  | some xs =>
    rw [e] at gg
    dsimp only at gg
    by_cases c : isBls xs = true
    case neg => rw [if_neg c] at gg; exact gg.elim
    rw [if_pos c] at gg
    cases ha with
    | @loc i hi =>
      obtain ⟨vs, h1, q1, _⟩ := r.seq e
      rw [q1.bls c] at h1
      exact L2.cr_all hc pins s σ H _ us Q I rv ⟨_, _, rfl, h1, gg.now r (.bl _)⟩
    | _ => cases e
theorem cr_any (hc : X.calm = true) : CallR X (.builtin "any") (RsL X fld (biV .any)) := by
  refine cr_one (fun _ => rfl) (fun x y r M => rfl) fun E μ M a pins s σ H x us Q I rv r ha g => ?_
  have gg : Good X.K X.mg fld (RV X.K) μ H M E Q (match seqL a M with
    | some xs => if isBls xs = true then .ok (.bl ((xs.map blOf).any id)) M else .fail
    | none => .fail) := g
  cases e : seqL a M with
  | none => rw [e] at gg; exact gg.elim
  | some xs =>
    rw [e] at gg
    dsimp only at gg
    by_cases c : isBls xs = true
    case neg => rw [if_neg c] at gg; exact gg.elim
    rw [if_pos c] at gg
    cases ha with
    | @loc i hi =>
      obtain ⟨vs, h1, q1, _⟩ := r.seq e
      rw [q1.bls c] at h1
      exact L2.cr_any hc pins s σ H _ us Q I rv ⟨_, _, rfl, h1, gg.now r (.bl _)⟩
    | _ => cases e
theorem cr_abs : CallR X (.builtin "abs") (RsL X fld (biV .abs)) := by
  refine cr_one (fun _ => rfl) (fun x y r M => by cases x <;> rfl) fun E μ M a pins s σ H x us Q I rv r ha g => ?_
  cases ha with
  | int i => exact call_abs pins s σ H _ us Q I rv ⟨i, rfl, g.now r (.int _)⟩
  | _ => exact g.elim
theorem cr_int : CallR X (.type "int") (RsL X fld (biV .int)) := by
  refine cr_one (fun _ => rfl) (fun x y r M => by cases x <;> rfl) fun E μ M a pins s σ H x us Q I rv r ha g => ?_
  cases ha with
  | int i => exact call_int1 pins s σ H _ us Q I rv (.inl ⟨i, rfl, g.now r (.int _)⟩)
  | bl k => exact call_int1 pins s σ H _ us Q I rv (.inr ⟨k, rfl, g.now r (.int _)⟩)
  | _ => exact g.elim
theorem cr_tuple : CallR X (.type "tuple") (RsL X fld (biV .tuple)) := by
  refine cr_one (fun _ => rfl) (fun x y r M => by cases x <;> rfl) fun E μ M a pins s σ H x us Q I rv r ha g => ?_
  cases ha with
  | @tup p vs xs h1 q1 => exact call_tuple_of pins s σ H _ us Q I rv ⟨p, vs, rfl, .inr ⟨h1, g.now r (.tup h1 q1)⟩⟩
  | @loc p hp =>
    have g : Good X.K X.mg fld (RV X.K) μ H M E Q (match seqL (.loc p) M with
      | some xs => .ok (.tup xs) M
      | none => .fail) := g
    cases e : seqL (.loc p) M with
    | none => rw [e] at g; exact g.elim
    | some xs =>
      rw [e] at g
      obtain ⟨vs, h1, q1, _⟩ := r.seq e
      exact call_tuple_of pins s σ H _ us Q I rv ⟨_, vs, rfl, .inl ⟨h1, fun q hq => g.tup r hq q1⟩⟩
  | _ => exact g.elim
theorem cr_list : CallR X (.type "list") (RsL X fld (biV .list)) := by
  refine cr_one (fun _ => rfl) (fun x y r M => by cases x <;> rfl) fun E μ M a pins s σ H x us Q I rv r ha g => ?_
  cases ha with
  | @tup p vs xs h1 q1 => exact call_list_of pins s σ H _ us Q I rv ⟨p, vs, rfl, .inr h1, fun q hq => g.layL r hq q1⟩
  | @loc p hp =>
    have g : Good X.K X.mg fld (RV X.K) μ H M E Q (match M[p]? with
      | some (.lst xs) => .ok (.loc M.length) (M ++ [.lst xs])
      | some (.frz xs) => .ok (.loc M.length) (M ++ [.lst xs])
      | some (.dct kvs) => .ok (.loc M.length) (M ++ [.lst (kvs.map (·.1))])
      | _ => .fail) := g
    cases e1 : M[p]? with
    | none => rw [e1] at g; exact g.elim
    | some o1 =>
      rw [e1] at g
      cases o1 with
      | lst ys =>
        obtain ⟨vs, z, q⟩ := r.lst e1
        exact call_list_of pins s σ H _ us Q I rv ⟨_, vs, rfl, .inl (SqL.of z), fun q' hq => g.layL r hq q⟩
      | frz ys =>
        obtain ⟨ob, vs, z, q⟩ := r.obj p _ e1
        exact call_list_of pins s σ H _ us Q I rv ⟨_, vs, rfl, .inl (.inl (.inr ⟨ob, z⟩)), fun q' hq => g.layL r hq q⟩
      | dct kvs => exact (r.obj p _ e1).elim
      | ins _ _ => exact g.elim
  | _ => exact g.elim
/-- a built-in of two ints -/
theorem cr_two {f : Value} {b : Bi} {k : Int → Int → Int} (hk : ∀ i j M, biV b [.int i, .int j] M = .ok (.int (k i j)) M) (hn : ∀ vs M, (∀ i j, vs ≠ [.int i, .int j]) → biV b vs M = .fail)
    (rule : CallR X f (fun xs H Q => ∃ i j, xs = [.int i, .int j] ∧ Q (.int (k i j)) H)) : CallR X f (RsL X fld (biV b)) := by
  rintro pins s σ H xs us Q I rv ⟨E, μ, M, as, r, ha, g⟩
  by_cases c : ∃ i j, as = [.int i, .int j]
  · obtain ⟨i, j, rfl⟩ := c
    obtain ⟨u, w, rfl, h1, h2⟩ := ha.two
    cases h1
    cases h2
    rw [hk] at g
    exact rule pins s σ H _ us Q I rv ⟨i, j, rfl, g.now r (.int _)⟩
  · rw [hn as M fun i j h => c ⟨i, j, h⟩] at g
    exact g.elim
theorem two_bad {b : Bi} (hb : b = .max2 ∨ b = .min2) : ∀ vs M, (∀ i j, vs ≠ [PV.int i, .int j]) → biV b vs M = .fail := fun vs M h => by
  match vs with
  | [] => rcases hb with rfl | rfl <;> rfl
  | [x] => rcases hb with rfl | rfl <;> cases x <;> rfl
  | x :: y :: z :: t => rcases hb with rfl | rfl <;> cases x <;> cases y <;> rfl
  | [x, y] =>
    rcases hb with rfl | rfl <;> cases x <;> cases y <;> first | rfl | exact absurd rfl (h _ _)
theorem cr_max2 (hc : X.calm = true) : CallR X (.builtin "max") (RsL X fld (biV .max2)) := cr_two (k := fun i j => if j > i then j else i) (fun _ _ _ => rfl) (two_bad (.inl rfl)) (call_max2 hc)
theorem cr_min2 (hc : X.calm = true) : CallR X (.builtin "min") (RsL X fld (biV .min2)) := cr_two (k := fun i j => if j < i then j else i) (fun _ _ _ => rfl) (two_bad (.inr rfl)) (call_min2 hc)
end

/-! ### max, min, sorted of ints -/
section
variable {X : Cx} {fld : Str → Option Str}
theorem isInts_map : ∀ {xs : List PV}, isInts xs = true → xs = (xs.map intOf).map PV.int
  | [], _ => rfl
  | x :: xs, h => by
    cases x with
    | int i => rw [List.map_cons, List.map_cons, ← isInts_map (xs := xs) h]; rfl
    | _ => cases h
theorem fold_max (n : Int) : ∀ ns : List Int, foldMx (fun a b => PV.lt a b) (.int n) (ns.map .int) = .int (ns.foldl max n)
  | [] => rfl
  | m :: r => by
    show foldMx (fun a b => PV.lt a b) (if PV.lt (.int n) (.int m) = true then .int m else .int n) (r.map .int) = _
    have e : (if PV.lt (.int n) (.int m) = true then PV.int m else .int n) = .int (max n m) := by
      by_cases c : n < m
      · rw [if_pos (show PV.lt (.int n) (.int m) = true from decide_eq_true c), Int.max_def, if_pos (Int.le_of_lt c)]
      · rw [if_neg (show ¬ PV.lt (.int n) (.int m) = true from by simp [PV.lt]; omega), Int.max_def]
        by_cases c' : n ≤ m
        · rw [if_pos c']; congr 1; omega
        · rw [if_neg c']
    rw [e, fold_max (max n m) r]
    rfl
theorem fold_min (n : Int) : ∀ ns : List Int, foldMx (fun a b => PV.lt b a) (.int n) (ns.map .int) = .int (ns.foldl min n)
  | [] => rfl
  | m :: r => by
    show foldMx (fun a b => PV.lt b a) (if PV.lt (.int m) (.int n) = true then .int m else .int n) (r.map .int) = _
    have e : (if PV.lt (.int m) (.int n) = true then PV.int m else .int n) = .int (min n m) := by
      by_cases c : m < n
      · rw [if_pos (show PV.lt (.int m) (.int n) = true from decide_eq_true c), Int.min_def, if_neg (by omega)]
      · rw [if_neg (show ¬ PV.lt (.int m) (.int n) = true from by simp [PV.lt]; omega), Int.min_def, if_pos (by omega)]
    rw [e, fold_min (min n m) r]
    rfl
theorem dp_ints {K : PySem.W.Frag} {H : Hp} : ∀ ns : List Int, DpAll K H (ns.map V.int) (ns.map PyData.int)
  | [] => .nil
  | i :: r => .cons (.int i) (dp_ints r)
theorem alike_all_ints (ns : List Int) : PySem.W.AlikeAll (ns.map PyData.int) := by
  refine ⟨fun x hx y hy => ?_, fun x hx => ?_⟩
  · obtain ⟨i, _, rfl⟩ := List.mem_map.mp hx
    obtain ⟨j, _, rfl⟩ := List.mem_map.mp hy
    simp [PySem.W.alike]
  · obtain ⟨i, _, rfl⟩ := List.mem_map.mp hx
    exact fun z => nomatch z
theorem depth_ints0 : ∀ ns : List Int, PyData.depthAll (ns.map PyData.int) = 0
  | [] => by simp [PyData.depthAll]
  | i :: r => by simp [PyData.depthAll, PyData.depth, depth_ints0 r]
theorem max_any {pins : List (Addr × Obj)} {s : Shared} {σ : St} {H : Hp} {p : Addr} {n : Int} {ns : List Int} {us : List Value} {Q : VK} (hc : X.calm = true) (hu : X.A.units + 64 < cLine) (I : L2.Inv X pins σ H s) (rv : Vals [V.ref p] us)
    (h : SqL X.K H p ((n :: ns).map V.int) ∨ SqT X.K H p ((n :: ns).map V.int)) (q : Q (.int (ns.foldl max n)) H) : wpAny (model X.prog X.w) X.A (call (.builtin "max") us) (EP X pins σ Q) X.xe s := by
  rw [Vals.ref1 rv]
  have hd : X.A.units + 1 + PyData.depthAll (.int n :: ns.map PyData.int) < cLine := by
    have := depth_ints0 (n :: ns)
    rw [List.map_cons] at this
    rw [this]; omega
  have fin : ∀ (its : List Value) (i : Nat) v h' tk bs, Vals ((n :: ns).map V.int) its → its.toArray[i]? = some v → Reads h' v (PySem.W.maxD (.int n) (ns.map PyData.int)) bs → (∀ b o, s.heap.get? b = some o → h'.get? b = some o) → EP X pins σ Q v { s with heap := h', toks := tk } := fun its i v h' tk bs rq hv hr hk => by
    rw [PySem.W.maxD_ints] at hr
    cases hr with
    | int m t => exact ⟨.int _, H, I.kept hk, ⟨_, rfl⟩, q⟩
  rcases h with h | h
  · obtain ⟨its, rq, hl, _⟩ := I.list h
    obtain ⟨as, ra⟩ := Dp.readsAll I ((n :: ns).map PyData.int) _ its (dp_ints _) rq
    exact PySem.W.max_list_data (I.ok.hd hc) hl.isList (x := .int n) (xs := ns.map PyData.int) (show ReadsAll s.heap its.toArray.toList _ as from ra) (alike_all_ints (n :: ns)) hd fun i v h' tk bs hv hr hk => fin its i v h' tk bs rq hv hr hk
  · obtain ⟨its, rq, hl, _⟩ := I.tuple h
    obtain ⟨as, ra⟩ := Dp.readsAll I ((n :: ns).map PyData.int) _ its (dp_ints _) rq
    exact PySem.W.max_tuple_data (I.ok.hd hc) (show s.heap.IsTuple p its.toArray from hl) (x := .int n) (xs := ns.map PyData.int) (show ReadsAll s.heap its.toArray.toList _ as from ra) (alike_all_ints (n :: ns)) hd fun i v h' tk bs hv hr hk => fin its i v h' tk bs rq hv hr hk
theorem min_any {pins : List (Addr × Obj)} {s : Shared} {σ : St} {H : Hp} {p : Addr} {n : Int} {ns : List Int} {us : List Value} {Q : VK} (hc : X.calm = true) (hu : X.A.units + 64 < cLine) (I : L2.Inv X pins σ H s) (rv : Vals [V.ref p] us)
    (h : SqL X.K H p ((n :: ns).map V.int) ∨ SqT X.K H p ((n :: ns).map V.int)) (q : Q (.int (ns.foldl min n)) H) : wpAny (model X.prog X.w) X.A (call (.builtin "min") us) (EP X pins σ Q) X.xe s := by
  rw [Vals.ref1 rv]
  have hd : X.A.units + 1 + PyData.depthAll (.int n :: ns.map PyData.int) < cLine := by
    have := depth_ints0 (n :: ns)
    rw [List.map_cons] at this
    rw [this]; omega
  have fin : ∀ (its : List Value) (i : Nat) v h' tk bs, Vals ((n :: ns).map V.int) its → its.toArray[i]? = some v → Reads h' v (PySem.W.minD (.int n) (ns.map PyData.int)) bs → (∀ b o, s.heap.get? b = some o → h'.get? b = some o) → EP X pins σ Q v { s with heap := h', toks := tk } := fun its i v h' tk bs rq hv hr hk => by
    rw [PySem.W.minD_ints] at hr
    cases hr with
    | int m t => exact ⟨.int _, H, I.kept hk, ⟨_, rfl⟩, q⟩
  rcases h with h | h
  · obtain ⟨its, rq, hl, _⟩ := I.list h
    obtain ⟨as, ra⟩ := Dp.readsAll I ((n :: ns).map PyData.int) _ its (dp_ints _) rq
    exact PySem.W.min_list_data (I.ok.hd hc) hl.isList (x := .int n) (xs := ns.map PyData.int) (show ReadsAll s.heap its.toArray.toList _ as from ra) (alike_all_ints (n :: ns)) hd fun i v h' tk bs hv hr hk => fin its i v h' tk bs rq hv hr hk
  · obtain ⟨its, rq, hl, _⟩ := I.tuple h
    obtain ⟨as, ra⟩ := Dp.readsAll I ((n :: ns).map PyData.int) _ its (dp_ints _) rq
    exact PySem.W.min_tuple_data (I.ok.hd hc) (show s.heap.IsTuple p its.toArray from hl) (x := .int n) (xs := ns.map PyData.int) (show ReadsAll s.heap its.toArray.toList _ as from ra) (alike_all_ints (n :: ns)) hd fun i v h' tk bs hv hr hk => fin its i v h' tk bs rq hv hr hk
theorem cr_max (hc : X.calm = true) (hu : X.A.units + 64 < cLine) : CallR X (.builtin "max") (RsL X fld (biV .max)) := by
  refine cr_one (fun _ => rfl) (fun x y r M => rfl) fun E μ M a pins s σ H x us Q I rv r ha g => ?_
  have gg : Good X.K X.mg fld (RV X.K) μ H M E Q (match seqV a M with
    | some (x :: r) => if ordOk (x :: r) = true then .ok (foldMx (fun a b => PV.lt a b) x r) M else .fail
    | _ => .fail) := g
  cases e : seqV a M with
  | none => rw [e] at gg; exact gg.elim
  | some xs =>
    rw [e] at gg
    cases xs with
    | nil => exact gg.elim
    | cons y ys =>
      dsimp only at gg
      by_cases c : ordOk (y :: ys) = true
      case neg => rw [if_neg c] at gg; exact gg.elim
      rw [if_pos c] at gg
      obtain ⟨p, vs, rfl, h1, q1⟩ := r.seqV ha e
      rw [q1.ints c] at h1
      have em := isInts_map (xs := y :: ys) c
      rw [List.map_cons, List.map_cons] at em
      injection em with e1 e2
      rw [e1, e2, fold_max] at gg
      exact max_any hc hu I rv h1 (gg.now r (.int _))
theorem cr_min (hc : X.calm = true) (hu : X.A.units + 64 < cLine) : CallR X (.builtin "min") (RsL X fld (biV .min)) := by
  refine cr_one (fun _ => rfl) (fun x y r M => rfl) fun E μ M a pins s σ H x us Q I rv r ha g => ?_
  have gg : Good X.K X.mg fld (RV X.K) μ H M E Q (match seqV a M with
    | some (x :: r) => if ordOk (x :: r) = true then .ok (foldMx (fun a b => PV.lt b a) x r) M else .fail
    | _ => .fail) := g
  cases e : seqV a M with
  | none => rw [e] at gg; exact gg.elim
  | some xs =>
    rw [e] at gg
    cases xs with
    | nil => exact gg.elim
    | cons y ys =>
      dsimp only at gg
      by_cases c : ordOk (y :: ys) = true
      case neg => rw [if_neg c] at gg; exact gg.elim
      rw [if_pos c] at gg
      obtain ⟨p, vs, rfl, h1, q1⟩ := r.seqV ha e
      rw [q1.ints c] at h1
      have em := isInts_map (xs := y :: ys) c
      rw [List.map_cons, List.map_cons] at em
      injection em with e1 e2
      rw [e1, e2, fold_min] at gg
      exact min_any hc hu I rv h1 (gg.now r (.int _))

/-! ### methods of lists -/
def isLm : Mt → Bool
  | .append | .pop | .popAt | .extend | .insert | .remove | .count | .index | .reverse | .clear => true
  | _ => false
theorem recv_list {m : Mt} (hm : isLm m = true) {μ : Mu} {H : Hp} {M : Store} {E : XK} {Q : VK} {a : PV} {as : List PV} (r : Rel X.K X.mg μ H M) (g : Good X.K X.mg fld (RV X.K) μ H M E Q (mtV m a as M)) : ∃ p xs, a = .loc p ∧ M[p]? = some (.lst xs) := by
  cases a with
  | loc p =>
    cases e : M[p]? with
    | none => unfold mtV at g; dsimp only at g; rw [e] at g; exact g.elim
    | some o =>
      cases o with
      | lst xs => exact ⟨p, xs, rfl, e⟩
      | frz xs => unfold mtV at g; dsimp only at g; rw [e] at g; exact g.elim
      | dct xs => exact (r.obj p _ e).elim
      | ins _ _ => unfold mtV at g; dsimp only at g; rw [e] at g; exact g.elim
  | str z => cases m <;> first | exact g.elim | cases hm
  | _ => exact g.elim
theorem mr_append : MtR X "list.append" (RmL X fld (mtV .append)) := by
  rintro pins s σ H x us v ws Q I rx rv ⟨E, μ, M, a, as, r, ha, has, g⟩
  obtain ⟨p, xs, rfl, e⟩ := recv_list (m := .append) rfl r g
  cases ha with
  | loc hp =>
    unfold mtV at g
    dsimp only at g
    rw [e] at g
    match as, has, g with
    | [b], has, g =>
      obtain ⟨u, rfl, hb⟩ := has.one
      have g : Good X.K X.mg fld (RV X.K) μ H M E Q (if xs.length < cap then .ok .non (M.set p (.lst (xs ++ [b]))) else .fail) := g
      by_cases c : xs.length < cap
      case neg => rw [if_neg c] at g; exact g.elim
      rw [if_pos c] at g
      obtain ⟨vs, z, q⟩ := r.lst e
      refine mt_append pins s σ H _ _ v ws Q I rx rv ⟨_, vs, u, rfl, rfl, z, by rw [q.length, ← cap_eq]; exact c, ?_⟩
      have st := (r.put (ob := .lst (xs ++ [b])) (o' := .lst (vs ++ [u])) hp z)
      refine g.put r hp z ⟨_, upd_same, ?_⟩ fun _ => .non
      have s0 : Step X.K μ H M μ (upd H (μ p) (.lst (vs ++ [u]))) (M.set p (.lst (xs ++ [b]))) := Step.put hp z fun ws => (r.obj p _ e).notup
      have z1 := (q.append (.cons hb .nil)).step s0
      rw [List.length_set] at z1
      exact z1
    | [], _, g => exact g.elim
    | _ :: _ :: _, _, g => exact g.elim
theorem mr_pop : MtR X "list.pop" (RmL X fld (mtV .pop)) := by
  rintro pins s σ H x us v ws Q I rx rv ⟨E, μ, M, a, as, r, ha, has, g⟩
  obtain ⟨p, xs, rfl, e⟩ := recv_list (m := .pop) rfl r g
  cases ha with
  | loc hp =>
    unfold mtV at g
    dsimp only at g
    rw [e] at g
    match as, has, g with
    | [], has, g =>
      cases has
      have g : Good X.K X.mg fld (RV X.K) μ H M E Q (match xs.getLast? with
        | some v => .ok v (M.set p (.lst xs.dropLast))
        | none => .fail) := g
      cases c : xs.getLast? with
      | none => rw [c] at g; exact g.elim
      | some b =>
        rw [c] at g
        obtain ⟨vs, z, q⟩ := r.lst e
        rw [List.getLast?_eq_getElem?] at c
        obtain ⟨u, c', hb⟩ := q.get c
        have s0 : Step X.K μ H M μ (upd H (μ p) (.lst vs.dropLast)) (M.set p (.lst xs.dropLast)) := Step.put hp z fun ws => (r.obj p _ e).notup
        refine mt_pop pins s σ H _ _ v ws Q I rx rv ⟨_, vs, u, rfl, rfl, z, by rw [q.length]; exact c', ?_⟩
        refine g.put r hp z ⟨_, upd_same, ?_⟩ fun s1 => hb.step s1
        have z1 := q.dropLast.step s0
        rw [List.length_set] at z1
        exact z1
    | _ :: _, _, g => exact g.elim
theorem ixN_seq' {n : Nat} {i : Int} {j : Nat} (h : Mini.ixN n i = some j) (hn : n ≤ cap) : seqIndex? i n = some j ∧ -(2 ^ 63) ≤ i ∧ i < 2 ^ 63 := by
  obtain ⟨a, b, c, d⟩ := L2.ixN_seq (show L2.ixN n i = some j from h)
  unfold cap at hn
  exact ⟨a, by omega, by omega⟩
theorem mr_popAt : MtR X "list.pop" (RmL X fld (mtV .popAt)) := by
  rintro pins s σ H x us v ws Q I rx rv ⟨E, μ, M, a, as, r, ha, has, g⟩
  obtain ⟨p, xs, rfl, e⟩ := recv_list (m := .popAt) rfl r g
  cases ha with
  | loc hp =>
    unfold mtV at g
    dsimp only at g
    rw [e] at g
    match as, has, g with
    | [], has, g => exact g.elim
    | b :: _ :: _, _, g => cases b <;> exact g.elim
    | [b], has, g =>
      cases b with
      | int i =>
        obtain ⟨u, rfl, hb⟩ := has.one
        cases hb
        have g : Good X.K X.mg fld (RV X.K) μ H M E Q (match Mini.ixN xs.length i with
          | some k => (match xs[k]? with
            | some v => .ok v (M.set p (.lst (xs.eraseIdx k)))
            | none => .fail)
          | none => .fail) := g
        cases c : Mini.ixN xs.length i with
        | none => rw [c] at g; exact g.elim
        | some k =>
          rw [c] at g
          dsimp only at g
          cases c2 : xs[k]? with
          | none => rw [c2] at g; exact g.elim
          | some b =>
            rw [c2] at g
            obtain ⟨vs, z, q⟩ := r.lst e
            obtain ⟨u, c', hb⟩ := q.get c2
            have hz : vs.length ≤ sizeLine := (I.hok _ _ z).1
            have s0 : Step X.K μ H M μ (upd H (μ p) (.lst (vs.eraseIdx k))) (M.set p (.lst (xs.eraseIdx k))) := Step.put hp z fun ws => (r.obj p _ e).notup
            obtain ⟨a1, a2, a3⟩ := ixN_seq' c (by rw [← q.length, cap_eq]; exact hz)
            refine mt_popAt pins s σ H _ _ v ws Q I rx rv ⟨_, vs, i, k, u, rfl, rfl, z, a2, a3, by rw [q.length]; exact a1, c', ?_⟩
            refine g.put r hp z ⟨_, upd_same, ?_⟩ fun s1 => hb.step s1
            have z1 := (q.eraseIdx k).step s0
            rw [List.length_set] at z1
            exact z1
      | _ => exact g.elim
theorem list_extend_tuple (l : Addr) (items : Array Value) (n : Nat) (b : Addr) (items2 : Array Value) (n2 : Nat) (dd : Option Addr) (sl : Array (Option Value)) (hs0 : ¬(!items.isEmpty && Builtin.List.listTooLong (items.size + items2.size)) = true) (hs1 : items.size ≤ sizeLine) (hs2 : items.size + items2.size ≤ sizeLine + 1) :
    Meets (Builtin.«list.extend» ⟨[.ref l, .ref b], []⟩) (fun _ R s => s.heap.get? l = some { cls := .type "list", dict := none, data := .seq items n, slots := #[] } ∧ s.heap.get? b = some { cls := .type "tuple", dict := dd, data := .seq items2 n2, slots := sl } ∧ R (.ok (.ret Value.none)) { s with heap := s.heap.update l (Obj.mapSeq fun x => x ++ items2), toks := s.toks }) :=
  .of_wp fun prog w A R s h => by
    obtain ⟨hp, g, d, tk, os⟩ := s; obtain ⟨hl, hb, h⟩ := h; have f1 := PySem.AutoSeq1.idx_int; have f2 := PySem.AutoSeq1.sub_tuple_tuple; have f3 := PySem.AutoSeq1.sub_list_list; have f4 := PySem.AutoSeq1.sub_tuple_list; have f5 := PySem.AutoSeq1.sub_list_tuple;
    have hz' : (items ++ items2).size ≤ sizeLine + 1 := by rw [Array.size_append]; exact hs2
    wp_walk using (wpAny_updateSeq hl rfl (hz := hs1) (_hz' := hz')), wpAny_loadPart' hl, wpAny_loadPart' hb; exact ⟨_, rfl, h⟩
/-- xs.extend(t), t a tuple -/
theorem mt_extendT : MtR X "list.extend" (fun x vs H Q => ∃ l b xs zs, x = .ref l ∧ vs = [.ref b] ∧ H l = some (.lst xs) ∧ SqT X.K H b zs ∧ xs.length + zs.length ≤ sizeLine ∧ Q .non (upd H l (.lst (xs ++ zs)))) := by
  intro pins s σ H x vs v us Q I rx rv h
  obtain ⟨l, b, xs, zs, rfl, rfl, hH, hB, hz, q⟩ := h
  cases rx
  obtain ⟨u, rfl, ru⟩ := rv.one
  cases ru
  obtain ⟨z, its, n, r, hl, e⟩ := I.lstM hH
  obtain ⟨its2, r2, ⟨⟨cls, dd, data, sls⟩, ho, hc, n2, hd⟩, hl2⟩ := I.tuple hB
  simp only at hc hd
  subst hc hd
  have hl3 := r2.length
  have hsz : its.toArray.size + its2.toArray.size ≤ sizeLine := by rw [List.size_toArray, List.size_toArray]; omega
  have hlong : ¬ (!its.toArray.isEmpty && Builtin.List.listTooLong (its.toArray.size + its2.toArray.size)) = true := by
    rw [notLongL hsz, Bool.and_false]
    exact Bool.false_ne_true
  refine call_meets F.slot_list_extend ⟨_, e, rfl⟩ F.entry_list_extend (F.args_list_extend_2 _ _)
    (list_extend_tuple l its.toArray n b its2.toArray n2 dd sls hlong (by rw [List.size_toArray]; omega) (by omega)) ⟨e, ho, ?_⟩
  refine ⟨.non, _, I.lset (its' := its ++ its2) hH e (by simp) (r.append r2) ?_, rfl, q⟩
  rw [List.length_append]
  omega
theorem mr_extend : MtR X "list.extend" (RmL X fld (mtV .extend)) := by
  rintro pins s σ H x us v ws Q I rx rv ⟨E, μ, M, a, as, r, ha, has, g⟩
  obtain ⟨p, xs, rfl, e⟩ := recv_list (m := .extend) rfl r g
  cases ha with
  | loc hp =>
    unfold mtV at g
    dsimp only at g
    rw [e] at g
    match as, has, g with
    | [], has, g => exact g.elim
    | _ :: _ :: _, _, g => exact g.elim
    | [b], has, g =>
      obtain ⟨u, rfl, hb⟩ := has.one
      have g : Good X.K X.mg fld (RV X.K) μ H M E Q (match seqX b M with
        | some ys => if xs.length + ys.length ≤ cap ∧ b ≠ .loc p then .ok .non (M.set p (.lst (xs ++ ys))) else .fail
        | none => .fail) := g
      cases c : seqX b M with
      | none => rw [c] at g; exact g.elim
      | some ys =>
        rw [c] at g
        dsimp only at g
        by_cases c2 : xs.length + ys.length ≤ cap ∧ b ≠ .loc p
        case neg => rw [if_neg c2] at g; exact g.elim
        rw [if_pos c2] at g
        obtain ⟨vs, z, q⟩ := r.lst e
        have fin : ∀ zs : List V, Reps X.K μ H M.length zs ys → Q .non (upd H (μ p) (.lst (vs ++ zs))) := fun zs qz => by
          have s0 : Step X.K μ H M μ (upd H (μ p) (.lst (vs ++ zs))) (M.set p (.lst (xs ++ ys))) := Step.put hp z fun ws => (r.obj p _ e).notup
          refine g.put r hp z ⟨_, upd_same, ?_⟩ fun _ => .non
          have z1 := (q.append qz).step s0
          rw [List.length_set] at z1
          exact z1
        cases hb with
        | @tup pt zs ys' h1 q1 =>
          have c : some ys' = some ys := c
          cases c
          exact mt_extendT pins s σ H _ _ v ws Q I rx rv ⟨_, pt, vs, zs, rfl, rfl, z, h1, by rw [q.length, q1.length, ← cap_eq]; exact c2.1, fin zs q1⟩
        | @loc k hk =>
          cases e2 : M[k]? with
          | none => unfold seqX at c; dsimp only at c; rw [e2] at c; cases c
          | some o =>
            unfold seqX at c
            dsimp only at c
            rw [e2] at c
            cases o with
            | lst ys' =>
              cases c
              obtain ⟨zs, z2, q2⟩ := r.lst e2
              exact mt_extend pins s σ H _ _ v ws Q I rx rv ⟨_, _, vs, zs, rfl, rfl, z, z2, by rw [q.length, q2.length, ← cap_eq]; exact c2.1, fin zs q2⟩
            | frz ys' => cases c
            | _ => cases c
        | _ => cases c
theorem mr_reverse : MtR X "list.reverse" (RmL X fld (mtV .reverse)) := by
  rintro pins s σ H x us v ws Q I rx rv ⟨E, μ, M, a, as, r, ha, has, g⟩
  obtain ⟨p, xs, rfl, e⟩ := recv_list (m := .reverse) rfl r g
  cases ha with
  | loc hp =>
    unfold mtV at g
    dsimp only at g
    rw [e] at g
    match as, has, g with
    | [], has, g =>
      cases has
      have g : Good X.K X.mg fld (RV X.K) μ H M E Q (.ok .non (M.set p (.lst xs.reverse))) := g
      obtain ⟨vs, z, q⟩ := r.lst e
      have s0 : Step X.K μ H M μ (upd H (μ p) (.lst vs.reverse)) (M.set p (.lst xs.reverse)) := Step.put hp z fun ws => (r.obj p _ e).notup
      refine mt_reverse pins s σ H _ _ v ws Q I rx rv ⟨_, vs, rfl, rfl, z, ?_⟩
      refine g.put r hp z ⟨_, upd_same, ?_⟩ fun s1 => .non
      have z1 := q.reverse.step s0
      rw [List.length_set] at z1
      exact z1
    | _ :: _, _, g => exact g.elim
theorem mr_clear : MtR X "list.clear" (RmL X fld (mtV .clear)) := by
  rintro pins s σ H x us v ws Q I rx rv ⟨E, μ, M, a, as, r, ha, has, g⟩
  obtain ⟨p, xs, rfl, e⟩ := recv_list (m := .clear) rfl r g
  cases ha with
  | loc hp =>
    unfold mtV at g
    dsimp only at g
    rw [e] at g
    match as, has, g with
    | [], has, g =>
      cases has
      have g : Good X.K X.mg fld (RV X.K) μ H M E Q (.ok .non (M.set p (.lst []))) := g
      obtain ⟨vs, z, q⟩ := r.lst e
      refine mt_clear pins s σ H _ _ v ws Q I rx rv ⟨_, vs, rfl, rfl, z, ?_⟩
      exact g.put r hp z ⟨_, upd_same, .nil⟩ fun s1 => .non
    | _ :: _, _, g => exact g.elim
end
end Mini

set_option autoImplicit false
set_option linter.all false
set_option maxRecDepth 100000
/-! Mini5: readings of subscripts, calls, methods, fields, isinstance, comprehensions, targets, statements. -/
namespace Mini
open PySem PySem.Spec L2
open PyProof.Rows hiding St
section
variable {X : Cx} {fld : Str → Option Str} {hx : Hx} {W : WX} {w : Wld} {a b c e i lo hi : Expr} {ca cb cc ci clo chi : E} {pos p p2 apos : Pos} {es : List Expr} {ces : Es} {x : Str}

theorem le_bad : PE X e (LE X fld hx W (denE w .bad)) := ⟨fun _ _ _ _ _ _ ⟨_, _, _, _, _, q⟩ => q.elim⟩

/-! ### and, or -/
theorem le_one {o} (h : PE X a (LE X fld hx W (denE w ca))) : PE X (.BoolOp o [a] pos) (LE X fld hx W (denE w ca)) := pe_one h
theorem le_and (ha : PE X a (LE X fld hx W (denE w ca))) (hb : PE X (.BoolOp .And (b :: es) pos) (LE X fld hx W (denE w cb))) : PE X (.BoolOp .And (a :: b :: es) pos) (LE X fld hx W (denE w (.and ca cb))) :=
  PE.weak (pe_and ha hb) fun σ H Q q => w_andV q
theorem le_or (ha : PE X a (LE X fld hx W (denE w ca))) (hb : PE X (.BoolOp .Or (b :: es) pos) (LE X fld hx W (denE w cb))) : PE X (.BoolOp .Or (a :: b :: es) pos) (LE X fld hx W (denE w (.or ca cb))) :=
  PE.weak (pe_or ha hb) fun σ H Q q => w_orV q
theorem lw_and1 (ha : PT X a (LT X fld hx W (toT (denE w ca)))) : PW X (.BoolOp .And [a] pos) (LT X fld hx W (toT (denE w ca))) := pw_and1 ha
theorem lw_or1 (ha : PT X a (LT X fld hx W (toT (denE w ca)))) : PW X (.BoolOp .Or [a] pos) (LT X fld hx W (toT (denE w ca))) := pw_or1 ha
theorem lw_and (ha : PT X a (LT X fld hx W (toT (denE w ca)))) (hb : PW X (.BoolOp .And (b :: es) pos) (LT X fld hx W (toT (denE w cb)))) : PW X (.BoolOp .And (a :: b :: es) pos) (LT X fld hx W (toT (denE w (.and ca cb)))) :=
  PW.weak (pw_and ha hb) fun σ H Q q => w_and q
theorem lw_or (ha : PT X a (LT X fld hx W (toT (denE w ca)))) (hb : PW X (.BoolOp .Or (b :: es) pos) (LT X fld hx W (toT (denE w cb)))) : PW X (.BoolOp .Or (a :: b :: es) pos) (LT X fld hx W (toT (denE w (.or ca cb)))) :=
  PW.weak (pw_or ha hb) fun σ H Q q => w_or q

/-! ### subscripts -/
theorem le_ix (ha : PE X a (LE X fld hx W (denE w ca))) (hi : PE X i (LE X fld hx W (denE w ci))) (hs : PlainIx i) : PE X (.Subscript a i pos) (LE X fld hx W (denE w (.ix ca ci))) := by
  refine PE.weak (pe_ix (ir_ix (fld := fld)) ha hi hs) fun σ H Q ⟨μ, M, σ', r, e, q⟩ => ?_
  unfold denE at q
  exact w_two ⟨μ, M, σ', r, e, q⟩
/-- a slice's part -/
theorem w_part {f : Env → Store → Out PV} {α β : Type} {R : Mu → Hp → Store → β → α → Prop} {σ : St} {H : Hp} {μ : Mu} {M : Store} {σ' : Env} {k : Int → Store → Out α} {Q : β → Hp → Prop} (r : Rel X.K X.mg μ H M) (e : EnvR X.K X.mg fld hx μ H M σ σ')
    (q : Good X.K X.mg fld R μ H M (WE W σ) Q (((f σ' M).bind fun y M => opt M (intV y)).bind k)) :
    tPart (LE X fld hx W f) σ H (fun o H₁ => ∃ μ₁ M₁ j, Step X.K μ H M μ₁ H₁ M₁ ∧ Rel X.K X.mg μ₁ H₁ M₁ ∧ EnvR X.K X.mg fld hx μ₁ H₁ M₁ σ σ' ∧ o = some j ∧ Good X.K X.mg fld R μ₁ H₁ M₁ (WE W σ) Q (k j M₁)) := by
  have q' : Good X.K X.mg fld R μ H M (WE W σ) Q ((f σ' M).bind fun y M => (opt M (intV y)).bind k) := by
    cases h : f σ' M with
    | ok v M' => rw [h] at q; exact q
    | exc c fs M' => rw [h] at q; exact q
    | fail => rw [h] at q; exact q
  obtain ⟨μ1, M1, τ, r1, e1, g1⟩ := LE.bind r e q'
  refine ⟨μ1, M1, τ, r1, e1, g1.mono (fun u H2 ⟨μ2, M2, v, s2, r2, e2, rv, _, g2⟩ => ?_) fun _ _ _ z => z⟩
  cases rv with
  | int j => exact ⟨j, rfl, μ2, M2, j, s2, r2, e2, rfl, g2⟩
  | _ => exact g2.elim
theorem le_sl (ha : PE X a (LE X fld hx W (denE w ca))) (hl : PE X lo (LE X fld hx W (denE w clo))) (hh : PE X hi (LE X fld hx W (denE w chi))) : PE X (.Subscript a (.Slice (some lo) (some hi) none p2) pos) (LE X fld hx W (denE w (.sl ca clo chi))) := by
  refine PE.weak (pe_slice (sr_sl (fld := fld)) ha (po_some hl) (po_some hh)) fun σ H Q ⟨μ, M, σ', r, e, q⟩ => ?_
  unfold denE at q
  obtain ⟨μ1, M1, τ, r1, e1, g1⟩ := LE.bind r e q
  refine ⟨μ1, M1, τ, r1, e1, g1.mono (fun u H2 ⟨μ2, M2, v, s2, r2, e2, rv, _, g2⟩ => ?_) fun _ _ _ z => z⟩
  obtain ⟨μ3, M3, τ3, r3, e3, g3⟩ := w_part r2 e2 g2
  refine ⟨μ3, M3, τ3, r3, e3, g3.mono (fun u' H4 ⟨j, ej, μ4, M4, j', s4, r4, e4, ej', g4⟩ => ⟨j, ej, ?_⟩) fun _ _ _ z => z⟩
  cases ej'
  obtain ⟨μ5, M5, τ5, r5, e5, g5⟩ := w_part r4 e4 g4
  refine ⟨μ5, M5, τ5, r5, e5, g5.mono (fun u' H6 ⟨l, el, μ6, M6, l', s6, r6, e6, el', g6⟩ => ⟨l, el, ?_⟩) fun _ _ _ z => z⟩
  cases el'
  exact ⟨_, μ6, M6, v, r6, (rv.step s4).step s6, g6⟩
theorem le_slL (ha : PE X a (LE X fld hx W (denE w ca))) (hl : PE X lo (LE X fld hx W (denE w clo))) : PE X (.Subscript a (.Slice (some lo) none none p2) pos) (LE X fld hx W (denE w (.slL ca clo))) := by
  refine PE.weak (pe_slice (sr_sl (fld := fld)) ha (po_some hl) po_none) fun σ H Q ⟨μ, M, σ', r, e, q⟩ => ?_
  unfold denE at q
  obtain ⟨μ1, M1, τ, r1, e1, g1⟩ := LE.bind r e q
  refine ⟨μ1, M1, τ, r1, e1, g1.mono (fun u H2 ⟨μ2, M2, v, s2, r2, e2, rv, _, g2⟩ => ?_) fun _ _ _ z => z⟩
  obtain ⟨μ3, M3, τ3, r3, e3, g3⟩ := w_part r2 e2 g2
  refine ⟨μ3, M3, τ3, r3, e3, g3.mono (fun u' H4 ⟨j, ej, μ4, M4, j', s4, r4, e4, ej', g4⟩ => ⟨j, ej, ?_⟩) fun _ _ _ z => z⟩
  cases ej'
  exact ⟨_, μ4, M4, v, r4, rv.step s4, g4⟩
theorem le_slH (ha : PE X a (LE X fld hx W (denE w ca))) (hh : PE X hi (LE X fld hx W (denE w chi))) : PE X (.Subscript a (.Slice none (some hi) none p2) pos) (LE X fld hx W (denE w (.slH ca chi))) := by
  refine PE.weak (pe_slice (sr_sl (fld := fld)) ha po_none (po_some hh)) fun σ H Q ⟨μ, M, σ', r, e, q⟩ => ?_
  unfold denE at q
  obtain ⟨μ1, M1, τ, r1, e1, g1⟩ := LE.bind r e q
  refine ⟨μ1, M1, τ, r1, e1, g1.mono (fun u H2 ⟨μ2, M2, v, s2, r2, e2, rv, _, g2⟩ => ?_) fun _ _ _ z => z⟩
  obtain ⟨μ3, M3, τ3, r3, e3, g3⟩ := w_part r2 e2 g2
  refine ⟨μ3, M3, τ3, r3, e3, g3.mono (fun u' H4 ⟨j, ej, μ4, M4, j', s4, r4, e4, ej', g4⟩ => ⟨j, ej, ?_⟩) fun _ _ _ z => z⟩
  cases ej'
  exact ⟨_, μ4, M4, v, r4, rv.step s4, g4⟩
theorem le_slA (ha : PE X a (LE X fld hx W (denE w ca))) : PE X (.Subscript a (.Slice none none none p2) pos) (LE X fld hx W (denE w (.slA ca))) := by
  refine PE.weak (pe_slice (sr_sl (fld := fld)) ha po_none po_none) fun σ H Q ⟨μ, M, σ', r, e, q⟩ => ?_
  unfold denE at q
  obtain ⟨μ1, M1, τ, r1, e1, g1⟩ := LE.bind r e q
  refine ⟨μ1, M1, τ, r1, e1, g1.mono (fun u H2 ⟨μ2, M2, v, s2, r2, e2, rv, _, g2⟩ => ?_) fun _ _ _ z => z⟩
  exact ⟨_, μ2, M2, v, r2, rv, g2⟩

/-! ### calls of built-ins -/
theorem w_args {f : List PV → Store → Out PV} {σ : St} {H : Hp} {Q : VK} (q : LE X fld hx W (fun σ M => gc M ((denEs w ces σ M).bind f)) σ H Q) :
    LA X fld hx W (denEs w ces) σ H (fun us H' => ∃ μ M vs, Rel X.K X.mg μ H' M ∧ Reps X.K μ H' M.length us vs ∧ vs.length = ces.len ∧ Good X.K X.mg fld (RV X.K) μ H' M (WE W σ) Q (f vs M)) := by
  obtain ⟨μ, M, σ', r, e, q⟩ := q
  obtain ⟨μ1, M1, τ, r1, e1, g1⟩ := LA.bind r e (Good.gc r q)
  exact ⟨μ1, M1, τ, r1, e1, g1.mono (fun u H2 ⟨μ2, M2, v, s2, r2, e2, rv, ev, g2⟩ => ⟨μ2, M2, v, r2, rv, denEs_len ev, g2⟩) fun _ _ _ z => z⟩
theorem le_bi {id : String} {k : Bi} (hc : CallR X (.builtin id) (RsL X fld (biV k))) (hg : Gl X x) (hm : X.mg x = none) (hv : bootBuiltins x = some (.builtin id)) (ha : PA X (e :: es) (LA X fld hx W (denEs w ces))) (hn : x ≠ "__name__") (hdb : (x == ("__debug__" : Str)) = false)
    (he : starEach (e :: es) X.env = (false, eval e X.env) :: starEach es X.env) (hpl : (backTo pos (starEach es X.env)).any (·.1) = false) : PE X (.Call (.Name x p) (e :: es) [] pos) (LE X fld hx W (denE w (.bi k ces))) := by
  refine PE.weak (pe_callB hc hg hm hv ha hn hdb he hpl) fun σ H Q ⟨μ, M, σ', r, en, q⟩ => ?_
  unfold denE at q
  obtain ⟨μ1, M1, τ, r1, e1, g1⟩ := w_args ⟨μ, M, σ', r, en, q⟩
  exact ⟨μ1, M1, τ, r1, e1, g1.mono (fun u H2 ⟨μ2, M2, v, r2, rv, _, g2⟩ => ⟨_, μ2, M2, v, r2, rv, g2⟩) fun _ _ _ z => z⟩
theorem le_biT {id : String} {k : Bi} (hc : CallR X (.type id) (RsL X fld (biV k))) (hg : Gl X x) (hm : X.mg x = none) (hv : bootBuiltins x = some (.type id)) (ha : PA X (e :: es) (LA X fld hx W (denEs w ces))) (hn : x ≠ "__name__") (hdb : (x == ("__debug__" : Str)) = false)
    (he : starEach (e :: es) X.env = (false, eval e X.env) :: starEach es X.env) (hpl : (backTo pos (starEach es X.env)).any (·.1) = false) : PE X (.Call (.Name x p) (e :: es) [] pos) (LE X fld hx W (denE w (.bi k ces))) := by
  refine PE.weak (pe_callTy hc hg hm hv ha hn hdb he hpl) fun σ H Q ⟨μ, M, σ', r, en, q⟩ => ?_
  unfold denE at q
  obtain ⟨μ1, M1, τ, r1, e1, g1⟩ := w_args ⟨μ, M, σ', r, en, q⟩
  exact ⟨μ1, M1, τ, r1, e1, g1.mono (fun u H2 ⟨μ2, M2, v, r2, rv, _, g2⟩ => ⟨_, μ2, M2, v, r2, rv, g2⟩) fun _ _ _ z => z⟩

/-! ### methods of built-ins -/
def Mt.ty : Mt → String
  | .join => "str" | .split => "str" | .isdigit => "str" | .upper => "str" | .get => "dict" | .get2 => "dict" | _ => "list"
theorem tyV_of {m : Mt} {T : String} (hT : T = Mt.ty m) {μ : Mu} {H : Hp} {M : Store} (r : Rel X.K X.mg μ H M) {u : V} {v : PV} (rv : Rep X.K μ H M.length u v) (h : mtOk m v M = true) : tyV X.K T u H := by
  subst hT
  unfold mtOk at h
  cases m with
  | get | get2 =>
    cases rv with
    | @loc k hk =>
      cases e : M[k]? with
      | none => simp [e] at h
      | some o =>
        cases o with
        | dct _ => exact (r.obj k _ e).elim
        | _ => simp [e] at h
    | _ => cases h
  | join | split | isdigit | upper =>
    cases rv with
    | str z => rfl
    | _ => cases h
  | _ =>
    cases rv with
    | @loc k hk =>
      cases e : M[k]? with
      | none => simp [e] at h
      | some o =>
        cases o with
        | lst xs =>
          obtain ⟨vs, z, _⟩ := r.lst e
          exact .inl ⟨rfl, vs, .inl (.inl z)⟩
        | _ => simp [e] at h
    | _ => cases h
theorem le_mt {m : Mt} {T id : String} {name : Str} (hT : T = Mt.ty m) (pa : PlainAttrs T) (slot : Slot T name id) (hty : typeOf (.builtin id) = pure (.type "method_descriptor"))
    (hm : MtR X id (RmL X fld (mtV m))) (ho : PE X a (LE X fld hx W (denE w ca))) (ha : PA X (e :: es) (LA X fld hx W (denEs w ces)))
    (hbase : attributeBase a name X.env (eval a X.env) = eval a X.env)
    (hfew : ((backTo pos (starEach (e :: es) X.env)).all (fun x => !x.1) && (backToKw pos (keywordEach [] X.env)).all (fun x => x.1.isSome)
      && decide ((e :: es).length + ([] : List Keyword).length + (if ([] : List Keyword).isEmpty then 0 else 1) < 30)) = true)
    (hline : (apos.endLine == pos.line) = true) (hs : starEach (e :: es) X.env = (false, eval e X.env) :: starEach es X.env) (hplain : (backTo pos (starEach es X.env)).any (·.1) = false) :
    PE X (.Call (.Attribute a name apos) (e :: es) [] pos) (LE X fld hx W (denE w (.mt m ca ces))) := by
  refine PE.weak (pe_bm pa slot hty hm ho ha hbase hfew hline hs hplain) fun σ H Q ⟨μ, M, σ', r, en, q⟩ => ?_
  unfold denE at q
  obtain ⟨μ1, M1, τ, r1, e1, g1⟩ := LE.bind r en (Good.gc r q)
  refine ⟨μ1, M1, τ, r1, e1, g1.mono (fun u H2 ⟨μ2, M2, v, s2, r2, e2, rv, _, g2⟩ => ?_) fun _ _ _ z => z⟩
  by_cases c : mtOk m v M2 = true
  case neg => rw [if_neg c] at g2; exact g2.elim
  rw [if_pos c] at g2
  refine ⟨tyV_of hT r2 rv c, ?_⟩
  obtain ⟨μ3, M3, τ3, r3, e3, g3⟩ := LA.bind r2 e2 g2
  exact ⟨μ3, M3, τ3, r3, e3, g3.mono (fun us H4 ⟨μ4, M4, vs, s4, r4, e4, rvs, _, g4⟩ => ⟨_, μ4, M4, v, vs, r4, rv.step s4, rvs, g4⟩) fun _ _ _ z => z⟩
theorem le_mt0 {m : Mt} {T id : String} {name : Str} (hT : T = Mt.ty m) (pa : PlainAttrs T) (slot : Slot T name id) (hty : typeOf (.builtin id) = pure (.type "method_descriptor"))
    (hm : MtR X id (RmL X fld (mtV m))) (ho : PE X a (LE X fld hx W (denE w ca)))
    (hbase : attributeBase a name X.env (eval a X.env) = eval a X.env) (hline : (apos.endLine == pos.line) = true) :
    PE X (.Call (.Attribute a name apos) [] [] pos) (LE X fld hx W (denE w (.mt m ca .nil))) := by
  refine PE.weak (pe_bm0 pa slot hty hm ho hbase hline) fun σ H Q ⟨μ, M, σ', r, en, q⟩ => ?_
  unfold denE at q
  obtain ⟨μ1, M1, τ, r1, e1, g1⟩ := LE.bind r en (Good.gc r q)
  refine ⟨μ1, M1, τ, r1, e1, g1.mono (fun u H2 ⟨μ2, M2, v, s2, r2, e2, rv, _, g2⟩ => ?_) fun _ _ _ z => z⟩
  by_cases c : mtOk m v M2 = true
  case neg => rw [if_neg c] at g2; exact g2.elim
  rw [if_pos c] at g2
  refine ⟨tyV_of hT r2 rv c, ?_⟩
  unfold denEs at g2
  exact ⟨_, μ2, M2, v, [], r2, rv, .nil, g2⟩

/-! ### own defs -/
/-- a def's promise: it computes f -/
def SpF (K : PySem.W.Frag) (mg : Str → Option Value) (fld : Str → Option Str) (n : Nat) (f : List PV → Store → Out PV) : Sp := fun vs H Q E =>
  ∃ μ M as, Rel K mg μ H M ∧ Reps K μ H M.length vs as ∧ as.length = n ∧ Good K mg fld (RV K) μ H M E Q (f as M)
theorem le_call {k n : Nat} {f : Addr} {fd : FuncData} {ps : List Str} (F : FnOk X.prog X.w X.K X.mg X.base (L2.CX X.prog X.w) k f fd ps (SpF X.K X.mg fld n (w.call x))) (hr : Room k X.A) (hg : Gl X x) (hm : X.mg x = some (.ref f)) (hk : PySem.W.keepIn X.K (.ref f) = true) (hb : Binds X.K fd ps []) (tk : Takes X W)
    (ha : PA X (e :: es) (LA X fld hx W (denEs w ces))) (hl : ces.len = n) (hdb : (x == ("__debug__" : Str)) = false) (he : starEach (e :: es) X.env = (false, eval e X.env) :: starEach es X.env) (hpl : (backTo pos (starEach es X.env)).any (·.1) = false) :
    PE X (.Call (.Name x p) (e :: es) [] pos) (LE X fld hx W (denE w (.call x ces))) := by
  refine PE.weak (pe_callS F hr hg hm hk hb (passAt tk) ha hdb he hpl) fun σ H Q ⟨μ, M, σ', r, en, q⟩ => ?_
  unfold denE at q
  obtain ⟨μ1, M1, τ, r1, e1, g1⟩ := w_args ⟨μ, M, σ', r, en, q⟩
  exact ⟨μ1, M1, τ, r1, e1, g1.mono (fun u H2 ⟨μ2, M2, v, r2, rv, l, g2⟩ => ⟨μ2, M2, v, r2, rv, l.trans hl, g2⟩) fun _ _ _ z => z⟩
theorem pe_callS0 {CX : CXT} {k : Nat} {f : Addr} {fd : FuncData} {ps : List Str} {sp : Sp} {E : St → XK} (F : FnOk X.prog X.w X.K X.mg X.base CX k f fd ps sp) (hr : Room k X.A) (hg : Gl X x) (hm : X.mg x = some (.ref f)) (hk : PySem.W.keepIn X.K (.ref f) = true) (hb : Binds X.K fd ps []) (hx : ∀ σ, PassesAt CX X σ (E σ))
    (hdb : (x == ("__debug__" : Str)) = false) : PE X (.Call (.Name x p) [] [] pos) (tCallS sp E tNil) := by
  refine ⟨fun pins s σ H Q I h => ?_⟩
  refine wpAny_Call_Name_kw (ld_glob I hg hm ?_ hdb)
  exact PySem.W.callWith_K0 I.kIn hk (run_fnS (us := []) F hr hb (hx σ) I .nil h)
theorem le_call0 {k : Nat} {f : Addr} {fd : FuncData} {ps : List Str} (F : FnOk X.prog X.w X.K X.mg X.base (L2.CX X.prog X.w) k f fd ps (SpF X.K X.mg fld 0 (w.call x))) (hr : Room k X.A) (hg : Gl X x) (hm : X.mg x = some (.ref f)) (hk : PySem.W.keepIn X.K (.ref f) = true) (hb : Binds X.K fd ps []) (tk : Takes X W)
    (hdb : (x == ("__debug__" : Str)) = false) : PE X (.Call (.Name x p) [] [] pos) (LE X fld hx W (denE w (.call x .nil))) := by
  refine PE.weak (pe_callS0 F hr hg hm hk hb (passAt tk) hdb) fun σ H Q ⟨μ, M, σ', r, en, q⟩ => ?_
  unfold denE denEs at q
  exact ⟨μ, M, [], r, .nil, rfl, Good.gc r q⟩

/-! ### instances -/
def tMakeS (C : Addr) (sp : Sp) (E : St → XK) (t : TA) : TE := fun σ H Q => t σ H fun vs H1 => ∀ x dx, H1 x = none → H1 dx = none → dx ≠ x →
  sp (.ref x :: vs) (upd (upd H1 dx (.own x)) x (.ins C dx [])) (fun v H2 => v = .non ∧ Q (.ref x) H2) (E σ)
theorem pe_makeS {CX : CXT} {k : Nat} {f C : Addr} {fd : FuncData} {ps : List Str} {sp : Sp} {E : St → XK} {t : TA} (Mx : Mk X.K C f) (F : FnOk X.prog X.w X.K X.mg X.base CX k f fd ps sp) (hr : Room (k + 1) X.A) (hg : Gl X x) (hm : X.mg x = some (.ref C)) (hb : Binds X.K fd ps []) (hx : ∀ σ, PassesAt CX X σ (E σ))
    (ha : PA X (e :: es) t) (hdb : (x == ("__debug__" : Str)) = false) (he : starEach (e :: es) X.env = (false, eval e X.env) :: starEach es X.env) (hpl : (backTo pos (starEach es X.env)).any (·.1) = false) :
    PE X (.Call (.Name x p) (e :: es) [] pos) (tMakeS C sp E t) := by
  refine ⟨fun pins s σ H Q I h => ?_⟩
  refine wpAny_Call_Name_kw (ld_glob I hg hm ?_ hdb)
  refine PySem.W.callWith_K (h₀ := X.base) I.ok.mod.kin Mx.kp (thn (ha.run pos pins s σ H _ I h) fun us s1 ⟨vs, H1, I1, r, q⟩ => ⟨I1.kIn, ?_⟩) he hpl
  have hq := q (s1.heap.objs.size + 1) s1.heap.objs.size (I1.hok.fresh (Nat.le_succ _)) (I1.hok.fresh (Nat.le_refl _)) (Nat.ne_of_lt (Nat.lt_succ_self _))
  have I2 := Inv.made (C := C) I1
  have r2 : Vals (V.ref (s1.heap.objs.size + 1) :: vs) (Value.ref (s1.heap.objs.size + 1) :: us) := .cons rfl r
  have hl : (Value.ref (s1.heap.objs.size + 1) :: us ++ []).length = ps.length := by
    have z := r2.length
    rw [F.len _ _ _ _ hq] at z
    rw [List.append_nil]
    exact z.symm
  have hbb := hb _ (Value.ref (s1.heap.objs.size + 1) :: us) I2.kIn hl
  rw [List.append_nil] at hbb
  refine wpAny_call (make_map (f := f) I1.kIn Mx.makes Mx.init (beq_iff_eq.mp Mx.fn) (codeAny_mono (F.run _ X.stack _ _ ⟨Value.ref (s1.heap.objs.size + 1) :: us, []⟩ (Value.ref (s1.heap.objs.size + 1) :: us) _ _ (E σ) (hr.make C us [])
    (I2.env0.make C us []) hbb r2 hq) fun r s' hq' => ?_))
  cases r with
  | error e => exact hx σ pins _ _ e s' I2 hq'
  | ok fl =>
    cases fl with
    | ret u =>
      obtain ⟨v, H', I3, rv, ev, q3⟩ := I2.after hq'
      subst ev
      exact ⟨rv, ⟨V.ref (s1.heap.objs.size + 1), H', I3, rfl, q3⟩⟩
    | next => exact False.elim hq'
    | brk => exact False.elim hq'
    | cont => exact False.elim hq'
theorem le_new {k n : Nat} {f C : Addr} {fd : FuncData} {ps : List Str} (Mx : Mk X.K C f) (F : FnOk X.prog X.w X.K X.mg X.base (L2.CX X.prog X.w) k f fd ps (SpF X.K X.mg fld (n + 1) (w.call (x ++ (".__init__" : Str))))) (hr : Room (k + 1) X.A) (hg : Gl X x) (hm : X.mg x = some (.ref C)) (hb : Binds X.K fd ps []) (tk : Takes X W)
    (ha : PA X (e :: es) (LA X fld hx W (denEs w ces))) (hl : ces.len = n) (hdb : (x == ("__debug__" : Str)) = false) (he : starEach (e :: es) X.env = (false, eval e X.env) :: starEach es X.env) (hpl : (backTo pos (starEach es X.env)).any (·.1) = false) :
    PE X (.Call (.Name x p) (e :: es) [] pos) (LE X fld hx W (denE w (.new x ces))) := by
  refine PE.weak (pe_makeS Mx F hr hg hm hb (passAt tk) ha hdb he hpl) fun σ H Q ⟨μ, M, σ', r, en, q⟩ => ?_
  unfold denE at q
  obtain ⟨μ1, M1, τ, r1, e1, g1⟩ := w_args ⟨μ, M, σ', r, en, q⟩
  refine ⟨μ1, M1, τ, r1, e1, g1.mono (fun us H2 ⟨μ2, M2, vs, r2, rv, l, g2⟩ => fun y dx hy hdx hne => ?_) fun _ _ _ z => z⟩
  have keep1 : ∀ a o, H2 a = some o → upd H2 dx (.own y) a = some o := fun a o z => by rw [upd_ne (ne_of_none z hdx)]; exact z
  have hy1 : upd H2 dx (.own y) y = none := by rw [upd_ne (Ne.symm hne)]; exact hy
  have keep2 : ∀ a o, H2 a = some o → upd (upd H2 dx (.own y)) y (.ins C dx []) a = some o := fun a o z => by rw [upd_ne (ne_of_none z hy)]; exact keep1 a o z
  have st : Step X.K μ2 H2 M2 (ext μ2 M2.length y) (upd (upd H2 dx (.own y)) y (.ins C dx [])) (M2 ++ [.ins x []]) := Step.lay hy keep2
  have ln : (M2 ++ [PO.ins x []]).length = M2.length + 1 := by rw [List.length_append]; rfl
  have rl : Rel X.K X.mg (ext μ2 M2.length y) (upd (upd H2 dx (.own y)) y (.ins C dx [])) (M2 ++ [.ins x []]) := r2.lay hy keep2 ⟨C, dx, [], hm, upd_same, .nil⟩
  have me : Rep X.K (ext μ2 M2.length y) (upd (upd H2 dx (.own y)) y (.ins C dx [])) (M2 ++ [PO.ins x []]).length (.ref y) (.loc M2.length) := by
    have z : Rep X.K (ext μ2 M2.length y) (upd (upd H2 dx (.own y)) y (.ins C dx [])) (M2 ++ [PO.ins x []]).length (.ref (ext μ2 M2.length y M2.length)) (.loc M2.length) := .loc (by rw [ln]; exact Nat.lt_succ_self _)
    rw [ext_at] at z
    exact z
  refine ⟨_, _, .loc M2.length :: vs, rl, .cons me (rv.step st), by rw [List.length_cons, l, hl], ?_⟩
  refine (Good.bind (R := RV X.K) (g2.step st)).mono (fun v H3 ⟨μ3, M3, z, s3, r3, rz, _, g3⟩ => ?_) fun _ _ _ z => z
  by_cases c : z = .non
  case neg => rw [if_neg c] at g3; exact g3.elim
  rw [if_pos c] at g3
  subst c
  cases rz
  exact ⟨rfl, g3.now r3 (me.step s3)⟩
/-! ### fields -/
theorem le_fld {cs : List Str} {f : Str} (ha : PE X a (LE X fld hx W (denE w ca))) (hb : attributeBase a f X.env (eval a X.env) = eval a X.env) (hc : ∀ c ∈ cs, ∀ C, X.mg c = some (.ref C) → Cls X.K C ∧ NoAttr X.K C f) :
    PE X (.Attribute a f pos) (LE X fld hx W (denE w (.fld ca cs f))) := by
  refine PE.weak (pe_fld ha hb) fun σ H Q ⟨μ, M, σ', r, e, q⟩ => ?_
  unfold denE at q
  obtain ⟨μ1, M1, τ, r1, e1, g1⟩ := LE.bind r e q
  refine ⟨μ1, M1, τ, r1, e1, g1.mono (fun u H2 ⟨μ2, M2, v, s2, r2, e2, rv, _, g2⟩ => ?_) fun _ _ _ z => z⟩
  cases rv with
  | @loc k hk =>
    unfold fldV at g2
    dsimp only at g2
    cases e3 : M2[k]? with
    | none => rw [e3] at g2; exact g2.elim
    | some o =>
      rw [e3] at g2
      cases o with
      | ins c fs =>
        dsimp only at g2
        by_cases hcs : c ∈ cs
        case neg => rw [if_neg hcs] at g2; exact g2.elim
        rw [if_pos hcs] at g2
        obtain ⟨C, dx, vs, hm, hH, hf⟩ := r2.obj k _ e3
        cases e4 : fs.lookup f with
        | none => rw [e4] at g2; exact g2.elim
        | some y =>
          rw [e4] at g2
          obtain ⟨u', e5, ru⟩ := hf.look e4
          obtain ⟨h1, h2⟩ := hc c hcs C hm
          exact ⟨_, C, dx, vs, u', rfl, hH, h1, h2, e5, g2.now r2 ru⟩
      | _ => exact g2.elim
  | _ => exact g2.elim
end
end Mini

set_option autoImplicit false
set_option linter.all false
set_option maxRecDepth 100000
/-! Mini6: isinstance; what is walked; targets; comprehensions. -/
namespace Mini
open PySem PySem.Spec L2
open PyProof.Rows hiding St

/-! ### isinstance -/
def Ty.name : Ty → Str
  | .int => "int" | .bool => "bool" | .str => "str" | .tuple => "tuple" | .list => "list" | .dict => "dict" | .cls c => c
def Ty.val (mg : Str → Option Value) : Ty → Value
  | .int => .type "int" | .bool => .type "bool" | .str => .type "str" | .tuple => .type "tuple" | .list => .type "list" | .dict => .type "dict" | .cls c => (mg c).getD .none
def Ty.v (mg : Str → Option Value) : Ty → V
  | .int => .ty "int" | .bool => .ty "bool" | .str => .ty "str" | .tuple => .ty "tuple" | .list => .ty "list" | .dict => .ty "dict" | .cls c => match mg c with
    | some (.ref C) => .ref C
    | _ => .non
def Ty.own : Ty → Bool
  | .cls _ => true
  | _ => false
structure TyN (X : Cx) (t : Ty) : Prop where
  gl : Gl X t.name
  db : (t.name == ("__debug__" : Str)) = false
  ow : t.own = true → ∃ C, X.mg t.name = some (.ref C)
  bu : t.own = false → X.mg t.name = none
/-- an own class of instances -/
structure OwnC (K : PySem.W.Frag) (C : Addr) : Prop where
  cl : Cls K C
  ha : PySem.W.findIn K (.ref C) "__class__" = some (some (.builtin "object.__class__"))
  hn : PySem.W.specialIn K (.builtin "object.__class__") "__get__" = some (some (.builtin "getset_descriptor.__get__"))
  ht : PySem.W.takesIn K (.builtin "object.__class__") = some true
  hm : PySem.W.mroIn K C (.type "object") = some true
/-- which built-in type's values are instances of t -/
def tyTab (n : String) : Ty → Bool
  | .int => n == "int" || n == "bool"
  | .bool => n == "bool"
  | .str => n == "str"
  | .tuple => n == "tuple"
  | .list => n == "list"
  | .dict => n == "dict"
  | .cls _ => false
/-- the types' names that our values have -/
def tyNames : List String := ["NoneType", "int", "bool", "str", "tuple", "list"]
section
variable {X : Cx} {fld : Str → Option Str} {hx : Hx} {W : WX} {w : Wld} {a b c e i lo hi : Expr} {ca cb cc ci clo chi : E} {pos p p2 apos : Pos} {es : List Expr} {ces : Es} {x : Str}

theorem pe_tyn {t : Ty} (h : TyN X t) : PE X (.Name t.name p) (tC (t.v X.mg)) := by
  cases t with
  | int => exact pe_bltn h.gl (h.bu rfl) boot_int rfl (by decide) h.db
  | bool => exact pe_bltn h.gl (h.bu rfl) boot_bool rfl (by decide) h.db
  | str => exact pe_bltn h.gl (h.bu rfl) boot_str rfl (by decide) h.db
  | tuple => exact pe_bltn h.gl (h.bu rfl) boot_tuple rfl (by decide) h.db
  | list => exact pe_bltn h.gl (h.bu rfl) boot_list rfl (by decide) h.db
  | dict => exact pe_bltn h.gl (h.bu rfl) boot_dict rfl (by decide) h.db
  | cls c =>
    obtain ⟨C, e⟩ := h.ow rfl
    have e' : X.mg c = some (.ref C) := e
    refine pe_glob (v := Ty.v X.mg (.cls c)) h.gl e ?_ h.db
    unfold Ty.v
    dsimp only
    rw [e']
    rfl
theorem cls_tyn {t : Ty} (h : TyN X t) : ClsV (t.v X.mg) (t.val X.mg) := by
  cases t with
  | int => exact .ty _
  | bool => exact .ty _
  | str => exact .ty _
  | tuple => exact .ty _
  | list => exact .ty _
  | dict => exact .ty _
  | cls c =>
    obtain ⟨C, e⟩ := h.ow rfl
    have e' : X.mg c = some (.ref C) := e
    unfold Ty.v Ty.val
    dsimp only
    rw [e']
    exact .own C
/-- what isinstance is to find -/
structure Kit (K : PySem.W.Frag) (mg : Str → Option Value) (ds : List Str) (ts : List Ty) : Prop where
  own : ∀ d ∈ ds, ∀ C, mg d = some (.ref C) → OwnC K C
  blt : ∀ t ∈ ts, ∀ n ∈ tyNames, PySem.W.kitOne K (.type n) (t.val mg) = some (tyTab n t)
  ins : ∀ t ∈ ts, ∀ d ∈ ds, ∀ C, mg d = some (.ref C) → PySem.W.kitOne K (.ref C) (t.val mg) = some (decide (t = .cls d))
theorem kitAny_of {K : PySem.W.Frag} {mg : Str → Option Value} {tv : Value} {f : Ty → Bool} : ∀ {ts : List Ty}, (∀ t ∈ ts, PySem.W.kitOne K tv (t.val mg) = some (f t)) → PySem.W.kitAny K tv (ts.map (Ty.val mg)) = some (ts.any f)
  | [], _ => kitAny_nil
  | t :: ts, h => by
    rw [List.map_cons, List.any_cons]
    refine kitAny_cons (h t List.mem_cons_self) (fun e => ?_) fun e => by rw [e]; rfl
    rw [e, Bool.false_or]
    exact kitAny_of fun t' ht => h t' (List.mem_cons_of_mem _ ht)
theorem tyx_of {K : PySem.W.Frag} {mg : Str → Option Value} {ds : List Str} {ts : List Ty} (k : Kit K mg ds ts) {μ : Mu} {H : Hp} {M : Store} (r : Rel K mg μ H M) {u : V} {v : PV} (rv : Rep K μ H M.length u v) (h : known ds M v = true) :
    ∃ tv, TyX K H u tv ∧ ∀ t ∈ ts, PySem.W.kitOne K tv (t.val mg) = some (tyIs M v t) := by
  have tab : ∀ (n : String), n ∈ tyNames → (∀ t, tyTab n t = tyIs M v t) → ∀ t ∈ ts, PySem.W.kitOne K (.type n) (t.val mg) = some (tyIs M v t) := fun n hn e t ht => by
    rw [← e]
    exact k.blt t ht n hn
  cases rv with
  | non => exact ⟨_, .base .non, tab _ (by decide) fun t => by cases t <;> rfl⟩
  | bl b => exact ⟨_, .base (.bl b), tab _ (by decide) fun t => by cases t <;> rfl⟩
  | int i => exact ⟨_, .base (.int i), tab _ (by decide) fun t => by cases t <;> rfl⟩
  | str z => exact ⟨_, .base (.str z), tab _ (by decide) fun t => by cases t <;> rfl⟩
  | @tup pt vs xs hs q =>
    have e : ∀ t, tyTab "tuple" t = tyIs M (.tup xs) t := fun t => by cases t <;> rfl
    rcases hs with (hs | ⟨o, hs⟩) | ⟨o, its, n, hk, hc, _⟩
    · exact ⟨_, .base (.tup hs), tab _ (by decide) e⟩
    · exact ⟨_, .fTuple hs, tab _ (by decide) e⟩
    · exact ⟨_, .kTuple hk hc, tab _ (by decide) e⟩
  | @loc i hi =>
    cases e : M[i]? with
    | none => unfold known at h; dsimp only at h; rw [e] at h; cases h
    | some o =>
      cases o with
      | lst xs =>
        obtain ⟨vs, z, _⟩ := r.lst e
        exact ⟨_, .base (.lst z), tab _ (by decide) fun t => by unfold tyIs; cases t <;> simp [e, tyTab]⟩
      | frz xs =>
        obtain ⟨ob, vs, z, _⟩ := r.obj i _ e
        exact ⟨_, .base (.frz z), tab _ (by decide) fun t => by unfold tyIs; cases t <;> simp [e, tyTab]⟩
      | dct _ => exact (r.obj i _ e).elim
      | ins d fs =>
        unfold known at h
        dsimp only at h
        rw [e] at h
        have hd : d ∈ ds := of_decide_eq_true h
        obtain ⟨C, dx, vs, hm, hH, _⟩ := r.obj i _ e
        have o := k.own d hd C hm
        refine ⟨_, .base (.ins hH o.cl o.ha o.hn o.ht o.hm), fun t ht => ?_⟩
        rw [k.ins t ht d hd C hm]
        refine congrArg some ?_
        unfold tyIs
        cases t <;> simp [e, eq_comm]
theorem le_isi {ds : List Str} {t : Ty} (k : Kit X.K X.mg ds [t]) (hg : Gl X "isinstance") (hm : X.mg "isinstance" = none) (ht : TyN X t) (ha : PE X a (LE X fld hx W (denE w ca)))
    (h1 : starEach [a, .Name t.name p2] X.env = (false, eval a X.env) :: starEach [.Name t.name p2] X.env) (h2 : starEach [.Name t.name p2] X.env = (false, eval (.Name t.name p2) X.env) :: starEach [] X.env) (hpl : (backTo pos (starEach [.Name t.name p2] X.env)).any (·.1) = false) :
    PE X (.Call (.Name "isinstance" p) [a, .Name t.name p2] [] pos) (LE X fld hx W (denE w (.isi ca ds [t]))) := by
  refine PE.weak (pe_callB call_isi hg hm boot_isinstance (pa_cons ha (pa_cons (pe_tyn ht) pa_nil h2) h1) (by decide) (by decide) h1 hpl) fun σ H Q ⟨μ, M, σ', r, e, q⟩ => ?_
  unfold denE at q
  obtain ⟨μ1, M1, τ, r1, e1, g1⟩ := LE.bind r e q
  refine ⟨μ1, M1, τ, r1, e1, g1.mono (fun u H2 ⟨μ2, M2, v, s2, r2, e2, rv, _, g2⟩ => ?_) fun _ _ _ z => z⟩
  by_cases c : known ds M2 v = true
  case neg => rw [if_neg c] at g2; exact g2.elim
  rw [if_pos c] at g2
  obtain ⟨tv, ty, hk⟩ := tyx_of k r2 rv c
  refine ⟨u, t.v X.mg, tv, t.val X.mg, tyIs M2 v t, rfl, cls_tyn ht, ty, hk t List.mem_cons_self, ?_⟩
  have z := g2.now r2 (.bl _)
  rw [List.any_cons, List.any_nil, Bool.or_false] at z
  exact z
/-- names of types -/
inductive TyNs (X : Cx) : List Expr → List Ty → Prop
  | nil : TyNs X [] []
  | cons {t : Ty} {p : Pos} {es : List Expr} {ts : List Ty} : TyN X t → starEach (.Name t.name p :: es) X.env = (false, eval (.Name t.name p) X.env) :: starEach es X.env → TyNs X es ts → TyNs X (.Name t.name p :: es) (t :: ts)
theorem pa_tyns {es : List Expr} {ts : List Ty} (h : TyNs X es ts) : PA X es (fun _ H Q => Q (ts.map (Ty.v X.mg)) H) := by
  induction h with
  | nil => exact pa_nil
  | cons ht hs _ ih => exact PA.weak (pa_cons (pe_tyn ht) ih hs) fun σ H Q q => q
theorem cls_tyns {es : List Expr} {ts : List Ty} (h : TyNs X es ts) : Paired ClsV (ts.map (Ty.v X.mg)) (ts.map (Ty.val X.mg)) := by
  induction h with
  | nil => exact .nil
  | cons ht hs _ ih => exact .cons (cls_tyn ht) ih
theorem le_isiT {ds : List Str} {ts : List Ty} {kk : Nat} (k : Kit X.K X.mg ds ts) (hg : Gl X "isinstance") (hm : X.mg "isinstance" = none) (ht : TyNs X es ts) (hl : ts.length ≤ 1000) (ha : PE X a (LE X fld hx W (denE w ca)))
    (h1 : starEach [a, .Tuple es kk p2] X.env = (false, eval a X.env) :: starEach [.Tuple es kk p2] X.env) (h2 : starEach [.Tuple es kk p2] X.env = (false, eval (.Tuple es kk p2) X.env) :: starEach [] X.env) (hpl : (backTo pos (starEach [.Tuple es kk p2] X.env)).any (·.1) = false) :
    PE X (.Call (.Name "isinstance" p) [a, .Tuple es kk p2] [] pos) (LE X fld hx W (denE w (.isi ca ds ts))) := by
  refine PE.weak (pe_callB call_isiT hg hm boot_isinstance (pa_cons ha (pa_cons (pe_tup (pa_tyns ht)) pa_nil h2) h1) (by decide) (by decide) h1 hpl) fun σ H Q ⟨μ, M, σ', r, e, q⟩ => ?_
  unfold denE at q
  obtain ⟨μ1, M1, τ, r1, e1, g1⟩ := LE.bind r e q
  refine ⟨μ1, M1, τ, r1, e1, g1.mono (fun u H2 ⟨μ2, M2, v, s2, r2, e2, rv, _, g2⟩ => ?_) fun _ _ _ z => z⟩
  by_cases c : known ds M2 v = true
  case neg => rw [if_neg c] at g2; exact g2.elim
  rw [if_pos c] at g2
  refine ⟨by rw [List.length_map]; exact Nat.le_of_lt (small1000 hl), fun tp htp => ?_⟩
  have st : Step X.K μ2 H2 M2 μ2 (L2.upd H2 tp (.tup (ts.map (Ty.v X.mg)))) M2 := Step.fresh htp
  have r3 := r2.fresh (o := .tup (ts.map (Ty.v X.mg))) htp
  obtain ⟨tv, ty, hk⟩ := tyx_of k r3 (rv.step st) c
  exact ⟨u, tp, ts.map (Ty.v X.mg), tv, ts.map (Ty.val X.mg), _, rfl, upd_same, cls_tyns ht, ty, kitAny_of hk, (g2.step st).now r3 (.bl _)⟩
end
end Mini

set_option autoImplicit false
set_option linter.all false
set_option maxRecDepth 100000
/-! Mini7: what is walked: a list, a tuple, a range, enumerate, zip. -/
namespace Mini
open PySem PySem.Spec L2
open PyProof.Rows hiding St

/-! ### enumerate of a tuple -/
section
variable {prog : Program} {w : World} {A : Around} {E : Value → Shared → Prop} {s : Shared}
open PySem.AutoSeq1 (wpAny_loadPart') in
theorem meets_enumerate_newT (l : Addr) (items : Array Value) (n : Nat) (dct : Option Addr) (sl : Array (Option Value)) :
    Meets (Builtin.«enumerate.__new__» ⟨[.type "enumerate", .ref l], []⟩) (fun _ R s => s.heap.get? l = some { cls := .type "tuple", dict := dct, data := .seq items n, slots := sl } ∧
      R (.ok (.ret (.ref (s.heap.push { cls := .type "tuple_iterator", data := .fields #[.ref l, .int 0 0] }).objs.size)))
        { s with heap := (s.heap.push { cls := .type "tuple_iterator", data := .fields #[.ref l, .int 0 0] }).push { cls := .type "enumerate", data := .fields #[.none, .bool false, .ref s.heap.objs.size, rawInt 0, .none, .none] } }) :=
  .of_wp fun prog w A R s h => by
    obtain ⟨hp, g, d, tk, os⟩ := s; obtain ⟨hl, h⟩ := h
    have hsub := sub_enumerate
    have hL : Heap.IsTuple (Shared.heap ⟨hp, g, d, tk, os⟩) l items := ⟨_, hl, rfl, n, rfl⟩
    wp_walk using wpAny_loadPart' hl
    refine wpAny_stack_any fun st => wpAny_pure ?_
    split
    · rename_i c _ _ _ _ _
      cases (c == Value.type "enumerate")
      · wp_walk using wpAny_loadPart' hl, wpAny_pyIter_tuple hL
        exact ⟨_, rfl, h⟩
      · wp_walk using wpAny_loadPart' hl, wpAny_pyIter_tuple hL
        exact ⟨_, rfl, h⟩
    · wp_walk using wpAny_loadPart' hl, wpAny_pyIter_tuple hL
      exact ⟨_, rfl, h⟩
theorem call_enumerate_tuple {l : Addr} {items : Array Value} {Q : Value → Shared → Prop} (hL : s.heap.IsTuple l items)
    (h : ∀ h', IsEnum h' (s.heap.objs.size + 1) s.heap.objs.size 0 .none → h'.IsTupleIter s.heap.objs.size l 0 → h'.objs.size = s.heap.objs.size + 2 →
      (∀ b o, s.heap.get? b = some o → h'.get? b = some o) → Q (.ref (s.heap.objs.size + 1)) { s with heap := h' }) :
    wpAny (model prog w) A (call (.type "enumerate") [.ref l]) Q E s := by
  obtain ⟨⟨c, dct, dt, sl⟩, hl, hc, n, hd⟩ := hL
  replace hc : c = .type "tuple" := hc
  replace hd : dt = .seq items n := hd
  subst hc hd
  refine callType_new F.called_enumerate (by decide) (F.typeCall_enumerate_1 _) (F.newCall_enumerate_1 _) (fun obj => F.args_object_init_2 obj _) F.entry_enumerate_new
    (meets_enumerate_newT l items n dct sl) ⟨hl, ?_⟩
  have hz : (s.heap.push { cls := .type "tuple_iterator", data := .fields #[.ref l, .int 0 0] }).objs.size = s.heap.objs.size + 1 := Heap.size_push ..
  show _ ∧ _
  rw [hz]
  have he : IsEnum ((s.heap.push { cls := .type "tuple_iterator", data := .fields #[.ref l, .int 0 0] }).push
      { cls := .type "enumerate", data := .fields #[.none, .bool false, .ref s.heap.objs.size, rawInt 0, .none, .none] }) (s.heap.objs.size + 1) s.heap.objs.size 0 .none := by
    have := Heap.get?_push_size (s.heap.push { cls := .type "tuple_iterator", data := .fields #[.ref l, .int 0 0] })
      (o := { cls := .type "enumerate", data := .fields #[.none, .bool false, .ref s.heap.objs.size, rawInt 0, .none, .none] }) rfl
    rw [hz] at this; exact this
  refine ⟨⟨_, he, rfl⟩, h _ he ⟨_, Heap.get?_push_of_some _ (Heap.get?_push_size _ rfl), rfl, rfl⟩ (by rw [Heap.size_push, hz]) fun b o x => Heap.get?_push_of_some _ (Heap.get?_push_of_some _ x)⟩
end
/-- the tuple at a, each item in a new pair -/
def IteT (K : PySem.W.Frag) (a : Addr) : L2.It :=
  ⟨fun i H => ∃ (xs : List V) (x : V), SqT K H a xs ∧ xs[i]? = some x, fun i H v H' => ∃ T x, v = .ref T ∧ H T = none ∧ H' = upd H T (.tup [.int (i : Nat), x]) ∧ ∀ xs, SqT K H a xs → xs[i]? = some x, fun i H => ∃ xs : List V, SqT K H a xs ∧ xs.length ≤ i⟩
theorem turn_enumT {P : Program} {w : World} {K : PySem.W.Frag} {elts : List Expr} {kk : Nat} {tpos : Pos} (a e it : Addr) :
    Turn P w K (.Tuple elts kk tpos) (IteT K a) [e, it] e (fun i h => (∃ old, IsEnum h e it ((i : Nat) : Int) old) ∧ h.IsTupleIter it a i ∧ e ≠ it) where
  mem := by simp
  obj := fun i h st b hb => by
    obtain ⟨⟨old, he⟩, ⟨o, ho, hc, hd⟩, _⟩ := st
    have e' : b = e ∨ b = it := by simpa using hb
    rcases e' with z | z
    · rw [z]; exact ⟨_, he, fun v q => nomatch q⟩
    · rw [z]; exact ⟨o, ho, fun v q => by rw [hd] at q; cases q⟩
  keep := fun i h h' st k => let ⟨⟨old, he⟩, hi, hne⟩ := st; ⟨⟨old, k e (by simp) _ he⟩, hi.at fun o q => k it (by simp) o q, hne⟩
  item := by
    intro X hP hw hK hc i pins s σ H E I hf st hg
    subst hP hw hK
    obtain ⟨⟨old, he⟩, hit, hne⟩ := st
    obtain ⟨xs, x, hq, hx⟩ := hg
    obtain ⟨its, rv, p, hz⟩ := I.tuple hq
    obtain ⟨u, hu, ru⟩ := rv.get hx
    have hel : e < s.heap.objs.size := Heap.lt_size he
    have hil : it < s.heap.objs.size := by obtain ⟨_, q, _⟩ := hit; exact Heap.lt_size q
    have pT : s.heap.IsTuple a its.toArray := p
    have hai : a ≠ it := fun z => by
      obtain ⟨o1, h1, h2, _⟩ := pT
      obtain ⟨o2, h3, h4, _⟩ := hit
      rw [z, h3] at h1
      cases h1
      rw [h2] at h4
      exact absurd h4 (by decide)
    have hae : a ≠ e := fun z => by
      obtain ⟨o1, h1, h2, _⟩ := pT
      have he' := he
      unfold IsEnum at he'
      rw [z, he'] at h1
      cases h1
      exact absurd (show Value.type "enumerate" = Value.type "tuple" from h2) (by decide)
    refine wpAny_pyNext_enum_itemD (Draws.tuple (show X.A.in1.handled = none from I.ok.hd hc) it a hai its.toArray) he ⟨hit, pT⟩ (by
      have := (List.getElem?_eq_some_iff.mp hu).1
      simpa using this) hne (by simp [hne, Ne.symm hae]) fun y h' tk hy ho hst hT hsz hk => ?_
    have ey : y = u := by
      have z : its.toArray[i]? = some u := by simpa using hu
      rw [z] at hy
      exact (Option.some.inj hy).symm
    subst ey
    obtain ⟨hit', _⟩ := hst
    refine ⟨_, rfl, wpAny_letOwnedTupleGo_enum (s := { s with heap := h', toks := tk + 1 }) ho fun h'' he' sb => ?_⟩
    have hT2 : h''.get? s.heap.objs.size = some { cls := .type "tuple", data := .seq #[.int i tk, y] } := (sb.2 _ (Nat.ne_of_gt hel)).trans hT
    have new : ObjOk X.prog X.w (upd H s.heap.objs.size (.tup [.int (i : Nat), x])) h'' s.heap.objs.size (.tup [.int (i : Nat), x]) :=
      ⟨by show 2 ≤ sizeLine; decide, [.int i tk, y], .cons ⟨_, rfl⟩ (.cons ru .nil), ⟨_, hT2, rfl, _, rfl⟩⟩
    have I1 : Inv X pins σ (upd H s.heap.objs.size (.tup [.int (i : Nat), x])) { s with heap := h'', toks := tk + 1 } :=
      I.turnedNew (ch := [e, it]) (fun b ob hb q => (sb.2 b (fun z => hb (by simp [z]))).trans (hk b ob (fun z => hb (by simp [z])) (fun z => hb (by simp [z])) q)) hf (Nat.le_refl _) new
    refine ⟨.ref s.heap.objs.size, _, I1, rfl, ⟨_, x, rfl, I.hok.fresh (Nat.le_refl _), rfl, fun ys hy => by rw [I.tuple_inj hy hq]; exact hx⟩, ⟨⟨y, ?_⟩, hit'.at fun o q => (sb.2 it (Ne.symm hne)).trans q, hne⟩, fun b hb => ?_⟩
    · have e1 : ((i + 1 : Nat) : Int) = (i : Int) + 1 := by omega
      rw [e1]; exact he'
    · have hb' : b < s.heap.objs.size := by
        have e' : b = e ∨ b = it := by simpa using hb
        rcases e' with z | z
        · rw [z]; exact hel
        · rw [z]; exact hil
      rw [upd_ne (Nat.ne_of_lt hb')]
      exact (hf b hb).1
  done := by
    intro X hP hw hK hc i pins s σ H E I hf st hg
    subst hP hw hK
    obtain ⟨⟨old, he⟩, hit, hne⟩ := st
    obtain ⟨xs, hq, hx⟩ := hg
    obtain ⟨its, rv, p, hz⟩ := I.tuple hq
    obtain ⟨f0, f1, f2, f3, f4, f5⟩ := hf it (by simp)
    have hl := rv.length
    have pT : s.heap.IsTuple a its.toArray := p
    have hT : s.TypeIs (.ref e) "enumerate" := ⟨_, he, rfl⟩
    unfold pyNext
    refine wpAny_bind (wpAny_attempt (wpAny_callSpecial?_slot (name := Str.ofString "__next__") hT F.slot_enumerate_next
      (wpAny_call_entry F.slot_enumerate_next hT F.entry_enumerate_next ?_ (F.args_enumerate_next_1 _))))
    show wpAny _ _ (field (.ref e) 2 >>= _) _ _ _
    refine wpAny_bind (wpAny_field he rfl (x := .ref it) rfl ?_)
    refine wpAny_bind (PySem.wpAny_nextOf_tuple_end (show X.A.in1.handled = none from I.ok.hd hc) hit pT (by simp; omega) fun h' x he' hx' => ?_)
    obtain ⟨o, ho, hcc⟩ := hx'
    refine wpAny_bind (wpAny_isInstance (T := "StopIteration") (b := true) ⟨o, ho, hcc⟩ isSubtype_stop ?_)
    exact wpAny_pure ⟨rfl, I.turned (t' := s.toks) (fun b o hb q => he' b o hb q) f0 f1 f3 f4 f5⟩
  self := fun A i s Q E st h => let ⟨⟨_, he⟩, _⟩ := st; wpAny_pyIter_enum he h
/-- enumerate of a list or a tuple -/
def iEnumA (K : PySem.W.Frag) (ta : TA) : TI := fun σ H R => ta σ H fun vs H1 => ∃ a xs, vs = [.ref a] ∧ ((SqL K H1 a xs ∧ R (Ite K a) H1) ∨ (SqT K H1 a xs ∧ R (IteT K a) H1))
theorem pi_enumA {X : Cx} {e : Expr} {ta : TA} {p pos tpos : Pos} {elts : List Expr} {kk : Nat} (hg : Gl X "enumerate") (hm : X.mg "enumerate" = none) (ha : PA X [e] ta) (hs : starEach [e] X.env = (false, eval e X.env) :: starEach [] X.env) :
    PI X (.Tuple elts kk tpos) (.Call (.Name "enumerate" p) [e] [] pos) (iEnumA X.K ta) := by
  refine ⟨fun pins s σ H R I h => ?_⟩
  refine Call_ (ld_blt I hg hm boot_enumerate (PyProof.Rows.callWith_type1 (thn (ha.run pos pins s σ H _ I h) fun us s1 ⟨vs, H1, I1, r1, q1⟩ => ?_) hs rfl))
  obtain ⟨a, xs, ex, q⟩ := q1
  subst ex
  cases r1 with
  | cons r rr =>
    cases rr
    cases r
    have fr : ∀ b, b ∈ [s1.heap.objs.size + 1, s1.heap.objs.size] → FpOk X pins H1 b := fun b hb => by
      have e' : b = s1.heap.objs.size + 1 ∨ b = s1.heap.objs.size := by simpa using hb
      have hle : s1.heap.objs.size ≤ b := by
        rcases e' with z | z
        · rw [z]; exact Nat.le_add_right _ _
        · rw [z]; exact Nat.le_refl _
      exact I1.fpOk hle (I1.hok.fresh hle)
    rcases q with ⟨hq, q⟩ | ⟨hq, q⟩
    · obtain ⟨its, rv, p', hz⟩ := I1.list hq
      refine call_enumerate_list p'.isList fun h' he hit hsz hk => wpAny_pyIter_enum he ?_
      have I2 : Inv X pins σ H1 { s1 with heap := h' } := I1.kept (t' := s1.toks) hk
      exact ⟨s1.heap.objs.size + 1, [s1.heap.objs.size + 1, s1.heap.objs.size], _, _, H1, rfl, I2, turn_enum a (s1.heap.objs.size + 1) s1.heap.objs.size, ⟨⟨.none, he⟩, hit, Nat.succ_ne_self _⟩, fr, q⟩
    · obtain ⟨its, rv, p', hz⟩ := I1.tuple hq
      refine call_enumerate_tuple (show s1.heap.IsTuple a its.toArray from p') fun h' he hit hsz hk => wpAny_pyIter_enum he ?_
      have I2 : Inv X pins σ H1 { s1 with heap := h' } := I1.kept (t' := s1.toks) hk
      exact ⟨s1.heap.objs.size + 1, [s1.heap.objs.size + 1, s1.heap.objs.size], _, _, H1, rfl, I2, turn_enumT a (s1.heap.objs.size + 1) s1.heap.objs.size, ⟨⟨.none, he⟩, hit, Nat.succ_ne_self _⟩, fr, q⟩
/-- a list or a tuple -/
def iSeqA (K : PySem.W.Frag) (tl : TE) : TI := fun σ H R => tl σ H fun x H1 => ∃ a xs, x = .ref a ∧ ((SqL K H1 a xs ∧ R (Itl K a) H1) ∨ (SqT K H1 a xs ∧ R (Itt K a) H1))
theorem pi_seqA {X : Cx} {tg l : Expr} {tl : TE} (hl : PE X l tl) : PI X tg l (iSeqA X.K tl) := by
  refine ⟨fun pins s σ H R I h => ?_⟩
  refine thn (hl.run pins s σ H _ I h) fun v s1 ⟨x, H1, I1, r1, q1⟩ => ?_
  obtain ⟨a, xs, e, q⟩ := q1
  subst e
  cases r1
  have fr : ∀ b, b ∈ [s1.heap.objs.size] → FpOk X pins H1 b := fun b hb => by
    have e : b = s1.heap.objs.size := by simpa using hb
    subst e
    exact I1.fpOk (Nat.le_refl _) (I1.hok.fresh (Nat.le_refl _))
  rcases q with ⟨hq, q⟩ | ⟨hq, q⟩
  · obtain ⟨its, rv, p, hz⟩ := I1.list hq
    refine wpAny_pyIter_list p.isList ?_
    exact ⟨s1.heap.objs.size, [s1.heap.objs.size], _, _, H1, rfl, I1.kept (t' := s1.toks) fun b o e => Heap.get?_push_of_some _ e, turn_list a _, ⟨_, Heap.get?_push_size _ rfl, rfl, rfl⟩, fr, q⟩
  · obtain ⟨its, rv, p, hz⟩ := I1.tuple hq
    refine wpAny_pyIter_tuple (show s1.heap.IsTuple a its.toArray from p) ?_
    exact ⟨s1.heap.objs.size, [s1.heap.objs.size], _, _, H1, rfl, I1.kept (t' := s1.toks) fun b o e => Heap.get?_push_of_some _ e, turn_tuple a _, ⟨_, Heap.get?_push_size _ rfl, rfl, rfl⟩, fr, q⟩
end Mini

set_option autoImplicit false
set_option linter.all false
set_option maxRecDepth 100000
/-! Mini8: readings of what is walked. -/
namespace Mini
open PySem PySem.Spec L2
open PyProof.Rows hiding St

/-- a later state, as far as values go -/
structure Later (K : PySem.W.Frag) (μ : Mu) (H : Hp) (M : Store) (μ' : Mu) (H' : Hp) (M' : Store) : Prop where
  same : ∀ i, i < M.length → μ' i = μ i
  grow : M.length ≤ M'.length
  tup : ∀ p vs, SqT K H p vs → SqT K H' p vs
section
variable {K : PySem.W.Frag} {mg : Str → Option Value} {μ μ₁ μ₂ : Mu} {H H₁ H₂ : Hp} {M M₁ M₂ : Store} {n : Nat}
theorem Later.refl : Later K μ H M μ H M := ⟨fun _ _ => rfl, Nat.le_refl _, fun _ _ h => h⟩
theorem Step.later (s : Step K μ H M μ₁ H₁ M₁) : Later K μ H M μ₁ H₁ M₁ := ⟨s.same, s.grow, s.tup⟩
theorem Later.trans (a : Later K μ H M μ₁ H₁ M₁) (b : Later K μ₁ H₁ M₁ μ₂ H₂ M₂) : Later K μ H M μ₂ H₂ M₂ :=
  ⟨fun i h => (b.same i (Nat.lt_of_lt_of_le h a.grow)).trans (a.same i h), Nat.le_trans a.grow b.grow, fun p vs h => b.tup p vs (a.tup p vs h)⟩
theorem Reps.later {us : List V} {xs : List PV} (r : Reps K μ H M.length us xs) (s : Later K μ H M μ₁ H₁ M₁) : Reps K μ₁ H₁ M₁.length us xs := r.mono s.same s.grow s.tup
theorem Rep.later {u : V} {x : PV} (r : Rep K μ H M.length u x) (s : Later K μ H M μ₁ H₁ M₁) : Rep K μ₁ H₁ M₁.length u x := r.mono s.same s.grow s.tup
end
/-- J walks the items while the lists stand still -/
structure WalkR (K : PySem.W.Frag) (mg : Str → Option Value) (μ : Mu) (H : Hp) (M : Store) (J : L2.It) (k : Wk) : Prop where
  go : ∀ μ' H' M', Later K μ H M μ' H' M' → Rel K mg μ' H' M' → still k.2 M' = true → ∀ i x, k.1[i]? = some x → J.go i H' ∧ ∀ u H'', J.yld i H' u H'' → Step K μ' H' M' μ' H'' M' ∧ Rel K mg μ' H'' M' ∧ Rep K μ' H'' M'.length u x
  stop : ∀ μ' H' M', Later K μ H M μ' H' M' → Rel K mg μ' H' M' → still k.2 M' = true → J.stop k.1.length H'
section
variable {K : PySem.W.Frag} {mg : Str → Option Value} {μ μ' : Mu} {H H' : Hp} {M M' : Store} {n : Nat}
theorem WalkR.step {J : L2.It} {k : Wk} (h : WalkR K mg μ H M J k) (s : Later K μ H M μ' H' M') : WalkR K mg μ' H' M' J k :=
  ⟨fun μ2 H2 M2 s2 => h.go μ2 H2 M2 (s.trans s2), fun μ2 H2 M2 s2 => h.stop μ2 H2 M2 (s.trans s2)⟩
/-- a list or a tuple to be walked, as it stands now and later -/
inductive SrcR (K : PySem.W.Frag) (μ : Mu) (H : Hp) (M : Store) : Addr → PV → Wk → Prop
  | tup {p : Addr} {vs : List V} {xs : List PV} (h : SqT K H p vs) (q : Reps K μ H M.length vs xs) : SrcR K μ H M p (.tup xs) (xs, [])
  | lst {i : Nat} {xs : List PV} (h : i < M.length) (e : seqL (.loc i) M = some xs) : SrcR K μ H M (μ i) (.loc i) (xs, [(i, xs)])
theorem srcR_of {u : V} {v : PV} {k : Wk} (rv : Rep K μ H M.length u v) (h : seqW v M = some k) : ∃ p, u = .ref p ∧ SrcR K μ H M p v k := by
  cases rv with
  | tup hs q => cases h; exact ⟨_, rfl, .tup hs q⟩
  | @loc i hi =>
    unfold seqW at h
    dsimp only at h
    cases e : seqL (.loc i) M with
    | none => rw [e] at h; cases h
    | some xs => rw [e] at h; cases h; exact ⟨_, rfl, .lst hi e⟩
  | _ => cases h
theorem still_one {i : Nat} {xs : List PV} {r : List (Nat × List PV)} (h : still ((i, xs) :: r) M = true) : seqL (.loc i) M = some xs ∧ still r M = true := by
  unfold still at h ⊢
  rw [List.all_cons, Bool.and_eq_true_iff] at h
  exact ⟨of_decide_eq_true h.1, h.2⟩
theorem still_app {a b : List (Nat × List PV)} (h : still (a ++ b) M = true) : still a M = true ∧ still b M = true := by
  unfold still at h ⊢
  rw [List.all_append, Bool.and_eq_true_iff] at h
  exact h
/-- a source later: what it is then -/
theorem SrcR.later {p : Addr} {v : PV} {k : Wk} (h : SrcR K μ H M p v k) (s : Later K μ H M μ' H' M') (r : Rel K mg μ' H' M') (st : still k.2 M' = true) :
    ∃ vs, ((∃ i, v = .loc i ∧ SqL K H' p vs) ∨ (∃ xs, v = .tup xs ∧ SqT K H' p vs)) ∧ Reps K μ' H' M'.length vs k.1 := by
  cases h with
  | tup hs q => exact ⟨_, .inr ⟨_, rfl, s.tup _ _ hs⟩, q.later s⟩
  | @lst i xs hi e =>
    obtain ⟨e', _⟩ := still_one st
    obtain ⟨vs, z, q, _⟩ := r.seq e'
    rw [s.same i hi] at z
    exact ⟨vs, .inl ⟨i, rfl, z⟩, q⟩
theorem rep_at {vs : List V} {xs : List PV} (q : Reps K μ H n vs xs) {i : Nat} {u : V} {x : PV} (e : vs[i]? = some u) (e' : xs[i]? = some x) : Rep K μ H n u x := by
  obtain ⟨u', e2, r⟩ := q.get e'
  rw [e] at e2
  cases e2
  exact r
theorem walk_seqL {i : Nat} {p : Addr} {k : Wk} (h : SrcR K μ H M p (.loc i) k) : WalkR K mg μ H M (Itl K p) k := by
  refine ⟨fun μ' H' M' s r st j x e => ?_, fun μ' H' M' s r st => ?_⟩
  · obtain ⟨vs, (⟨_, _, z⟩ | ⟨_, z, _⟩), q⟩ := h.later s r st
    · obtain ⟨u, e', ru⟩ := q.get e
      refine ⟨⟨vs, u, z, e'⟩, fun u' H'' y => ?_⟩
      obtain ⟨rfl, y⟩ := y
      exact ⟨.refl, r, rep_at q (y vs z) e⟩
    · cases z
  · obtain ⟨vs, (⟨_, _, z⟩ | ⟨_, z, _⟩), q⟩ := h.later s r st
    · exact ⟨vs, z, by rw [q.length]; exact Nat.le_refl _⟩
    · cases z
theorem walk_seqT {ys : List PV} {p : Addr} {k : Wk} (h : SrcR K μ H M p (.tup ys) k) : WalkR K mg μ H M (Itt K p) k := by
  refine ⟨fun μ' H' M' s r st j x e => ?_, fun μ' H' M' s r st => ?_⟩
  · obtain ⟨vs, (⟨_, z, _⟩ | ⟨_, _, z⟩), q⟩ := h.later s r st
    · cases z
    · obtain ⟨u, e', ru⟩ := q.get e
      refine ⟨⟨vs, u, z, e'⟩, fun u' H'' y => ?_⟩
      obtain ⟨rfl, y⟩ := y
      exact ⟨.refl, r, rep_at q (y vs z) e⟩
  · obtain ⟨vs, (⟨_, z, _⟩ | ⟨_, _, z⟩), q⟩ := h.later s r st
    · cases z
    · exact ⟨vs, z, by rw [q.length]; exact Nat.le_refl _⟩
theorem enmL_len : ∀ (xs : List PV) (k : Nat), (enmL k xs).length = xs.length
  | [], _ => rfl
  | x :: xs, k => by unfold enmL; rw [List.length_cons, List.length_cons, enmL_len xs]
theorem enmL_get : ∀ (xs : List PV) (k i : Nat) (y : PV), (enmL k xs)[i]? = some y → ∃ x, xs[i]? = some x ∧ y = .tup [.int ((k + i : Nat) : Int), x]
  | [], _, _, _, h => by cases h
  | x :: xs, k, 0, y, h => by
    unfold enmL at h
    cases h
    exact ⟨x, rfl, rfl⟩
  | x :: xs, k, i + 1, y, h => by
    unfold enmL at h
    rw [List.getElem?_cons_succ] at h
    obtain ⟨z, e, q⟩ := enmL_get xs (k + 1) i y h
    exact ⟨z, by rw [List.getElem?_cons_succ]; exact e, by rw [q]; congr 3; omega⟩
/-- a pair newly laid -/
theorem pair_new {T : Addr} {a b : V} {x y : PV} (r : Rel K mg μ H M) (hT : H T = none) (ra : Rep K μ H M.length a x) (rb : Rep K μ H M.length b y) :
    Step K μ H M μ (L2.upd H T (.tup [a, b])) M ∧ Rel K mg μ (L2.upd H T (.tup [a, b])) M ∧ Rep K μ (L2.upd H T (.tup [a, b])) M.length (.ref T) (.tup [x, y]) := by
  have s : Step K μ H M μ (L2.upd H T (.tup [a, b])) M := Step.fresh hT
  exact ⟨s, r.fresh hT, .tup (.inl (.inl upd_same)) (.cons (ra.step s) (.cons (rb.step s) .nil))⟩
theorem walk_enL {i : Nat} {p : Addr} {k : Wk} (h : SrcR K μ H M p (.loc i) k) : WalkR K mg μ H M (Ite K p) (enmL 0 k.1, k.2) := by
  refine ⟨fun μ' H' M' s r st j x e => ?_, fun μ' H' M' s r st => ?_⟩
  · obtain ⟨vs, (⟨_, _, z⟩ | ⟨_, z, _⟩), q⟩ := h.later s r st
    · obtain ⟨y, e1, rfl⟩ := enmL_get _ _ _ _ e
      obtain ⟨u, e', ru⟩ := q.get e1
      refine ⟨⟨vs, u, z, e'⟩, fun u' H'' y => ?_⟩
      obtain ⟨T, x', rfl, hT, rfl, y⟩ := y
      have z1 := y vs z
      have hu : u = x' := by rw [e'] at z1; exact Option.some.inj z1
      subst hu
      rw [Nat.zero_add]
      exact pair_new r hT (.int _) ru
    · cases z
  · obtain ⟨vs, (⟨_, _, z⟩ | ⟨_, z, _⟩), q⟩ := h.later s r st
    · exact ⟨vs, z, by rw [q.length, enmL_len]; exact Nat.le_refl _⟩
    · cases z
theorem walk_enT {ys : List PV} {p : Addr} {k : Wk} (h : SrcR K μ H M p (.tup ys) k) : WalkR K mg μ H M (IteT K p) (enmL 0 k.1, k.2) := by
  refine ⟨fun μ' H' M' s r st j x e => ?_, fun μ' H' M' s r st => ?_⟩
  · obtain ⟨vs, (⟨_, z, _⟩ | ⟨_, _, z⟩), q⟩ := h.later s r st
    · cases z
    · obtain ⟨y, e1, rfl⟩ := enmL_get _ _ _ _ e
      obtain ⟨u, e', ru⟩ := q.get e1
      refine ⟨⟨vs, u, z, e'⟩, fun u' H'' y => ?_⟩
      obtain ⟨T, x', rfl, hT, rfl, y⟩ := y
      have z1 := y vs z
      have hu : u = x' := by rw [e'] at z1; exact Option.some.inj z1
      subst hu
      rw [Nat.zero_add]
      exact pair_new r hT (.int _) ru
  · obtain ⟨vs, (⟨_, z, _⟩ | ⟨_, _, z⟩), q⟩ := h.later s r st
    · cases z
    · exact ⟨vs, z, by rw [q.length, enmL_len]; exact Nat.le_refl _⟩
theorem zipL_len : ∀ (xs ys : List PV), (zipL xs ys).length = min xs.length ys.length
  | [], _ => by unfold zipL; simp
  | _ :: _, [] => by unfold zipL; simp
  | x :: xs, y :: ys => by unfold zipL; rw [List.length_cons, zipL_len xs ys, List.length_cons, List.length_cons]; omega
theorem zipL_get : ∀ (xs ys : List PV) (i : Nat) (z : PV), (zipL xs ys)[i]? = some z → ∃ x y, xs[i]? = some x ∧ ys[i]? = some y ∧ z = .tup [x, y]
  | [], _, _, _, h => by unfold zipL at h; cases h
  | _ :: _, [], _, _, h => by unfold zipL at h; cases h
  | x :: xs, y :: ys, 0, z, h => by
    unfold zipL at h
    cases h
    exact ⟨x, y, rfl, rfl, rfl⟩
  | x :: xs, y :: ys, i + 1, z, h => by
    unfold zipL at h
    rw [List.getElem?_cons_succ] at h
    obtain ⟨a, b, e1, e2, e3⟩ := zipL_get xs ys i z h
    exact ⟨a, b, by rw [List.getElem?_cons_succ]; exact e1, by rw [List.getElem?_cons_succ]; exact e2, e3⟩
theorem min_or {a b c : Nat} (ha : a = b) {d e : Nat} (hd : d = e) (h : min b e = c) : a ≤ c ∨ d ≤ c := by omega
theorem walk_zipL {i j : Nat} {p p' : Addr} {k l : Wk} (h : SrcR K μ H M p (.loc i) k) (h' : SrcR K μ H M p' (.loc j) l) : WalkR K mg μ H M (Itz K p p') (zipL k.1 l.1, k.2 ++ l.2) := by
  refine ⟨fun μ' H' M' s r st j x e => ?_, fun μ' H' M' s r st => ?_⟩
  · obtain ⟨vs, (⟨_, _, z⟩ | ⟨_, z, _⟩), q⟩ := h.later s r (still_app st).1
    · obtain ⟨ws, (⟨_, _, z'⟩ | ⟨_, z', _⟩), q'⟩ := h'.later s r (still_app st).2
      · obtain ⟨a, b, e1, e2, rfl⟩ := zipL_get _ _ _ _ e
        obtain ⟨u, e3, ru⟩ := q.get e1
        obtain ⟨u', e4, ru'⟩ := q'.get e2
        refine ⟨⟨vs, ws, u, u', z, z', e3, e4⟩, fun u2 H'' y => ?_⟩
        obtain ⟨T, x', y', rfl, hT, rfl, y1, y2⟩ := y
        have z1 := y1 vs z
        have z2 := y2 ws z'
        rw [e3] at z1
        rw [e4] at z2
        cases z1
        cases z2
        exact pair_new r hT ru ru'
      · cases z'
    · cases z
  · obtain ⟨vs, (⟨_, _, z⟩ | ⟨_, z, _⟩), q⟩ := h.later s r (still_app st).1
    · obtain ⟨ws, (⟨_, _, z'⟩ | ⟨_, z', _⟩), q'⟩ := h'.later s r (still_app st).2
      · exact ⟨vs, ws, z, z', min_or q.length q'.length (zipL_len _ _).symm⟩
      · cases z'
    · cases z
theorem walk_zipT {x y : List PV} {p p' : Addr} {k l : Wk} (h : SrcR K μ H M p (.tup x) k) (h' : SrcR K μ H M p' (.tup y) l) : WalkR K mg μ H M (RZ.ItzT K p p') (zipL k.1 l.1, k.2 ++ l.2) := by
  refine ⟨fun μ' H' M' s r st j x e => ?_, fun μ' H' M' s r st => ?_⟩
  · obtain ⟨vs, (⟨_, z, _⟩ | ⟨_, _, z⟩), q⟩ := h.later s r (still_app st).1
    · cases z
    · obtain ⟨ws, (⟨_, z', _⟩ | ⟨_, _, z'⟩), q'⟩ := h'.later s r (still_app st).2
      · cases z'
      · obtain ⟨a, b, e1, e2, rfl⟩ := zipL_get _ _ _ _ e
        obtain ⟨u, e3, ru⟩ := q.get e1
        obtain ⟨u', e4, ru'⟩ := q'.get e2
        refine ⟨⟨vs, ws, u, u', z, z', e3, e4⟩, fun u2 H'' y => ?_⟩
        obtain ⟨T, x', y', rfl, hT, rfl, y1, y2⟩ := y
        have z1 := y1 vs z
        have z2 := y2 ws z'
        rw [e3] at z1
        rw [e4] at z2
        cases z1
        cases z2
        exact pair_new r hT ru ru'
  · obtain ⟨vs, (⟨_, z, _⟩ | ⟨_, _, z⟩), q⟩ := h.later s r (still_app st).1
    · cases z
    · obtain ⟨ws, (⟨_, z', _⟩ | ⟨_, _, z'⟩), q'⟩ := h'.later s r (still_app st).2
      · cases z'
      · exact ⟨vs, ws, z, z', min_or q.length q'.length (zipL_len _ _).symm⟩
theorem walk_rng {lo : Int} {n : Nat} : WalkR K mg μ H M (Itr lo n) (rngL lo n, []) := by
  have hl : (rngL lo n).length = n := by unfold rngL; rw [List.length_map, List.length_range]
  refine ⟨fun μ' H' M' s r st j x e => ?_, fun μ' H' M' s r st => ?_⟩
  · have hj : j < n := by
      have := (List.getElem?_eq_some_iff.mp e).1
      rw [hl] at this
      exact this
    refine ⟨hj, fun u H'' y => ?_⟩
    obtain ⟨rfl, rfl⟩ := y
    have e : (rngL lo n)[j]? = some x := e
    unfold rngL at e
    rw [List.getElem?_map, List.getElem?_range hj] at e
    cases e
    exact ⟨.refl, r, .int _⟩
  · show n ≤ (rngL lo n).length
    rw [hl]; exact Nat.le_refl _
end

section
variable (X : Cx) (fld : Str → Option Str) (hx : Hx)
def LI (W : WX) (f : Env → Store → Out Wk) : TI := fun σ H R => ∃ μ M σ', Rel X.K X.mg μ H M ∧ EnvR X.K X.mg fld hx μ H M σ σ' ∧ Good X.K X.mg fld (WalkR X.K X.mg) μ H M (WE W σ) R (f σ' M)
end
theorem PI.weak {X : Cx} {tg e : Expr} {t t' : TI} (h : PI X tg e t) (w : ∀ σ H Q, t' σ H Q → t σ H Q) : PI X tg e t' := ⟨fun pins s σ H R I q => h.run pins s σ H R I (w σ H R q)⟩
section
variable {X : Cx} {fld : Str → Option Str} {hx : Hx} {W : WX} {w : Wld} {tg a b c e i lo hi : Expr} {ca cb cc ci clo chi : E} {pos p p2 tpos apos : Pos} {es : List Expr} {ces : Es} {x : Str} {kk : Nat}
theorem li_bad : PI X tg e (LI X fld hx W (denIt w (.seq .bad))) := ⟨fun _ _ _ _ _ _ ⟨_, _, _, _, _, q⟩ => q.elim⟩
theorem li_seq (ha : PE X a (LE X fld hx W (denE w ca))) : PI X tg a (LI X fld hx W (denIt w (.seq ca))) := by
  refine PI.weak (pi_seqA ha) fun σ H R ⟨μ, M, σ', r, e, q⟩ => ?_
  unfold denIt at q
  obtain ⟨μ1, M1, τ, r1, e1, g1⟩ := LE.bind r e q
  refine ⟨μ1, M1, τ, r1, e1, g1.mono (fun u H2 ⟨μ2, M2, v, s2, r2, e2, rv, _, g2⟩ => ?_) fun _ _ _ z => z⟩
  cases h : seqW v M2 with
  | none => rw [h] at g2; exact g2.elim
  | some k =>
    rw [h] at g2
    obtain ⟨p, rfl, src⟩ := srcR_of rv h
    obtain ⟨vs, (⟨i, rfl, z⟩ | ⟨xs, rfl, z⟩), q⟩ := src.later (mg := X.mg) .refl r2 (by
      cases src with
      | tup _ _ => rfl
      | lst hi e => unfold still; rw [List.all_cons, List.all_nil, Bool.and_true]; exact decide_eq_true e)
    · exact ⟨p, vs, rfl, .inl ⟨z, g2.now r2 (walk_seqL src)⟩⟩
    · exact ⟨p, vs, rfl, .inr ⟨z, g2.now r2 (walk_seqT src)⟩⟩
theorem src_now {K : PySem.W.Frag} {mg : Str → Option Value} {μ : Mu} {H : Hp} {M : Store} {p : Addr} {v : PV} {k : Wk} (r : Rel K mg μ H M) (src : SrcR K μ H M p v k) :
    ∃ vs, ((∃ i, v = .loc i ∧ SqL K H p vs) ∨ (∃ xs, v = .tup xs ∧ SqT K H p vs)) ∧ Reps K μ H M.length vs k.1 :=
  src.later .refl r (by
    cases src with
    | tup _ _ => rfl
    | lst hi e => unfold still; rw [List.all_cons, List.all_nil, Bool.and_true]; exact decide_eq_true e)
theorem li_enm (hg : Gl X "enumerate") (hm : X.mg "enumerate" = none) (ha : PE X a (LE X fld hx W (denE w ca))) (hs : starEach [a] X.env = (false, eval a X.env) :: starEach [] X.env) :
    PI X (.Tuple es kk tpos) (.Call (.Name "enumerate" p) [a] [] pos) (LI X fld hx W (denIt w (.enm ca))) := by
  refine PI.weak (pi_enumA hg hm (pa_cons ha pa_nil hs) hs) fun σ H R ⟨μ, M, σ', r, e, q⟩ => ?_
  unfold denIt at q
  obtain ⟨μ1, M1, τ, r1, e1, g1⟩ := LE.bind r e q
  refine ⟨μ1, M1, τ, r1, e1, g1.mono (fun u H2 ⟨μ2, M2, v, s2, r2, e2, rv, _, g2⟩ => ?_) fun _ _ _ z => z⟩
  cases h : seqW v M2 with
  | none => rw [h] at g2; exact g2.elim
  | some k =>
    rw [h] at g2
    obtain ⟨p, rfl, src⟩ := srcR_of rv h
    obtain ⟨vs, (⟨i, rfl, z⟩ | ⟨xs, rfl, z⟩), q⟩ := src_now r2 src
    · exact ⟨p, vs, rfl, .inl ⟨z, Good.now g2 r2 (walk_enL src)⟩⟩
    · exact ⟨p, vs, rfl, .inr ⟨z, Good.now g2 r2 (walk_enT src)⟩⟩
theorem li_zip (hg : Gl X "zip") (hm : X.mg "zip" = none) (ha : PE X a (LE X fld hx W (denE w ca))) (hb : PE X b (LE X fld hx W (denE w cb))) (hs : starEach [a, b] X.env = (false, eval a X.env) :: starEach [b] X.env) (hs2 : starEach [b] X.env = (false, eval b X.env) :: starEach [] X.env)
    (hpl : (backTo pos (starEach [b] X.env)).any (·.1) = false) :
    PI X (.Tuple es kk tpos) (.Call (.Name "zip" p) [a, b] [] pos) (LI X fld hx W (denIt w (.zip ca cb))) := by
  refine PI.weak (RZ.pi_zipA hg hm (pa_cons ha (pa_cons hb pa_nil hs2) hs) hs hpl) fun σ H R ⟨μ, M, σ', r, e, q⟩ => ?_
  unfold denIt at q
  obtain ⟨μ1, M1, τ, r1, e1, g1⟩ := LE.bind r e q
  refine ⟨μ1, M1, τ, r1, e1, g1.mono (fun u H2 ⟨μ2, M2, v, s2, r2, e2, rv, _, g2⟩ => ?_) fun _ _ _ z => z⟩
  obtain ⟨μ3, M3, τ3, r3, e3, g3⟩ := LE.bind r2 e2 g2
  refine ⟨μ3, M3, τ3, r3, e3, g3.mono (fun u' H4 ⟨μ4, M4, v', s4, r4, e4, rv', _, g4⟩ => ?_) fun _ _ _ z => z⟩
  have rv := rv.step s4
  cases h : seqW v M4 with
  | none => rw [h] at g4; exact g4.elim
  | some k =>
    rw [h] at g4
    cases h' : seqW v' M4 with
    | none => simp only [opt, h', Out.bind] at g4; exact g4.elim
    | some l =>
      simp only [opt, h', Out.bind] at g4
      by_cases c : v.isTup = v'.isTup
      case neg => rw [if_neg c] at g4; exact g4.elim
      rw [if_pos c] at g4
      obtain ⟨p, rfl, src⟩ := srcR_of rv h
      obtain ⟨p', rfl, src'⟩ := srcR_of rv' h'
      obtain ⟨vs, (⟨i, rfl, z⟩ | ⟨xs, rfl, z⟩), q⟩ := src_now r4 src
      · obtain ⟨ws, (⟨j, rfl, z'⟩ | ⟨ys, rfl, z'⟩), q'⟩ := src_now r4 src'
        · exact ⟨p, p', vs, ws, rfl, .inl ⟨z, z', g4.now r4 (walk_zipL src src')⟩⟩
        · cases c
      · obtain ⟨ws, (⟨j, rfl, z'⟩ | ⟨ys, rfl, z'⟩), q'⟩ := src_now r4 src'
        · cases c
        · exact ⟨p, p', vs, ws, rfl, .inr ⟨z, z', g4.now r4 (walk_zipT src src')⟩⟩
theorem lim_eq : lim = 2 ^ 62 := by unfold lim; decide
theorem li_rng (hg : Gl X "range") (hm : X.mg "range" = none) (ha : PE X a (LE X fld hx W (denE w ca))) (hs : starEach [a] X.env = (false, eval a X.env) :: starEach [] X.env) (hs0 : starEach [] X.env = []) :
    PI X tg (.Call (.Name "range" p) [a] [] pos) (LI X fld hx W (denIt w (.rng ca))) := by
  refine PI.weak (pi_range1 hg hm (pa_cons ha pa_nil hs) (by rw [hs, hs0])) fun σ H R ⟨μ, M, σ', r, e, q⟩ => ?_
  unfold denIt at q
  obtain ⟨μ1, M1, τ, r1, e1, g1⟩ := LE.bind r e q
  refine ⟨μ1, M1, τ, r1, e1, g1.mono (fun u H2 ⟨μ2, M2, v, s2, r2, e2, rv, _, g2⟩ => ?_) fun _ _ _ z => z⟩
  cases rv with
  | int i =>
    have g2 : Good X.K X.mg fld (WalkR X.K X.mg) μ2 H2 M2 (WE W σ) R (if -lim ≤ i ∧ i < lim then .ok (rngL 0 i.toNat, []) M2 else .fail) := g2
    by_cases c : -lim ≤ i ∧ i < lim
    case neg => rw [if_neg c] at g2; exact g2.elim
    rw [if_pos c] at g2
    rw [lim_eq] at c
    exact ⟨i, rfl, c.1, c.2, g2.now r2 walk_rng⟩
  | _ => exact g2.elim
theorem li_rng2 (hg : Gl X "range") (hm : X.mg "range" = none) (ha : PE X a (LE X fld hx W (denE w ca))) (hb : PE X b (LE X fld hx W (denE w cb))) (hs : starEach [a, b] X.env = (false, eval a X.env) :: starEach [b] X.env) (hs2 : starEach [b] X.env = (false, eval b X.env) :: starEach [] X.env) (hs0 : starEach [] X.env = []) :
    PI X tg (.Call (.Name "range" p) [a, b] [] pos) (LI X fld hx W (denIt w (.rng2 ca cb))) := by
  refine PI.weak (pi_range2 hg hm (pa_cons ha (pa_cons hb pa_nil hs2) hs) (by rw [hs, hs2, hs0]) (by rw [hs2, hs0])) fun σ H R ⟨μ, M, σ', r, e, q⟩ => ?_
  unfold denIt at q
  obtain ⟨μ1, M1, τ, r1, e1, g1⟩ := LE.bind r e q
  refine ⟨μ1, M1, τ, r1, e1, g1.mono (fun u H2 ⟨μ2, M2, v, s2, r2, e2, rv, _, g2⟩ => ?_) fun _ _ _ z => z⟩
  obtain ⟨μ3, M3, τ3, r3, e3, g3⟩ := LE.bind r2 e2 g2
  refine ⟨μ3, M3, τ3, r3, e3, g3.mono (fun u' H4 ⟨μ4, M4, v', s4, r4, e4, rv', _, g4⟩ => ?_) fun _ _ _ z => z⟩
  cases rv with
  | int i =>
    cases rv' with
    | int j =>
      have g4 : Good X.K X.mg fld (WalkR X.K X.mg) μ4 H4 M4 (WE W σ) R (if -lim ≤ i ∧ i < lim ∧ -lim ≤ j ∧ j < lim then .ok (rngL i (j - i).toNat, []) M4 else .fail) := g4
      by_cases c : -lim ≤ i ∧ i < lim ∧ -lim ≤ j ∧ j < lim
      case neg => rw [if_neg c] at g4; exact g4.elim
      rw [if_pos c] at g4
      rw [lim_eq] at c
      exact ⟨i, j, rfl, c, g4.now r4 walk_rng⟩
    | _ => exact g4.elim
  | _ =>
    cases rv' <;> exact g4.elim
end
end Mini

set_option autoImplicit false
set_option linter.all false
set_option maxRecDepth 100000
/-! Mini9: targets, statements. -/
namespace Mini
open PySem PySem.Spec L2
open PyProof.Rows hiding St

mutual
def T.slots : T → List Nat
  | .nm i => [i]
  | .tup ts => ts.slots
  | _ => []
def Ts.slots : Ts → List Nat
  | .nil => []
  | .cons t ts => t.slots ++ ts.slots
end
/-- only these slots may differ -/
def Touch (is : List Nat) (σ σ2 : L2.St) : Prop := σ2.length = σ.length ∧ ∀ j, j ∉ is → σ2[j]? = σ[j]?
theorem Touch.refl {is : List Nat} {σ : L2.St} : Touch is σ σ := ⟨rfl, fun _ _ => rfl⟩
theorem Touch.trans {is js : List Nat} {σ σ1 σ2 : L2.St} (a : Touch is σ σ1) (b : Touch js σ1 σ2) : Touch (is ++ js) σ σ2 :=
  ⟨b.1.trans a.1, fun j h => (b.2 j fun z => h (List.mem_append_right _ z)).trans (a.2 j fun z => h (List.mem_append_left _ z))⟩
theorem Touch.set {i : Nat} {σ : L2.St} {v : Option V} : Touch [i] σ (σ.set i v) :=
  ⟨List.length_set .., fun j h => List.getElem?_set_ne (fun e => h (by rw [e]; exact List.mem_singleton.mpr rfl))⟩
theorem wipe_at {σ : L2.St} : ∀ {vs : List Nat} {j : Nat}, j ∈ vs → (L2.wipe σ vs)[j]? = (σ[j]?).map fun _ => none
  | v :: vs, j, h => by
    unfold L2.wipe
    by_cases e : j = v
    · subst e
      by_cases hl : j < (L2.wipe σ vs).length
      · rw [List.getElem?_set_self hl]
        rw [L2.wipe_length] at hl
        rw [List.getElem?_eq_getElem hl]; rfl
      · rw [List.getElem?_eq_none (by rw [List.length_set]; omega)]
        rw [L2.wipe_length] at hl
        rw [List.getElem?_eq_none (by omega)]; rfl
    · rw [List.getElem?_set_ne (Ne.symm e)]
      exact wipe_at (List.mem_of_ne_of_mem e h)
theorem Touch.wipe {is vs : List Nat} {σ σ2 : L2.St} (t : Touch is σ σ2) (h : ∀ i ∈ is, i ∈ vs) : L2.wipe σ2 vs = L2.wipe σ vs := by
  refine List.ext_getElem? fun j => ?_
  by_cases hj : j ∈ vs
  · rw [wipe_at hj, wipe_at hj]
    by_cases hl : j < σ.length
    · rw [List.getElem?_eq_getElem hl, List.getElem?_eq_getElem (by rw [t.1]; exact hl)]; rfl
    · rw [List.getElem?_eq_none (l := σ2) (by have z := t.1; omega), List.getElem?_eq_none (l := σ) (by omega)]
  · rw [L2.wipe_out hj, L2.wipe_out hj]
    exact t.2 j fun z => hj (h j z)

theorem Good.of_calm {K : PySem.W.Frag} {mg : Str → Option Value} {fld : Str → Option Str} {α β : Type} {R : Mu → Hp → Store → β → α → Prop} {μ : Mu} {H : Hp} {M : Store} {E E' : XK} {Q : β → Hp → Prop} {o : Out α} (g : Good K mg fld R μ H M E Q o.calm) : Good K mg fld R μ H M E' Q o := by
  cases o with
  | ok a M' => exact g
  | exc c fs M' => exact g.elim
  | fail => exact g

theorem PG.weak {X : Cx} {e : Expr} {t t' : TG} (h : PG X e t) (w : ∀ v σ H Q, t' v σ H Q → t v σ H Q) : PG X e t' := ⟨fun pins s σ H v u Q I r q => h.run pins s σ H v u Q I r (w v σ H Q q)⟩
theorem PGs.weak {X : Cx} {e : List Expr} {t t' : TGs} (h : PGs X e t) (w : ∀ v σ H Q, t' v σ H Q → t v σ H Q) : PGs X e t' := ⟨fun pins s σ H v u Q I r q => h.run pins s σ H v u Q I r (w v σ H Q q)⟩
theorem PG.or {X : Cx} {e : Expr} {t t' : TG} (h : PG X e t) (h' : PG X e t') : PG X e (fun v σ H Q => t v σ H Q ∨ t' v σ H Q) :=
  ⟨fun pins s σ H v u Q I r q => q.elim (h.run pins s σ H v u Q I r) (h'.run pins s σ H v u Q I r)⟩

section
variable (X : Cx) (fld : Str → Option Str) (hx : Hx)
abbrev REn (is : List Nat) (σ : L2.St) : Mu → Hp → Store → L2.St → Env → Prop := fun μ H M σ2 σ2' => EnvR X.K X.mg fld hx μ H M σ2 σ2' ∧ Touch is σ σ2
def LG (is : List Nat) (f : PV → Env → Store → Out Env) : TG := fun u σ H Q => ∃ E μ M σ' v, Rel X.K X.mg μ H M ∧ EnvR X.K X.mg fld hx μ H M σ σ' ∧ Rep X.K μ H M.length u v ∧ Good X.K X.mg fld (REn X fld hx is σ) μ H M E Q (f v σ' M)
def LGs (is : List Nat) (f : List PV → Env → Store → Out Env) : TGs := fun us σ H Q => ∃ E μ M σ' vs, Rel X.K X.mg μ H M ∧ EnvR X.K X.mg fld hx μ H M σ σ' ∧ Reps X.K μ H M.length us vs ∧ Good X.K X.mg fld (REn X fld hx is σ) μ H M E Q (f vs σ' M)
end
section
variable {X : Cx} {fld : Str → Option Str} {hx : Hx} {W : WX} {w : Wld} {tg a b c e i lo hi : Expr} {ca cb cc ci clo chi : E} {pos p p2 tpos apos : Pos} {es : List Expr} {ces : Es} {x : Str} {kk : Nat}
theorem lg_nm {i : Nat} (hN : X.N.Nodup) (hi : X.N[i]? = some x) (hl : Loc X.env.scope x) (hf : X.fn x = true ∨ X.env.scope.names.lookup x = some .local) : PG X (.Name x pos) (LG X fld hx [i] (denT w (.nm i))) := by
  refine PG.weak (pg_name hN hi hl hf) fun u σ H Q ⟨E, μ, M, σ', v, r, e, rv, q⟩ => ?_
  unfold denT at q
  by_cases c : i < σ'.length
  case neg => rw [if_neg c] at q; exact q.elim
  rw [if_pos c] at q
  exact q.now r ⟨e.set (.of rv), Touch.set⟩
theorem lgs_nil : PGs X [] (LGs X fld hx [] (denTs w .nil)) := by
  refine PGs.weak pgs_nil fun us σ H Q ⟨E, μ, M, σ', vs, r, e, rv, q⟩ => ?_
  cases rv with
  | nil => unfold denTs at q; exact ⟨rfl, q.now r ⟨e, Touch.refl⟩⟩
  | cons _ _ => unfold denTs at q; exact q.elim
theorem lgs_cons {is js : List Nat} {t : T} {ts : Ts} (h1 : PG X a (LG X fld hx is (denT w t))) (h2 : PGs X es (LGs X fld hx js (denTs w ts))) (hs : (assignEach (a :: es) X.env).map (·.2) = assign a X.env :: (assignEach es X.env).map (·.2)) :
    PGs X (a :: es) (LGs X fld hx (is ++ js) (denTs w (.cons t ts))) := by
  refine PGs.weak (pgs_cons h1 h2 hs) fun us σ H Q ⟨E, μ, M, σ', vs, r, e, rv, q⟩ => ?_
  cases rv with
  | nil => unfold denTs at q; exact q.elim
  | @cons u us v vs hu hus =>
    unfold denTs at q
    refine ⟨u, us, rfl, E, μ, M, σ', v, r, e, hu, ?_⟩
    refine (Good.bind (R := REn X fld hx is σ) q).mono (fun σ2 H2 ⟨μ2, M2, σ2', s2, r2, ⟨e2, t2⟩, _, g2⟩ => ?_) fun _ _ _ z => z
    refine ⟨E, μ2, M2, σ2', vs, r2, e2, hus.step s2, ?_⟩
    cases h : denTs w ts vs σ2' M2 with
    | ok σ3 M3 =>
      rw [h] at g2
      exact fun μ' H' b s r' ⟨q1, q2⟩ => g2 μ' H' b s r' ⟨q1, t2.trans q2⟩
    | exc c fs M3 => rw [h] at g2; exact g2
    | fail => rw [h] at g2; exact g2
theorem lg_tup {is : List Nat} {ts : Ts} (hc : X.calm = true) (h : PGs X es (LGs X fld hx is (denTs w ts))) (hn : (assignEach es X.env).length = ts.len) (hst : (assignEach es X.env).findIdx? (·.1) = none) :
    PG X (.Tuple es kk pos) (LG X fld hx is (denT w (.tup ts))) := by
  refine PG.weak (PG.or (pg_tup hc h hn hst) (pg_lst hc h hn hst)) fun u σ H Q ⟨E, μ, M, σ', v, r, e, rv, q⟩ => ?_
  unfold denT at q
  cases rv with
  | @tup pt vs xs hs rs =>
    dsimp only at q
    by_cases c : xs.length = ts.len
    case neg => rw [if_neg c] at q; exact q.elim
    rw [if_pos c] at q
    exact .inl ⟨pt, vs, rfl, hs, rs.length.trans c, E, μ, M, σ', xs, r, e, rs, q⟩
  | @loc k hk =>
    dsimp only at q
    cases e1 : M[k]? with
    | none => rw [e1] at q; exact q.elim
    | some o =>
      rw [e1] at q
      cases o with
      | lst xs =>
        dsimp only at q
        by_cases c : xs.length = ts.len
        case neg => rw [if_neg c] at q; exact q.elim
        rw [if_pos c] at q
        obtain ⟨vs, z, rs⟩ := r.lst e1
        exact .inr ⟨_, vs, rfl, .inl (.inl z), rs.length.trans c, E, μ, M, σ', xs, r, e, rs, q⟩
      | _ => exact q.elim
  | _ => exact q.elim
/-- o[i] = v by values -/
def RS (X : Cx) (fld : Str → Option Str) : V → V → V → Hp → (Hp → Prop) → Prop := fun o i v H Q => ∃ E μ M a b c, Rel X.K X.mg μ H M ∧ Rep X.K μ H M.length o a ∧ Rep X.K μ H M.length i b ∧ Rep X.K μ H M.length v c ∧
  Good X.K X.mg fld (fun _ _ _ (_ _ : Unit) => True) μ H M E (fun _ H' => Q H') (setV a b c M)
theorem pset : PSet X (RS X fld) := by
  intro pins s σ H o i v ov iv u Q I ro ri rv ⟨E, μ, M, a, b, c, r, ra, rb, rc, g⟩
  cases ra with
  | @loc p hp =>
    unfold setV at g
    dsimp only at g
    cases e : M[p]? with
    | none => rw [e] at g; exact g.elim
    | some ob =>
      rw [e] at g
      cases ob with
      | lst xs =>
        cases rb with
        | int k =>
          have g : Good X.K X.mg fld (fun _ _ _ (_ _ : Unit) => True) μ H M E (fun _ H' => Q H') (match Mini.ixN xs.length k with
            | some j => .ok () (M.set p (.lst (xs.set j c)))
            | none => .fail) := g
          cases hk : Mini.ixN xs.length k with
          | none => rw [hk] at g; exact g.elim
          | some j =>
            rw [hk] at g
            obtain ⟨vs, z, q⟩ := r.lst e
            refine set_list pins s σ H _ _ v ov iv u Q I ro ri rv ⟨_, vs, k, j, rfl, rfl, z, ?_, ?_⟩
            · rw [q.length]; exact hk
            · have s0 : Step X.K μ H M μ (upd H (μ p) (.lst (vs.set j v))) (M.set p (.lst (xs.set j c))) := Step.put hp z fun ws => (r.obj p _ e).notup
              refine Good.put (b := ()) g r hp z ⟨_, upd_same, ?_⟩ fun _ => trivial
              have z1 := (q.set j rc).step s0
              rw [List.length_set] at z1
              exact z1
        | _ => exact g.elim
      | dct _ => exact (r.obj p _ e).elim
      | _ => exact g.elim
  | _ => exact g.elim
def plainIxB : Expr → Bool
  | .Slice _ _ _ _ => false
  | _ => true
theorem plainIx_of {i : Expr} (h : plainIxB i = true) : PlainIx i := by
  intro o k
  cases i <;> first | rfl | cases h
theorem assign_sub {o i : Expr} {pos : Pos} {env : PySem.Env} (h : plainIxB i = true) : ∀ v, assign (.Subscript o i pos) env v = (do
      let ov ← holding [v] (eval o env)
      let iv ← holding [v, ov] (eval i env)
      standAt pos
      holding [v, ov, iv] (setItem ov iv v)
      release [v, ov, iv] []) := by
  intro v
  simp only [assign]
  cases i <;> first | rfl | cases h
end
end Mini

set_option autoImplicit false
set_option linter.all false
set_option maxRecDepth 100000
/-! Mini10: statements. -/
namespace Mini
open PySem PySem.Spec L2
open PyProof.Rows hiding St

section
variable (X : Cx) (fld : Str → Option Str) (hx : Hx)
def GoodS (μ : Mu) (H : Hp) (M : Store) (W : WX) (D : Ends) : SOut → Prop
  | .nx σ' M' => ∀ μ' H' σ, Step X.K μ H M μ' H' M' → Rel X.K X.mg μ' H' M' → EnvR X.K X.mg fld hx μ' H' M' σ σ' → D.nx σ H'
  | .rt v M' => ∀ μ' H' u, Step X.K μ H M μ' H' M' → Rel X.K X.mg μ' H' M' → Rep X.K μ' H' M'.length u v → D.rt u H'
  | .bk σ' M' => ∀ μ' H' σ, Step X.K μ H M μ' H' M' → Rel X.K X.mg μ' H' M' → EnvR X.K X.mg fld hx μ' H' M' σ σ' → D.bk σ H'
  | .ct σ' M' => ∀ μ' H' σ, Step X.K μ H M μ' H' M' → Rel X.K X.mg μ' H' M' → EnvR X.K X.mg fld hx μ' H' M' σ σ' → D.ct σ H'
  | .exc c fs σ' M' => ∀ μ' H' cls d σ, Step X.K μ H M μ' H' M' → Rel X.K X.mg μ' H' M' → EnvR X.K X.mg fld hx μ' H' M' σ σ' → ExR X.K X.mg fld μ' H' M'.length c fs cls d → W cls d σ H'
  | .fail => False
/-- a statement's reading: what f does -/
def LS (W : WX) (f : Env → Store → SOut) : TS := fun D σ H => ∃ μ M σ', Rel X.K X.mg μ H M ∧ EnvR X.K X.mg fld hx μ H M σ σ' ∧ GoodS X fld hx μ H M W D (f σ' M)
end
section
variable {X : Cx} {fld : Str → Option Str} {hx : Hx} {W : WX} {D D' : Ends} {μ μ' μ₁ : Mu} {H H' H₁ : Hp} {M M' M₁ : Store} {α β : Type}
theorem GoodS.step {o : SOut} (g : GoodS X fld hx μ H M W D o) (s : Step X.K μ H M μ₁ H₁ M₁) : GoodS X fld hx μ₁ H₁ M₁ W D o := by
  cases o with
  | nx σ' M' => exact fun μ' H' σ s' => g μ' H' σ (s.trans s')
  | rt v M' => exact fun μ' H' σ s' => g μ' H' σ (s.trans s')
  | bk σ' M' => exact fun μ' H' σ s' => g μ' H' σ (s.trans s')
  | ct σ' M' => exact fun μ' H' σ s' => g μ' H' σ (s.trans s')
  | exc c fs σ' M' => exact fun μ' H' c d σ s' => g μ' H' c d σ (s.trans s')
  | fail => exact g
theorem GoodS.at {R : Mu → Hp → Store → β → α → Prop} {σ : L2.St} {σ' : Env} {o : Out α} {k : α → Store → SOut} (r : Rel X.K X.mg μ H M) (e : EnvR X.K X.mg fld hx μ H M σ σ') (q : GoodS X fld hx μ H M W D (o.at σ' k)) :
    Good X.K X.mg fld R μ H M (WE W σ) (fun b H₁ => ∃ μ₁ M₁ a, Step X.K μ H M μ₁ H₁ M₁ ∧ Rel X.K X.mg μ₁ H₁ M₁ ∧ EnvR X.K X.mg fld hx μ₁ H₁ M₁ σ σ' ∧ R μ₁ H₁ M₁ b a ∧ GoodS X fld hx μ₁ H₁ M₁ W D (k a M₁)) o := by
  cases o with
  | ok a M' => exact fun μ' H' b s r' v => ⟨μ', M', a, s, r', e.step r s, v, GoodS.step q s⟩
  | exc c fs M' => exact fun μ' H' cls d s r' v => q μ' H' cls d σ s r' (e.step r s) v
  | fail => exact q
theorem LS.expr {f : Env → Store → Out PV} {σ : L2.St} {σ' : Env} {k : PV → Store → SOut} (r : Rel X.K X.mg μ H M) (e : EnvR X.K X.mg fld hx μ H M σ σ') (q : GoodS X fld hx μ H M W D ((f σ' M).at σ' k)) :
    LE X fld hx W f σ H (fun u H₁ => ∃ μ₁ M₁ v, Step X.K μ H M μ₁ H₁ M₁ ∧ Rel X.K X.mg μ₁ H₁ M₁ ∧ EnvR X.K X.mg fld hx μ₁ H₁ M₁ σ σ' ∧ Rep X.K μ₁ H₁ M₁.length u v ∧ GoodS X fld hx μ₁ H₁ M₁ W D (k v M₁)) :=
  ⟨μ, M, σ', r, e, GoodS.at r e q⟩
theorem LS.args {f : Env → Store → Out (List PV)} {σ : L2.St} {σ' : Env} {k : List PV → Store → SOut} (r : Rel X.K X.mg μ H M) (e : EnvR X.K X.mg fld hx μ H M σ σ') (q : GoodS X fld hx μ H M W D ((f σ' M).at σ' k)) :
    LA X fld hx W f σ H (fun u H₁ => ∃ μ₁ M₁ v, Step X.K μ H M μ₁ H₁ M₁ ∧ Rel X.K X.mg μ₁ H₁ M₁ ∧ EnvR X.K X.mg fld hx μ₁ H₁ M₁ σ σ' ∧ Reps X.K μ₁ H₁ M₁.length u v ∧ GoodS X fld hx μ₁ H₁ M₁ W D (k v M₁)) :=
  ⟨μ, M, σ', r, e, GoodS.at r e q⟩
theorem LS.iter {f : Env → Store → Out Wk} {σ : L2.St} {σ' : Env} {k : Wk → Store → SOut} (r : Rel X.K X.mg μ H M) (e : EnvR X.K X.mg fld hx μ H M σ σ') (q : GoodS X fld hx μ H M W D ((f σ' M).at σ' k)) :
    LI X fld hx W f σ H (fun u H₁ => ∃ μ₁ M₁ v, Step X.K μ H M μ₁ H₁ M₁ ∧ Rel X.K X.mg μ₁ H₁ M₁ ∧ EnvR X.K X.mg fld hx μ₁ H₁ M₁ σ σ' ∧ WalkR X.K X.mg μ₁ H₁ M₁ u v ∧ GoodS X fld hx μ₁ H₁ M₁ W D (k v M₁)) :=
  ⟨μ, M, σ', r, e, GoodS.at r e q⟩
/-- a test in a statement -/
theorem LS.test {f : Env → Store → Out PV} {σ : L2.St} {σ' : Env} {k : PV → Store → SOut} (r : Rel X.K X.mg μ H M) (e : EnvR X.K X.mg fld hx μ H M σ σ') (h2 : ∀ v M, blV v = none → k v M = .fail) (q : GoodS X fld hx μ H M W D ((f σ' M).at σ' k)) :
    LT X fld hx W (toT f) σ H (fun b H₁ => ∃ μ₁ M₁, Step X.K μ H M μ₁ H₁ M₁ ∧ Rel X.K X.mg μ₁ H₁ M₁ ∧ EnvR X.K X.mg fld hx μ₁ H₁ M₁ σ σ' ∧ GoodS X fld hx μ₁ H₁ M₁ W D (k (.bl b) M₁)) := by
  refine ⟨μ, M, σ', r, e, ?_⟩
  have g := GoodS.at (R := RV X.K) r e q
  unfold toT
  cases h : f σ' M with
  | fail => rw [h] at g; exact g
  | exc c fs M' => rw [h] at g; exact g
  | ok v M' =>
    rw [h] at g
    cases hb : blV v with
    | none =>
      rw [h] at q
      have z : GoodS X fld hx μ H M W D (k v M') := q
      rw [h2 v M' hb] at z
      exact z.elim
    | some b =>
      cases v with
      | bl b' =>
        have hb' : b' = b := Option.some.inj hb
        subst hb'
        intro μ2 H2 b2 s2 r2 eb
        have eb : b2 = b' := eb
        subst eb
        rw [h] at q
        exact ⟨μ2, M', s2, r2, e.step r s2, GoodS.step (show GoodS X fld hx μ H M W D (k (.bl b2) M') from q) s2⟩
      | _ => cases hb
end
section
variable {X : Cx} {fld : Str → Option Str} {hx : Hx} {W : WX} {w : Wld} {tg a b c e i lo hi it : Expr} {ca cb cc ci clo chi ce : E} {pos p p2 tpos apos : Pos} {es : List Expr} {ces : Es} {x : Str} {kk : Nat} {st : Stmt} {ss b1 b2 : List Stmt} {cs : S} {css cs1 cs2 : Ss}
theorem ls_bad : PS X st (LS X fld hx W (denS w (.expr .bad))) := ⟨fun _ _ _ _ _ _ ⟨_, _, _, _, _, q⟩ => q.elim⟩
theorem lss_bad : PSs X ss (LS X fld hx W (denSs w (.cons (.expr .bad) .nil))) := ⟨fun _ _ _ _ _ _ ⟨_, _, _, _, _, q⟩ => q.elim⟩
theorem lss_nil : PSs X [] (LS X fld hx W (denSs w .nil)) := PSs.weak pss_nil fun D σ H ⟨μ, M, σ', r, e, q⟩ => q μ H σ .refl r e
theorem lss_cons (h1 : PS X st (LS X fld hx W (denS w cs))) (h2 : PSs X ss (LS X fld hx W (denSs w css))) : PSs X (st :: ss) (LS X fld hx W (denSs w (.cons cs css))) := by
  refine PSs.weak (pss_cons h1 h2) fun D σ H ⟨μ, M, σ', r, e, q⟩ => ?_
  unfold denSs at q
  refine ⟨μ, M, σ', r, e, ?_⟩
  cases h : denS w cs σ' M with
  | nx σ2 M2 =>
    rw [h] at q
    exact fun μ' H' σ3 s r3 e3 => ⟨μ', M2, σ2, r3, e3, GoodS.step q s⟩
  | rt v M2 => rw [h] at q; exact q
  | bk σ2 M2 => rw [h] at q; exact q
  | ct σ2 M2 => rw [h] at q; exact q
  | exc c fs σ2 M2 => rw [h] at q; exact q
  | fail => rw [h] at q; exact q
theorem ls_pass : PS X (.Pass pos) (LS X fld hx W (denS w .pass)) := PS.weak ps_pass fun D σ H ⟨μ, M, σ', r, e, q⟩ => q μ H σ .refl r e
theorem ls_doc {z : Str} {j : Nat} {pos' : Pos} : PS X (.Expr (.Constant (.str z) j pos) pos') (LS X fld hx W (denS w .pass)) := PS.weak ps_doc fun D σ H ⟨μ, M, σ', r, e, q⟩ => q μ H σ .refl r e
theorem ls_break : PS X (.Break pos) (LS X fld hx W (denS w .brk)) := PS.weak ps_break fun D σ H ⟨μ, M, σ', r, e, q⟩ => q μ H σ .refl r e
theorem ls_cont : PS X (.Continue pos) (LS X fld hx W (denS w .cont)) := PS.weak ps_continue fun D σ H ⟨μ, M, σ', r, e, q⟩ => q μ H σ .refl r e
theorem ls_retN : PS X (.Return none pos) (LS X fld hx W (denS w .retN)) := PS.weak ps_retN fun D σ H ⟨μ, M, σ', r, e, q⟩ => q μ H .non .refl r .non
theorem ls_ret (h : PE X a (LE X fld hx W (denE w ca))) : PS X (.Return (some a) pos) (LS X fld hx W (denS w (.ret ca))) := by
  refine PS.weak (ps_ret h) fun D σ H ⟨μ, M, σ', r, e, q⟩ => ?_
  unfold denS at q
  obtain ⟨μ1, M1, τ, r1, e1, g1⟩ := LS.expr r e q
  exact ⟨μ1, M1, τ, r1, e1, g1.mono (fun u H2 ⟨μ2, M2, v, s2, r2, e2, rv, g2⟩ => g2 μ2 H2 u .refl r2 rv) fun _ _ _ z => z⟩
theorem ls_expr (h : PE X a (LE X fld hx W (denE w ca))) (hs : swapsWith a none pos.line X.env = pure false) : PS X (.Expr a pos) (LS X fld hx W (denS w (.expr ca))) := by
  refine PS.weak (ps_expr h hs) fun D σ H ⟨μ, M, σ', r, e, q⟩ => ?_
  unfold denS at q
  obtain ⟨μ1, M1, τ, r1, e1, g1⟩ := LS.expr r e q
  exact ⟨μ1, M1, τ, r1, e1, g1.mono (fun u H2 ⟨μ2, M2, v, s2, r2, e2, rv, g2⟩ => g2 μ2 H2 σ .refl r2 e2) fun _ _ _ z => z⟩
theorem ls_if (hc : PT X c (LT X fld hx W (toT (denE w cc)))) (h1 : PSs X b1 (LS X fld hx W (denSs w cs1))) (h2 : PSs X b2 (LS X fld hx W (denSs w cs2))) : PS X (.If c b1 b2 pos) (LS X fld hx W (denS w (.ife cc cs1 cs2))) := by
  refine PS.weak (ps_if hc h1 h2) fun D σ H ⟨μ, M, σ', r, e, q⟩ => ?_
  unfold denS at q
  obtain ⟨μ1, M1, τ, r1, e1, g1⟩ := LS.test r e (fun v M h => by cases v <;> first | rfl | cases h) q
  refine ⟨μ1, M1, τ, r1, e1, g1.mono (fun k H2 ⟨μ2, M2, s2, r2, e2, g2⟩ => ?_) fun _ _ _ z => z⟩
  cases k with
  | true => exact iteT ⟨μ2, M2, σ', r2, e2, g2⟩
  | false => exact iteF ⟨μ2, M2, σ', r2, e2, g2⟩

/-! ### assignments -/
theorem w_tgt {t : T} {is : List Nat} {D : Ends} {σ : L2.St} {H : Hp} {μ : Mu} {M : Store} {σ' : Env} {u : V} {v : PV} (r : Rel X.K X.mg μ H M) (e : EnvR X.K X.mg fld hx μ H M σ σ') (ru : Rep X.K μ H M.length u v) {k : Env → Store → SOut}
    (q : GoodS X fld hx μ H M W D ((denT w t v σ' M).at σ' k)) :
    LG X fld hx is (denT w t) u σ H (fun σ2 H2 => ∃ μ2 M2 σ2', Step X.K μ H M μ2 H2 M2 ∧ Rel X.K X.mg μ2 H2 M2 ∧ EnvR X.K X.mg fld hx μ2 H2 M2 σ2 σ2' ∧ Touch is σ σ2 ∧ GoodS X fld hx μ2 H2 M2 W D (k σ2' M2)) :=
  ⟨WE W σ, μ, M, σ', v, r, e, ru, (GoodS.at (R := REn X fld hx is σ) r e q).mono (fun _ _ ⟨μ2, M2, a, s2, r2, _, ⟨e2, t2⟩, g2⟩ => ⟨μ2, M2, a, s2, r2, e2, t2, g2⟩) fun _ _ _ z => z⟩
theorem ls_asg {t : T} {is : List Nat} (h : PE X a (LE X fld hx W (denE w ca))) (hg : PG X tg (LG X fld hx is (denT w t))) (hs : swapsWithSole [tg] a pos.line X.env = pure false) (hw : swappedStores [tg] a X.env = pure none) (h1 : (assignEach [tg] X.env).map (·.2) = [assign tg X.env]) :
    PS X (.Assign [tg] a pos) (LS X fld hx W (denS w (.asg t ca))) := by
  refine PS.weak (ps_asg h hg hs hw h1) fun D σ H ⟨μ, M, σ', r, e, q⟩ => ?_
  unfold denS at q
  obtain ⟨μ1, M1, τ, r1, e1, g1⟩ := LS.expr r e q
  refine ⟨μ1, M1, τ, r1, e1, g1.mono (fun u H2 ⟨μ2, M2, v, s2, r2, e2, rv, g2⟩ => ?_) fun _ _ _ z => z⟩
  obtain ⟨E, μ3, M3, σ3, v3, r3, e3, ru3, g3⟩ := w_tgt (is := is) r2 e2 rv g2
  exact ⟨E, μ3, M3, σ3, v3, r3, e3, ru3, g3.mono (fun σ4 H4 ⟨μ4, M4, σ4', s4, r4, e4, _, g4⟩ => g4 μ4 H4 σ4 .refl r4 e4) fun _ _ _ z => z⟩
theorem ls_set {i : Nat} {px : Pos} (hN : X.N.Nodup) (hi : X.N[i]? = some x) (hl : Loc X.env.scope x) (h : PE X a (LE X fld hx W (denE w ca))) (hs : swapsWith a (some (.Name x px)) pos.line X.env = pure false) (hf : X.fn x = true ∨ X.env.scope.names.lookup x = some .local) :
    PS X (.Assign [.Name x px] a pos) (LS X fld hx W (denS w (.asg (.nm i) ca))) := by
  refine PS.weak (ps_set hN hi hl h hs hf) fun D σ H ⟨μ, M, σ', r, e, q⟩ => ?_
  unfold denS at q
  obtain ⟨μ1, M1, τ, r1, e1, g1⟩ := LS.expr r e q
  refine ⟨μ1, M1, τ, r1, e1, g1.mono (fun u H2 ⟨μ2, M2, v, s2, r2, e2, rv, g2⟩ => ?_) fun _ _ _ z => z⟩
  unfold denT at g2
  by_cases c : i < σ'.length
  case neg => rw [if_neg c] at g2; exact g2.elim
  rw [if_pos c] at g2
  exact g2 μ2 H2 _ .refl r2 (e2.set (.of rv))
theorem ls_par {i j : Nat} {y : Str} {px py pt : Pos} {kt k2 : Nat} {pt2 : Pos} (hc : X.calm = true) (hN : X.N.Nodup) (hi : X.N[i]? = some x) (hj : X.N[j]? = some y) (hij : i ≠ j)
    (hx' : X.env.scope.names.lookup x = some .local) (hy : X.env.scope.names.lookup y = some .local) (ha : PA X [a, b] (LA X fld hx W (denEs w ces)))
    (hw : swappedStores [.Tuple [.Name x px, .Name y py] kt pt] (.Tuple [a, b] k2 pt2) X.env = pure (some [x, y]))
    (hs : swapsWithSole [.Tuple [.Name x px, .Name y py] kt pt] (.Tuple [a, b] k2 pt2) pos.line X.env = pure false) :
    PS X (.Assign [.Tuple [.Name x px, .Name y py] kt pt] (.Tuple [a, b] k2 pt2) pos) (LS X fld hx W (denS w (.par [i, j] ces))) := by
  refine PS.weak (ps_par hc hN hi hj hij hx' hy ha hw hs) fun D σ H ⟨μ, M, σ', r, e, q⟩ => ?_
  unfold denS at q
  obtain ⟨μ1, M1, τ, r1, e1, g1⟩ := LS.args r e q
  refine ⟨μ1, M1, τ, r1, e1, g1.mono (fun us H2 ⟨μ2, M2, vs, s2, r2, e2, rvs, g2⟩ => ?_) fun _ _ _ z => z⟩
  match vs, rvs, g2 with
  | [u, v], rvs, g2 =>
    obtain ⟨u', v', rfl, ru, rv⟩ := rvs.two
    exact ⟨u', v', rfl, g2 μ2 H2 _ .refl r2 ((e2.set (.of ru)).set (.of rv))⟩
  | [], _, g2 => exact g2.elim
  | [_], _, g2 => exact g2.elim
  | _ :: _ :: _ :: r, _, g2 =>
    rw [if_neg (by simp)] at g2
    exact g2.elim
theorem Reps.three {K : PySem.W.Frag} {μ : Mu} {H : Hp} {n : Nat} {us : List V} {x y z : PV} (h : Reps K μ H n us [x, y, z]) : ∃ u v w, us = [u, v, w] ∧ Rep K μ H n u x ∧ Rep K μ H n v y ∧ Rep K μ H n w z := by
  cases h with
  | cons a t =>
    obtain ⟨u, w, rfl, b, c⟩ := t.two
    exact ⟨_, u, w, rfl, a, b, c⟩
theorem ls_par3 {i j l : Nat} {y z : Str} {px py pz pt : Pos} {kt k2 : Nat} {pt2 : Pos} (hc : X.calm = true) (hN : X.N.Nodup) (hi : X.N[i]? = some x) (hj : X.N[j]? = some y) (hl : X.N[l]? = some z) (hij : i ≠ j) (hil : i ≠ l) (hjl : j ≠ l)
    (hx' : X.env.scope.names.lookup x = some .local) (hy : X.env.scope.names.lookup y = some .local) (hz : X.env.scope.names.lookup z = some .local) (ha : PA X [a, b, c] (LA X fld hx W (denEs w ces)))
    (hw : swappedStores [.Tuple [.Name x px, .Name y py, .Name z pz] kt pt] (.Tuple [a, b, c] k2 pt2) X.env = pure (some [x, y, z]))
    (hs : swapsWithSole [.Tuple [.Name x px, .Name y py, .Name z pz] kt pt] (.Tuple [a, b, c] k2 pt2) pos.line X.env = pure false) :
    PS X (.Assign [.Tuple [.Name x px, .Name y py, .Name z pz] kt pt] (.Tuple [a, b, c] k2 pt2) pos) (LS X fld hx W (denS w (.par [i, j, l] ces))) := by
  refine PS.weak (ps_par3 hc hN hi hj hl hij hil hjl hx' hy hz ha hw hs) fun D σ H ⟨μ, M, σ', r, e, q⟩ => ?_
  unfold denS at q
  obtain ⟨μ1, M1, τ, r1, e1, g1⟩ := LS.args r e q
  refine ⟨μ1, M1, τ, r1, e1, g1.mono (fun us H2 ⟨μ2, M2, vs, s2, r2, e2, rvs, g2⟩ => ?_) fun _ _ _ z => z⟩
  match vs, rvs, g2 with
  | [u, v, t], rvs, g2 =>
    obtain ⟨u', v', t', rfl, ru, rv, rt⟩ := rvs.three
    exact ⟨u', v', t', rfl, g2 μ2 H2 _ .refl r2 (((e2.set (.of ru)).set (.of rv)).set (.of rt))⟩
  | [], _, g2 => exact g2.elim
  | [_], _, g2 => exact g2.elim
  | [_, _], _, g2 => exact g2.elim
  | _ :: _ :: _ :: _ :: r, _, g2 =>
    rw [if_neg (by simp)] at g2
    exact g2.elim
/-- o.f = v -/
theorem w_fldS {cs : List Str} {f : Str} {D : Ends} {σ : L2.St} {σ' : Env} {μ : Mu} {H : Hp} {M : Store} {o : V} {u : V} {x v : PV} (hc : ∀ c ∈ cs, ∀ C, X.mg c = some (.ref C) → Cls X.K C ∧ NoAttr X.K C f) (r : Rel X.K X.mg μ H M) (e : EnvR X.K X.mg fld hx μ H M σ σ')
    (ro : Rep X.K μ H M.length o x) (ru : Rep X.K μ H M.length u v) (q : GoodS X fld hx μ H M W D ((fldS cs x f v M).at σ' fun _ M => .nx σ' M)) :
    ∃ a C dx fs, o = .ref a ∧ H a = some (.ins C dx fs) ∧ Cls X.K C ∧ NoAttr X.K C f ∧ fs.length < 1000 ∧ D.nx σ (upd H a (.ins C dx (putF f u fs))) := by
  cases ro with
  | @loc k hk =>
    unfold fldS at q
    dsimp only at q
    cases e3 : M[k]? with
    | none => rw [e3] at q; exact q.elim
    | some ob =>
      rw [e3] at q
      cases ob with
      | ins c fs =>
        dsimp only at q
        by_cases hcs : c ∈ cs ∧ fs.length < 100
        case neg => rw [if_neg hcs] at q; exact q.elim
        rw [if_pos hcs] at q
        obtain ⟨C, dx, vs, hm, hH, hf⟩ := r.obj k _ e3
        obtain ⟨h1, h2⟩ := hc c hcs.1 C hm
        refine ⟨_, C, dx, vs, rfl, hH, h1, h2, by rw [hf.length]; omega, ?_⟩
        have s0 : Step X.K μ H M μ (upd H (μ k) (.ins C dx (putF f u vs))) (M.set k (.ins c (putFl f v fs))) := Step.put hk hH fun ws => (r.obj k _ e3).notup
        obtain ⟨_, r'⟩ := r.put (ob := .ins c (putFl f v fs)) (o' := .ins C dx (putF f u vs)) hk hH ⟨C, dx, putF f u vs, hm, upd_same, (hf.mono s0.same (Nat.le_refl _) s0.tup).put (ru.mono s0.same (Nat.le_refl _) s0.tup)⟩
        exact q μ _ σ s0 r' (e.step r s0)
      | _ => exact q.elim
  | _ => exact q.elim
end
end Mini

set_option autoImplicit false
set_option linter.all false
set_option maxRecDepth 100000
/-! Mini11: fields and items written; loops; comprehensions; raise and try. -/
namespace Mini
open PySem PySem.Spec L2
open PyProof.Rows hiding St
section
variable {X : Cx} {fld : Str → Option Str} {hx : Hx} {W : WX} {w : Wld} {tg a b c e i lo hi it : Expr} {ca cb cc ci clo chi ce : E} {pos p p2 tpos apos : Pos} {es : List Expr} {ces : Es} {x : Str} {kk : Nat} {st : Stmt} {ss b1 b2 : List Stmt} {cs : S} {css cs1 cs2 : Ss}
theorem ls_fld {cs : List Str} {f : Str} {pos' : Pos} (ha : PE X a (LE X fld hx W (denE w ca))) (hb : PE X b (LE X fld hx W (denE w cb))) (hc : ∀ c ∈ cs, ∀ C, X.mg c = some (.ref C) → Cls X.K C ∧ NoAttr X.K C f)
    (hs : swapsWith b (some (.Attribute a f pos')) pos.line X.env = pure false) : PS X (.Assign [.Attribute a f pos'] b pos) (LS X fld hx W (denS w (.asg (.fl ca cs f) cb))) := by
  refine PS.weak (ps_fld ha hb hs) fun D σ H ⟨μ, M, σ', r, e, q⟩ => ?_
  unfold denS at q
  obtain ⟨μ1, M1, τ, r1, e1, g1⟩ := LS.expr r e q
  refine ⟨μ1, M1, τ, r1, e1, g1.mono (fun u H2 ⟨μ2, M2, v, s2, r2, e2, rv, g2⟩ => ?_) fun _ _ _ z => z⟩
  unfold denT at g2
  have g2' : GoodS X fld hx μ2 H2 M2 W D ((denE w ca σ' M2).at σ' fun x M => (fldS cs x f v M).at σ' fun _ M => .nx σ' M) := by
    cases h : denE w ca σ' M2 with
    | fail => rw [h] at g2; exact g2
    | exc c fs M3 => rw [h] at g2; exact g2.elim
    | ok y M3 =>
      rw [h] at g2
      show GoodS X fld hx μ2 H2 M2 W D ((fldS cs y f v M3).at σ' fun _ M => .nx σ' M)
      cases h2 : fldS cs y f v M3 with
      | fail => simp only [Out.bind, h2] at g2; exact g2
      | exc c fs M4 => simp only [Out.bind, h2] at g2; exact g2.elim
      | ok _ M4 => simp only [Out.bind, h2] at g2; exact g2
  obtain ⟨μ3, M3, τ3, r3, e3, g3⟩ := LS.expr r2 e2 g2'
  exact ⟨μ3, M3, τ3, r3, e3, g3.mono (fun o H4 ⟨μ4, M4, y, s4, r4, e4, ro, g4⟩ => w_fldS hc r4 e4 ro (rv.step s4) g4) fun _ _ _ z => z⟩
theorem lg_ix (ha : PE X a (LE X fld hx W (denE w ca))) (hi : PE X i (LE X fld hx W (denE w ci))) (hp : plainIxB i = true) : PG X (.Subscript a i pos) (LG X fld hx [] (denT w (.ix ca ci))) := by
  refine PG.weak (pg_sub ha hi (pset (fld := fld)) (assign_sub hp)) fun u σ H Q ⟨E, μ, M, σ', v, r, e, ru, q⟩ => ?_
  unfold denT at q
  have q := Good.of_calm (E' := WE W σ) q
  obtain ⟨μ1, M1, τ, r1, e1, g1⟩ := LE.bind r e q
  refine ⟨μ1, M1, τ, r1, e1, g1.mono (fun o H2 ⟨μ2, M2, x, s2, r2, e2, rx, _, g2⟩ => ?_) fun _ _ _ z => z⟩
  obtain ⟨μ3, M3, τ3, r3, e3, g3⟩ := LE.bind r2 e2 g2
  refine ⟨μ3, M3, τ3, r3, e3, g3.mono (fun j H4 ⟨μ4, M4, y, s4, r4, e4, ry, _, g4⟩ => ?_) fun _ _ _ z => z⟩
  refine ⟨WE W σ, μ4, M4, x, y, v, r4, rx.step s4, ry, (ru.step s2).step s4, ?_⟩
  exact (Good.bind (R := fun _ _ _ (_ _ : Unit) => True) g4).mono (fun _ H5 ⟨μ5, M5, _, s5, r5, _, _, g5⟩ => g5.now r5 ⟨e4.step r4 s5, Touch.refl⟩) fun _ _ _ z => z

/-! ### loops -/
theorem drop_cons {α : Type} {xs r : List α} {x : α} {i : Nat} (h : xs.drop i = x :: r) : xs[i]? = some x ∧ xs.drop (i + 1) = r ∧ i < xs.length := by
  have hl : i < xs.length := by
    refine Nat.lt_of_not_le fun z => ?_
    rw [List.drop_eq_nil_of_le z] at h
    cases h
  rw [List.drop_eq_getElem_cons hl] at h
  injection h with h1 h2
  exact ⟨by rw [List.getElem?_eq_getElem hl, h1], h2, hl⟩
theorem drop_nil {α : Type} {xs : List α} {i : Nat} (h : xs.drop i = []) : xs.length ≤ i := List.drop_eq_nil_iff.mp h
theorem ls_for {t : T} {ci : It} {is : List Nat} (hp : PassesOwn (model X.prog X.w) X.A X.env X.xe) (hc : X.calm = true) (hi : PI X tg it (LI X fld hx W (denIt w ci))) (hg : PG X tg (LG X fld hx is (denT w t))) (hb : PSs X ss (LS X fld hx W (denSs w css)))
    (hs : ∀ x, foldedSetIterable it X.env x = pure x) : PS X (.For tg it ss [] pos) (LS X fld hx W (denS w (.fo t ci css))) := by
  refine PS.weak (ps_for hp hc hi hg hb hs) fun D σ H ⟨μ, M, σ', r, e, q⟩ => ?_
  unfold denS at q
  obtain ⟨μ1, M1, τ, r1, e1, g1⟩ := LS.iter r e q
  refine ⟨μ1, M1, τ, r1, e1, g1.mono (fun J H2 ⟨μ2, M2, k, s2, r2, e2, wk, g2⟩ => ?_) fun _ _ _ z => z⟩
  refine ⟨fun i m σ H => m = k.1.length - i ∧ i ≤ k.1.length ∧ ∃ μ M σ', Step X.K μ2 H2 M2 μ H M ∧ Rel X.K X.mg μ H M ∧ EnvR X.K X.mg fld hx μ H M σ σ' ∧ GoodS X fld hx μ H M W D (forGo (denT w t) (denSs w css) k.2 (k.1.drop i) σ' M),
    ⟨_, rfl, Nat.zero_le _, μ2, M2, σ', .refl, r2, e2, g2⟩, ?_⟩
  rintro i m σ3 H3 ⟨rfl, hil, μ3, M3, σ3', s3, r3, e3, g3⟩
  cases hd : k.1.drop i with
  | nil =>
    rw [hd] at g3
    unfold forGo at g3
    by_cases hst : still k.2 M3 = true
    case neg => rw [if_neg hst] at g3; exact g3.elim
    rw [if_pos hst] at g3
    have hi : i = k.1.length := Nat.le_antisymm hil (drop_nil hd)
    subst hi
    exact .inl ⟨wk.stop μ3 H3 M3 s3.later r3 hst, g3 μ3 H3 σ3 .refl r3 e3⟩
  | cons y rest =>
    obtain ⟨hy, hd2, hlt⟩ := drop_cons hd
    rw [hd] at g3
    unfold forGo at g3
    by_cases hst : still k.2 M3 = true
    case neg => rw [if_neg hst] at g3; exact g3.elim
    rw [if_pos hst] at g3
    obtain ⟨go, yl⟩ := wk.go μ3 H3 M3 s3.later r3 hst i y hy
    refine .inr ⟨go, fun σ H => ∃ μ M σ', Step X.K μ2 H2 M2 μ H M ∧ Rel X.K X.mg μ H M ∧ EnvR X.K X.mg fld hx μ H M σ σ' ∧ GoodS X fld hx μ H M W D (forGo (denT w t) (denSs w css) k.2 rest σ' M), fun σ' H' ⟨μ4, M4, σ4', z1, z2, z3, z4⟩ => ?_, fun u H4 hy4 => ?_⟩
    · exact ⟨k.1.length - (i + 1), by omega, rfl, hlt, μ4, M4, σ4', z1, z2, z3, by rw [hd2]; exact z4⟩
    · obtain ⟨s4, r4, ru⟩ := yl u H4 hy4
      have e4 := e3.step r3 s4
      obtain ⟨E, μ5, M5, σ5, v5, r5, e5, ru5, g5⟩ := w_tgt (is := is) r4 e4 ru (g3.step s4)
      refine ⟨E, μ5, M5, σ5, v5, r5, e5, ru5, g5.mono (fun σ6 H6 ⟨μ6, M6, σ6', s6, r6, e6, _, g6⟩ => ?_) fun _ _ _ z => z⟩
      have s26 : Step X.K μ2 H2 M2 μ6 H6 M6 := (s3.trans s4).trans s6
      refine ⟨μ6, M6, σ6', r6, e6, ?_⟩
      cases hb6 : denSs w css σ6' M6 with
      | nx σ7 M7 =>
        rw [hb6] at g6
        exact fun μ' H' σ8 s8 r8 e8 => ⟨μ', M7, σ7, s26.trans s8, r8, e8, GoodS.step g6 s8⟩
      | ct σ7 M7 =>
        rw [hb6] at g6
        exact fun μ' H' σ8 s8 r8 e8 => ⟨μ', M7, σ7, s26.trans s8, r8, e8, GoodS.step g6 s8⟩
      | bk σ7 M7 =>
        rw [hb6] at g6
        exact fun μ' H' σ8 s8 r8 e8 => g6 μ' H' σ8 s8 r8 e8
      | rt v M7 => rw [hb6] at g6; exact g6
      | exc c fs σ7 M7 => rw [hb6] at g6; exact g6
      | fail => rw [hb6] at g6; exact g6
theorem ls_whl (hp : PassesOwn (model X.prog X.w) X.A X.env X.xe) (hc : PT X c (LT X fld hx W (toT (denE w cc)))) (hb : PSs X ss (LS X fld hx W (denSs w css))) : PS X (.While c ss [] pos) (LS X fld hx W (denS w (.whl cc css))) := by
  refine PS.weak (ps_while hp hc hb) fun D σ H ⟨μ, M, σ', r, e, q⟩ => ?_
  unfold denS at q
  refine ⟨fun m σ H => ∃ μ M σ', Rel X.K X.mg μ H M ∧ EnvR X.K X.mg fld hx μ H M σ σ' ∧ GoodS X fld hx μ H M W D (whlGo (denE w cc) (denSs w css) m σ' M), ⟨turns, μ, M, σ', r, e, q⟩, ?_⟩
  rintro m σ1 H1 ⟨μ1, M1, σ1', r1, e1, g1⟩
  cases m with
  | zero => unfold whlGo at g1; exact g1.elim
  | succ m =>
    unfold whlGo at g1
    obtain ⟨μ2, M2, τ2, r2, e2, g2⟩ := LS.test r1 e1 (fun v M h => by cases v <;> first | rfl | cases h) g1
    refine ⟨μ2, M2, τ2, r2, e2, g2.mono (fun k H3 ⟨μ3, M3, s3, r3, e3, g3⟩ => ?_) fun _ _ _ z => z⟩
    cases k with
    | false => exact iteF (g3 μ3 H3 σ1 .refl r3 e3)
    | true =>
      refine iteT ⟨fun σ H => ∃ μ M σ', Rel X.K X.mg μ H M ∧ EnvR X.K X.mg fld hx μ H M σ σ' ∧ GoodS X fld hx μ H M W D (whlGo (denE w cc) (denSs w css) m σ' M), fun σ' H' z => ⟨m, Nat.lt_succ_self m, z⟩, ?_⟩
      refine ⟨μ3, M3, σ1', r3, e3, ?_⟩
      dsimp only at g3
      cases hb6 : denSs w css σ1' M3 with
      | nx σ7 M7 =>
        rw [hb6] at g3
        exact fun μ' H' σ8 s8 r8 e8 => ⟨μ', M7, σ7, r8, e8, GoodS.step g3 s8⟩
      | ct σ7 M7 =>
        rw [hb6] at g3
        exact fun μ' H' σ8 s8 r8 e8 => ⟨μ', M7, σ7, r8, e8, GoodS.step g3 s8⟩
      | bk σ7 M7 =>
        rw [hb6] at g3
        exact fun μ' H' σ8 s8 r8 e8 => g3 μ' H' σ8 s8 r8 e8
      | rt v M7 => rw [hb6] at g3; exact g3
      | exc c fs σ7 M7 => rw [hb6] at g3; exact g3
      | fail => rw [hb6] at g3; exact g3
end
end Mini

set_option autoImplicit false
set_option linter.all false
set_option maxRecDepth 100000
/-! Mini12: comprehensions. -/
namespace Mini
open PySem PySem.Spec L2
open PyProof.Rows hiding St

theorem wipe_wipe {σ : L2.St} {vs : List Nat} : L2.wipe (L2.wipe σ vs) vs = L2.wipe σ vs := by
  refine List.ext_getElem? fun j => ?_
  by_cases hj : j ∈ vs
  · rw [wipe_at hj, wipe_at hj]
    cases σ[j]? <;> rfl
  · rw [L2.wipe_out hj]
section
variable {K : PySem.W.Frag} {mg : Str → Option Value} {fld : Str → Option Str} {μ0 μ μ' μ1 : Mu} {H0 H H' H1 : Hp} {M0 M M' M1 : Store} {D : Addr}
theorem EnvR.later {σ : L2.St} {σ' : Env} (h : EnvR K mg fld none μ H M σ σ') (s : Later K μ H M μ' H' M') : EnvR K mg fld none μ' H' M' σ σ' := by
  refine ⟨h.len, fun i v e => ?_⟩
  obtain ⟨u, e', q⟩ := h.at_ i v e
  refine ⟨u, e', ?_⟩
  cases v with
  | exn c fs => obtain ⟨a, cls, d, z, _⟩ := q; cases z
  | non => exact Rep.later (show Rep K μ H M.length u .non from q) s
  | bl b => exact Rep.later (show Rep K μ H M.length u (.bl b) from q) s
  | int b => exact Rep.later (show Rep K μ H M.length u (.int b) from q) s
  | str b => exact Rep.later (show Rep K μ H M.length u (.str b) from q) s
  | tup b => exact Rep.later (show Rep K μ H M.length u (.tup b) from q) s
  | loc b => exact Rep.later (show Rep K μ H M.length u (.loc b) from q) s
theorem tup_put {a b : List V} (hD : H D = some (.lst a)) : ∀ p vs, SqT K H p vs → SqT K (L2.upd H D (.lst b)) p vs := fun p vs h => by
  rcases h with (h | ⟨o, h⟩) | h
  · have hne : p ≠ D := fun e => by rw [e, hD] at h; cases h
    exact .inl (.inl (by rw [upd_ne hne]; exact h))
  · have hne : p ≠ D := fun e => by rw [e, hD] at h; cases h
    exact .inl (.inr ⟨o, by rw [upd_ne hne]; exact h⟩)
  · exact .inr h
theorem later_put {a b : List V} (hD : H D = some (.lst a)) : Later K μ H M μ (L2.upd H D (.lst b)) M := ⟨fun _ _ => rfl, Nat.le_refl _, tup_put hD⟩
/-- a list D that stands by, not among ours -/
structure Aside (K : PySem.W.Frag) (mg : Str → Option Value) (D : Addr) (μ0 : Mu) (H0 : Hp) (M0 : Store) (μ : Mu) (H : Hp) (M : Store) (us : List V) (acc : List PV) : Prop where
  st : Step K μ0 H0 M0 μ H M
  rel : Rel K mg μ H M
  at_ : H D = some (.lst us)
  off : ∀ i, i < M.length → μ i ≠ D
  rs : Reps K μ H M.length us acc
theorem Aside.step {us : List V} {acc : List PV} (h : Aside K mg D μ0 H0 M0 μ H M us acc) (s : Step K μ H M μ' H' M') (r : Rel K mg μ' H' M') : Aside K mg D μ0 H0 M0 μ' H' M' us acc :=
  ⟨h.st.trans s, r, s.frame D _ h.at_ h.off, (fun i hi => by
    by_cases hl : i < M.length
    · rw [s.same i hl]; exact h.off i hl
    · intro e
      have z := s.new i (Nat.le_of_not_lt hl) hi
      rw [e, h.at_] at z
      cases z), h.rs.step s⟩
theorem Aside.put {us : List V} {acc : List PV} (h0 : H0 D = none) (h : Aside K mg D μ0 H0 M0 μ H M us acc) {u : V} {v : PV} (r : Rep K μ H M.length u v) : Aside K mg D μ0 H0 M0 μ (L2.upd H D (.lst (us ++ [u]))) M (us ++ [u]) (acc ++ [v]) := by
  have ht := tup_put (K := K) (b := us ++ [u]) h.at_
  refine ⟨⟨h.st.same, h.st.grow, fun a o e hx => ?_, fun a e => ?_, h.st.new, fun p vs q => ht p vs (h.st.tup p vs q)⟩, ⟨h.rel.inj, fun i o e => ?_⟩, upd_same, h.off, ?_⟩
  · rw [upd_ne (fun z => by rw [z, h0] at e; cases e)]
    exact h.st.frame a o e hx
  · by_cases z : a = D
    · rw [z]; exact h0
    · rw [upd_ne z] at e; exact h.st.there a e
  · exact (h.rel.obj i o e).mono (fun _ _ => rfl) (Nat.le_refl _) ht fun x q => by rw [upd_ne (h.off i (Rel.lt e))]; exact q
  · exact (h.rs.append (.cons r .nil)).mono (fun _ _ => rfl) (Nat.le_refl _) ht
/-- at the end the list is ours -/
theorem Aside.done {us : List V} {acc : List PV} (h0 : H0 D = none) (h : Aside K mg D μ0 H0 M0 μ H M us acc) {E : XK} {Q : V → Hp → Prop} (g : Good K mg fld (RV K) μ0 H0 M0 E Q (.ok (.loc M.length) (M ++ [.lst acc]))) : Q (.ref D) H := by
  have ln : (M ++ [PO.lst acc]).length = M.length + 1 := by rw [List.length_append]; rfl
  refine g (ext μ M.length D) H (.ref D) ⟨fun i hi => ?_, ?_, h.st.frame, h.st.there, fun i hi hl => ?_, h.st.tup⟩ ⟨fun i j hi hj e => ?_, fun i o e => ?_⟩ ?_
  · rw [ext_lt (Nat.lt_of_lt_of_le hi h.st.grow)]; exact h.st.same i hi
  · rw [ln]; exact Nat.le_succ_of_le h.st.grow
  · rw [ln] at hl
    by_cases z : i < M.length
    · rw [ext_lt z]; exact h.st.new i hi z
    · have e : i = M.length := Nat.le_antisymm (Nat.le_of_lt_succ hl) (Nat.le_of_not_lt z)
      rw [e, ext_at]; exact h0
  · rw [ln] at hi hj
    by_cases z : i < M.length <;> by_cases z' : j < M.length
    · rw [ext_lt z, ext_lt z'] at e; exact h.rel.inj i j z z' e
    · have ej : j = M.length := Nat.le_antisymm (Nat.le_of_lt_succ hj) (Nat.le_of_not_lt z')
      rw [ext_lt z, ej, ext_at] at e
      exact absurd e (h.off i z)
    · have ei : i = M.length := Nat.le_antisymm (Nat.le_of_lt_succ hi) (Nat.le_of_not_lt z)
      rw [ext_lt z', ei, ext_at] at e
      exact absurd e.symm (h.off j z')
    · omega
  · rw [ln]
    by_cases z : i < M.length
    · rw [List.getElem?_append_left z] at e
      rw [ext_lt z]
      exact (h.rel.obj i o e).mono (fun j hj => ext_lt hj) (Nat.le_succ _) (fun _ _ q => q) fun _ q => q
    · have hi := Rel.lt e
      rw [ln] at hi
      have ei : i = M.length := Nat.le_antisymm (Nat.le_of_lt_succ hi) (Nat.le_of_not_lt z)
      subst ei
      rw [List.getElem?_append_right (Nat.le_refl _), Nat.sub_self] at e
      cases e
      rw [ext_at]
      exact ⟨us, h.at_, h.rs.mono (fun j hj => ext_lt hj) (Nat.le_succ _) fun _ _ q => q⟩
  · have z : Rep K (ext μ M.length D) H (M ++ [PO.lst acc]).length (.ref (ext μ M.length D M.length)) (.loc M.length) := .loc (by rw [ln]; exact Nat.lt_succ_self _)
    rw [ext_at] at z
    exact z
theorem Good.from {α β γ δ : Type} {R : Mu → Hp → Store → β → α → Prop} {R' : Mu → Hp → Store → δ → γ → Prop} {E : XK} {Q : δ → Hp → Prop} {o : Out α} {k : α → Store → Out γ} (g : Good K mg fld R' μ0 H0 M0 E Q (o.bind k)) (s : Step K μ0 H0 M0 μ H M) :
    Good K mg fld R μ H M E (fun b H₁ => ∃ μ₁ M₁ a, Step K μ H M μ₁ H₁ M₁ ∧ Rel K mg μ₁ H₁ M₁ ∧ R μ₁ H₁ M₁ b a ∧ o = .ok a M₁ ∧ Good K mg fld R' μ0 H0 M0 E Q (k a M₁)) o := by
  cases o with
  | ok a M' => exact fun μ' H' b s' r q => ⟨μ', M', a, s', r, q, rfl, g⟩
  | exc c fs M' => exact fun μ' H' cls d s' r q => g μ' H' cls d (s.trans s') r q
  | fail => exact g
theorem Good.calm_bind {α γ δ : Type} {R' : Mu → Hp → Store → δ → γ → Prop} {E E' : XK} {Q : δ → Hp → Prop} {o : Out α} {k : α → Store → Out γ} (g : Good K mg fld R' μ H M E Q (o.bind k).calm) : Good K mg fld R' μ H M E' Q (o.bind fun a M => (k a M).calm) := by
  cases o with
  | ok a M' =>
    refine Good.of_calm (E := E) ?_
    have g : Good K mg fld R' μ H M E Q (k a M').calm := g
    show Good K mg fld R' μ H M E Q (k a M').calm.calm
    cases h : k a M' with
    | ok b M2 => rw [h] at g; exact g
    | exc c fs M2 => rw [h] at g; exact g
    | fail => rw [h] at g; exact g
  | exc c fs M' => exact g.elim
  | fail => exact g
end

/-- no wish about exceptions: there are none -/
abbrev W0 : WX := fun _ _ _ _ => False
section
variable {X : Cx} {fld : Str → Option Str} {W : WX} {w : Wld} {a b c e i lo hi it : Expr} {ca cb cc ci clo chi ce : E}
/-- the turns of a clause -/
theorem lc_turns {own is : List Nat} {t : T} {J : L2.It} {k : Wk} {σ : L2.St} {σ' : Env} {D : Addr} {μ0 μs : Mu} {H0 Hs : Hp} {M0 Ms : Store} {γ : Type} {δ : Type} {R' : Mu → Hp → Store → δ → γ → Prop} {Q : δ → Hp → Prop} {body : Env → List PV → Store → Out (List PV)} {Fin : Hp → Prop} {Kk : List PV → Store → Out γ}
    {Body : L2.St → Hp → (Hp → Prop) → Prop} (wk : WalkR X.K X.mg μs Hs Ms J k) (en : EnvR X.K X.mg fld none μs Hs Ms σ σ') (hsl : ∀ i ∈ is, i ∈ own)
    (hF : ∀ μ H M us acc, Aside X.K X.mg D μ0 H0 M0 μ H M us acc → Later X.K μs Hs Ms μ H M → Good X.K X.mg fld R' μ0 H0 M0 (fun _ _ _ => False) Q (Kk acc M) → Fin H)
    (hB : ∀ (Nx : Hp → Prop) (K2 : List PV → Store → Out γ) σ2 σ2' μ H M us acc, Aside X.K X.mg D μ0 H0 M0 μ H M us acc → Later X.K μs Hs Ms μ H M → EnvR X.K X.mg fld none μ H M σ2 σ2' → Good X.K X.mg fld R' μ0 H0 M0 (fun _ _ _ => False) Q ((body σ2' acc M).bind K2) →
      (∀ μ H M us acc, Aside X.K X.mg D μ0 H0 M0 μ H M us acc → Later X.K μs Hs Ms μ H M → Good X.K X.mg fld R' μ0 H0 M0 (fun _ _ _ => False) Q (K2 acc M) → Nx H) → Body σ2 H Nx)
    {μ1 : Mu} {H1 : Hp} {M1 : Store} {us1 : List V} {acc1 : List PV} (as : Aside X.K X.mg D μ0 H0 M0 μ1 H1 M1 us1 acc1) (ls : Later X.K μs Hs Ms μ1 H1 M1)
    (g : Good X.K X.mg fld R' μ0 H0 M0 (fun _ _ _ => False) Q ((lpGo (fun v σ M => denT w t v (wipe σ own) M) body k.2 σ' k.1 acc1 M1).bind Kk)) :
    ∃ W : Nat → Nat → Hp → Prop, (∃ m, W 0 m H1) ∧ ∀ i m H, W i m H → (J.stop i H ∧ Fin H) ∨ (J.go i H ∧ ∃ Nx : Hp → Prop, (∀ H', Nx H' → ∃ m', m' < m ∧ W (i + 1) m' H') ∧
      ∀ x H', J.yld i H x H' → LG X fld none is (denT w t) x (L2.wipe σ own) H' fun σ2 H2 => L2.wipe σ2 own = L2.wipe σ own ∧ Body σ2 H2 Nx) := by
  refine ⟨fun i m H => m = k.1.length - i ∧ i ≤ k.1.length ∧ ∃ μ M us acc, Aside X.K X.mg D μ0 H0 M0 μ H M us acc ∧ Later X.K μs Hs Ms μ H M ∧
    Good X.K X.mg fld R' μ0 H0 M0 (fun _ _ _ => False) Q ((lpGo (fun v σ M => denT w t v (wipe σ own) M) body k.2 σ' (k.1.drop i) acc M).bind Kk), ⟨_, rfl, Nat.zero_le _, μ1, M1, us1, acc1, as, ls, g⟩, ?_⟩
  rintro i m H ⟨rfl, hil, μ, M, us, acc, as, ls, g⟩
  cases hd : k.1.drop i with
  | nil =>
    rw [hd] at g
    unfold lpGo at g
    by_cases hst : still k.2 M = true
    case neg => rw [if_neg hst] at g; exact g.elim
    rw [if_pos hst] at g
    have hi : i = k.1.length := Nat.le_antisymm hil (drop_nil hd)
    subst hi
    exact .inl ⟨wk.stop μ H M ls as.rel hst, hF μ H M us acc as ls g⟩
  | cons y rest =>
    obtain ⟨hy, hd2, hlt⟩ := drop_cons hd
    rw [hd] at g
    unfold lpGo at g
    by_cases hst : still k.2 M = true
    case neg => rw [if_neg hst] at g; exact g.elim
    rw [if_pos hst] at g
    obtain ⟨go, yl⟩ := wk.go μ H M ls as.rel hst i y hy
    refine .inr ⟨go, fun H => ∃ μ M us acc, Aside X.K X.mg D μ0 H0 M0 μ H M us acc ∧ Later X.K μs Hs Ms μ H M ∧
      Good X.K X.mg fld R' μ0 H0 M0 (fun _ _ _ => False) Q ((lpGo (fun v σ M => denT w t v (wipe σ own) M) body k.2 σ' rest acc M).bind Kk), fun H' ⟨μ4, M4, us4, acc4, z1, z2, z3⟩ => ?_, fun u H4 hy4 => ?_⟩
    · exact ⟨k.1.length - (i + 1), by omega, rfl, hlt, μ4, M4, us4, acc4, z1, z2, by rw [hd2]; exact z3⟩
    · obtain ⟨s4, r4, ru⟩ := yl u H4 hy4
      have as4 := as.step s4 r4
      have ls4 := ls.trans s4.later
      have e4 := (en.later ls4).wipe own
      have g1 : Good X.K X.mg fld R' μ0 H0 M0 (fun _ _ _ => False) Q ((denT w t y (wipe σ' own) M).bind fun σ₂ M => ((body σ₂ acc M).bind fun acc M => lpGo (fun v σ M => denT w t v (wipe σ own) M) body k.2 σ' rest acc M).bind Kk) := by
        cases h : denT w t y (wipe σ' own) M with
        | ok z M5 => rw [h] at g; exact g
        | exc c fs M5 => rw [h] at g; exact g
        | fail => rw [h] at g; exact g
      refine ⟨fun _ _ _ => False, μ, M, wipe σ' own, y, r4, e4, ru, (Good.from (R := REn X fld none is (L2.wipe σ own)) g1 as4.st).mono (fun σ2 H5 ⟨μ5, M5, σ5', s5, r5, ⟨e5, t5⟩, _, g5⟩ => ⟨by rw [t5.wipe hsl, wipe_wipe], ?_⟩) fun _ _ _ z => z⟩
      have g6 : Good X.K X.mg fld R' μ0 H0 M0 (fun _ _ _ => False) Q ((body σ5' acc M5).bind fun acc M => (lpGo (fun v σ M => denT w t v (wipe σ own) M) body k.2 σ' rest acc M).bind Kk) := by
        cases h : body σ5' acc M5 with
        | ok z M6 => rw [h] at g5; exact g5
        | exc c fs M6 => rw [h] at g5; exact g5
        | fail => rw [h] at g5; exact g5
      exact hB _ _ σ2 σ5' μ5 H5 M5 us acc (as4.step s5 r5) (ls4.trans s5.later) e5 g6 fun μ7 H7 M7 us7 acc7 as7 ls7 g7 => ⟨μ7, M7, us7, acc7, as7, ls7, g7⟩
/-- the last clause's turn -/
theorem lc_body {D : Addr} {μ0 μs : Mu} {H0 Hs : Hp} {M0 Ms : Store} {γ : Type} {δ : Type} {R' : Mu → Hp → Store → δ → γ → Prop} {Q : δ → Hp → Prop} (h0 : H0 D = none) :
    ∀ (Nx : Hp → Prop) (K2 : List PV → Store → Out γ) σ2 σ2' μ H M us acc, Aside X.K X.mg D μ0 H0 M0 μ H M us acc → Later X.K μs Hs Ms μ H M → EnvR X.K X.mg fld none μ H M σ2 σ2' → Good X.K X.mg fld R' μ0 H0 M0 (fun _ _ _ => False) Q ((lcB (denE w cc) (denE w ce) σ2' acc M).bind K2) →
      (∀ μ H M us acc, Aside X.K X.mg D μ0 H0 M0 μ H M us acc → Later X.K μs Hs Ms μ H M → Good X.K X.mg fld R' μ0 H0 M0 (fun _ _ _ => False) Q (K2 acc M) → Nx H) →
      LT X fld none W0 (toT (denE w cc)) σ2 H fun b H3 => if b = true then LE X fld none W0 (denE w ce) σ2 H3 fun y H4 => ∃ acc, H4 D = some (.lst acc) ∧ acc.length < sizeLine ∧ Nx (L2.upd H4 D (.lst (acc ++ [y]))) else Nx H3 := by
  intro Nx K2 σ2 σ2' μ H M us acc as ls en g hN
  unfold lcB at g
  refine ⟨μ, M, σ2', as.rel, en, ?_⟩
  have g1 : Good X.K X.mg fld R' μ0 H0 M0 (fun _ _ _ => False) Q ((toT (denE w cc) σ2' M).bind fun b M => (if b = true then (denE w ce σ2' M).bind fun v M => (if acc.length < cap then K2 (acc ++ [v]) M else .fail) else K2 acc M)) := by
    unfold toT
    cases h : denE w cc σ2' M with
    | fail => rw [h] at g; exact g
    | exc c fs M2 => rw [h] at g; exact g
    | ok v M2 =>
      rw [h] at g
      cases v with
      | bl q =>
        cases q with
        | false => exact g
        | true =>
          show Good X.K X.mg fld R' μ0 H0 M0 (fun _ _ _ => False) Q (if true = true then (denE w ce σ2' M2).bind fun v M => (if acc.length < cap then K2 (acc ++ [v]) M else .fail) else K2 acc M2)
          rw [if_pos rfl]
          cases h2 : denE w ce σ2' M2 with
          | fail => simp only [Out.bind, h2] at g; exact g
          | exc c fs M3 => simp only [Out.bind, h2] at g; exact g
          | ok v M3 =>
            simp only [Out.bind, h2] at g
            show Good X.K X.mg fld R' μ0 H0 M0 (fun _ _ _ => False) Q (if acc.length < cap then K2 (acc ++ [v]) M3 else .fail)
            by_cases hc : acc.length < cap
            · rw [if_pos hc] at g ⊢; exact g
            · rw [if_neg hc] at g; exact g.elim
      | _ => exact g.elim
  refine (Good.from (R := RB) g1 as.st).mono (fun b H3 ⟨μ3, M3, b', s3, r3, eb, _, g3⟩ => ?_) fun _ _ _ z => z
  have eb : b = b' := eb
  subst eb
  have as3 := as.step s3 r3
  have ls3 := ls.trans s3.later
  cases b with
  | false =>
    rw [if_neg Bool.false_ne_true] at g3
    exact iteF (hN μ3 H3 M3 us acc as3 ls3 g3)
  | true =>
    rw [if_pos rfl] at g3
    refine iteT ⟨μ3, M3, σ2', r3, en.later s3.later, (Good.from (R := RV X.K) g3 as3.st).mono (fun y H4 ⟨μ4, M4, v, s4, r4, rv, _, g4⟩ => ?_) fun _ _ _ z => z⟩
    by_cases hc : acc.length < cap
    case neg => rw [if_neg hc] at g4; exact g4.elim
    rw [if_pos hc] at g4
    have as4 := as3.step s4 r4
    refine ⟨us, as4.at_, by rw [as4.rs.length, ← cap_eq]; exact hc, ?_⟩
    exact hN μ4 _ M4 (us ++ [y]) (acc ++ [v]) (as4.put h0 rv) ((ls3.trans s4.later).trans (later_put as4.at_)) g4
theorem w_lc {own is : List Nat} {t : T} {ci : It} (hsl : ∀ i ∈ is, i ∈ own) {σ : L2.St} {H : Hp} {Q : VK} (q : LE X fld none W (denE w (.lc own t ci cc ce)) σ H Q) :
    tLc (LI X fld none W (denIt w ci)) (LG X fld none is (denT w t)) (LT X fld none W0 (toT (denE w cc))) (LE X fld none W0 (denE w ce)) own σ H Q := by
  obtain ⟨μ, M, σ', r, e, q⟩ := q
  unfold denE at q
  have q := Good.gc r q
  have q := Good.calm_bind (E' := WE W σ) q
  refine ⟨μ, M, σ', r, e, (Good.bind (R := WalkR X.K X.mg) q).mono (fun J H1 ⟨μ1, M1, k, s1, r1, wk, _, g1⟩ => ?_) fun _ _ _ z => z⟩
  intro D hD
  have g1 := Good.of_calm (E' := fun _ _ _ => False) g1
  have keep : ∀ a x, H1 a = some x → L2.upd H1 D (.lst []) a = some x := fun a x e => by rw [upd_ne (ne_of_none e hD)]; exact e
  have s2 : Step X.K μ1 H1 M1 μ1 (L2.upd H1 D (.lst [])) M1 := Step.fresh hD
  have as : Aside X.K X.mg D μ1 H1 M1 μ1 (L2.upd H1 D (.lst [])) M1 [] [] := ⟨s2, r1.fresh hD, upd_same, (fun i hi e => by
    obtain ⟨o, ho⟩ : ∃ o, M1[i]? = some o := ⟨M1[i], List.getElem?_eq_getElem hi⟩
    obtain ⟨x, hx⟩ := (r1.obj i o ho).some
    rw [e, hD] at hx
    cases hx), .nil⟩
  exact lc_turns (Fin := fun H => Q (.ref D) H) wk (e.step r s1) hsl (fun μ H M us acc as _ g => as.done hD g) (lc_body hD) as s2.later g1
/-- the first clause's turn -/
theorem lc_body2 {own' is' : List Nat} {t' : T} {ci' : It} {cc' : E} {D : Addr} {μ0 μs : Mu} {H0 Hs : Hp} {M0 Ms : Store} {γ : Type} {δ : Type} {R' : Mu → Hp → Store → δ → γ → Prop} {Q : δ → Hp → Prop} (h0 : H0 D = none) (hsl : ∀ i ∈ is', i ∈ own') :
    ∀ (Nx : Hp → Prop) (K2 : List PV → Store → Out γ) σ2 σ2' μ H M us acc, Aside X.K X.mg D μ0 H0 M0 μ H M us acc → Later X.K μs Hs Ms μ H M → EnvR X.K X.mg fld none μ H M σ2 σ2' →
      Good X.K X.mg fld R' μ0 H0 M0 (fun _ _ _ => False) Q ((lcB2 (denE w cc) (denIt w ci') (fun v σ M => denT w t' v (wipe σ own') M) (lcB (denE w cc') (denE w ce)) σ2' acc M).bind K2) →
      (∀ μ H M us acc, Aside X.K X.mg D μ0 H0 M0 μ H M us acc → Later X.K μs Hs Ms μ H M → Good X.K X.mg fld R' μ0 H0 M0 (fun _ _ _ => False) Q (K2 acc M) → Nx H) →
      LT X fld none W0 (toT (denE w cc)) σ2 H fun b H3 => if b = true then LI X fld none W0 (denIt w ci') σ2 H3 fun J1 H4 => ∃ W1 : Nat → Nat → Hp → Prop, (∃ m, W1 0 m H4) ∧ ∀ j k H, W1 j k H →
        (J1.stop j H ∧ Nx H) ∨ (J1.go j H ∧ ∃ Nx1 : Hp → Prop, (∀ H', Nx1 H' → ∃ k', k' < k ∧ W1 (j + 1) k' H') ∧ ∀ x H', J1.yld j H x H' → LG X fld none is' (denT w t') x (L2.wipe σ2 own') H' fun σ3 H5 => L2.wipe σ3 own' = L2.wipe σ2 own' ∧ LT X fld none W0 (toT (denE w cc')) σ3 H5 fun b H6 =>
          if b = true then LE X fld none W0 (denE w ce) σ3 H6 fun y H7 => ∃ acc, H7 D = some (.lst acc) ∧ acc.length < sizeLine ∧ Nx1 (L2.upd H7 D (.lst (acc ++ [y]))) else Nx1 H6) else Nx H3 := by
  intro Nx K2 σ2 σ2' μ H M us acc as ls en g hN
  unfold lcB2 at g
  refine ⟨μ, M, σ2', as.rel, en, ?_⟩
  have g1 : Good X.K X.mg fld R' μ0 H0 M0 (fun _ _ _ => False) Q ((toT (denE w cc) σ2' M).bind fun b M => (if b = true then (denIt w ci' σ2' M).bind fun k M => (lpGo (fun v σ M => denT w t' v (wipe σ own') M) (lcB (denE w cc') (denE w ce)) k.2 σ2' k.1 acc M).bind K2 else K2 acc M)) := by
    unfold toT
    cases h : denE w cc σ2' M with
    | fail => rw [h] at g; exact g
    | exc c fs M2 => rw [h] at g; exact g
    | ok v M2 =>
      rw [h] at g
      cases v with
      | bl q =>
        cases q with
        | false => exact g
        | true =>
          show Good X.K X.mg fld R' μ0 H0 M0 (fun _ _ _ => False) Q (if true = true then (denIt w ci' σ2' M2).bind fun k M => (lpGo (fun v σ M => denT w t' v (wipe σ own') M) (lcB (denE w cc') (denE w ce)) k.2 σ2' k.1 acc M).bind K2 else K2 acc M2)
          rw [if_pos rfl]
          cases h2 : denIt w ci' σ2' M2 with
          | fail => simp only [Out.bind, h2] at g; exact g
          | exc c fs M3 => simp only [Out.bind, h2] at g; exact g
          | ok v M3 =>
            simp only [Out.bind, h2] at g
            exact g
      | _ => exact g.elim
  refine (Good.from (R := RB) g1 as.st).mono (fun b H3 ⟨μ3, M3, b', s3, r3, eb, _, g3⟩ => ?_) fun _ _ _ z => z
  have eb : b = b' := eb
  subst eb
  have as3 := as.step s3 r3
  have ls3 := ls.trans s3.later
  cases b with
  | false =>
    rw [if_neg Bool.false_ne_true] at g3
    exact iteF (hN μ3 H3 M3 us acc as3 ls3 g3)
  | true =>
    rw [if_pos rfl] at g3
    refine iteT ⟨μ3, M3, σ2', r3, en.later s3.later, (Good.from (R := WalkR X.K X.mg) g3 as3.st).mono (fun J1 H4 ⟨μ4, M4, k, s4, r4, wk, _, g4⟩ => ?_) fun _ _ _ z => z⟩
    have as4 := as3.step s4 r4
    have ls4 := ls3.trans s4.later
    exact lc_turns (Fin := Nx) wk (en.later (s3.later.trans s4.later)) hsl (fun μ H M us acc as ls' g => hN μ H M us acc as (ls4.trans ls') g) (lc_body h0) as4 .refl g4
theorem w_lc2 {own is own' is' : List Nat} {t t' : T} {ci ci' : It} {cc' : E} (hsl : ∀ i ∈ is, i ∈ own) (hsl' : ∀ i ∈ is', i ∈ own') {σ : L2.St} {H : Hp} {Q : VK} (q : LE X fld none W (denE w (.lc2 own t ci cc own' t' ci' cc' ce)) σ H Q) :
    tLc2 (LI X fld none W (denIt w ci)) (LG X fld none is (denT w t)) (LT X fld none W0 (toT (denE w cc))) (LI X fld none W0 (denIt w ci')) (LG X fld none is' (denT w t')) (LT X fld none W0 (toT (denE w cc'))) (LE X fld none W0 (denE w ce)) own own' σ H Q := by
  obtain ⟨μ, M, σ', r, e, q⟩ := q
  unfold denE at q
  have q := Good.gc r q
  have q := Good.calm_bind (E' := WE W σ) q
  refine ⟨μ, M, σ', r, e, (Good.bind (R := WalkR X.K X.mg) q).mono (fun J H1 ⟨μ1, M1, k, s1, r1, wk, _, g1⟩ => ?_) fun _ _ _ z => z⟩
  intro D hD
  have g1 := Good.of_calm (E' := fun _ _ _ => False) g1
  have s2 : Step X.K μ1 H1 M1 μ1 (L2.upd H1 D (.lst [])) M1 := Step.fresh hD
  have as : Aside X.K X.mg D μ1 H1 M1 μ1 (L2.upd H1 D (.lst [])) M1 [] [] := ⟨s2, r1.fresh hD, upd_same, (fun i hi e => by
    obtain ⟨o, ho⟩ : ∃ o, M1[i]? = some o := ⟨M1[i], List.getElem?_eq_getElem hi⟩
    obtain ⟨x, hx⟩ := (r1.obj i o ho).some
    rw [e, hD] at hx
    cases hx), .nil⟩
  exact lc_turns (Fin := fun H => Q (.ref D) H) wk (e.step r s1) hsl (fun μ H M us acc as _ g => as.done hD g) (lc_body2 hD hsl') as s2.later g1
end
end Mini

set_option autoImplicit false
set_option linter.all false
set_option maxRecDepth 100000
/-! Mini13: raise, try. -/
namespace Mini
open PySem PySem.Spec L2
open PyProof.Rows hiding St
section
variable {X : Cx} {C : Addr} {bmB : List Value} {B newId initId : String}
theorem pmk_own0 {x : Str} {p pos : Pos} (F : ExcBaseFacts B newId initId bmB) (q : PySem.W.excIn X.K C bmB newId = true) (gC : X.mg x = some (.ref C)) (kC : PySem.W.keepIn X.K (.ref C) = true) (r : Raises X (.ref C)) (hg : Gl X x)
    (hdb : (x == ("__debug__" : Str)) = false) : PMk X (.Call (.Name x p) [] [] pos) (fun _ H Q => Q (.ref C) none H) := by
  intro pins s σ H Q I h
  refine wpAny_Call_Name_kw (ld_glob I hg gC ?_ hdb)
  refine PySem.W.callWith_K0 I.kIn kC ?_
  show wpAny _ _ (call (.ref C) []) _ _ _
  obtain ⟨bm, N, nm, qn, bs, hdct, sn, sub, ab, col, dd, k0, k1, k2, k3, k5, mN, hC, hN, hni, T⟩ := exc_obj I.kIn q
  refine wpAny_call_exc_subT F T hC hN hni (fun h' e hm => ?_) (Nat.zero_le _)
  exact mk_of I hm r h (I.hok.gone hm.new)
end
/-- an own exception class without __init__ -/
structure ExcO (K : PySem.W.Frag) (C : Addr) : Prop where
  ex : PySem.W.excIn K C [.type "ValueError", .type "Exception", .type "BaseException", .type "object"] "ValueError.__new__" = true
  kp : PySem.W.keepIn K (.ref C) = true
  sb : PySem.W.subIn K (.ref C) (.type "BaseException") = some true
  ty : PySem.W.typeIn K (.ref C) = some (.type "type")
section
variable {X : Cx} {fld : Str → Option Str} {hx : Hx} {W : WX} {w : Wld} {tg a b c e i lo hi it : Expr} {ca cb cc ci clo chi ce : E} {pos p p2 np tpos apos pos' : Pos} {es : List Expr} {ces : Es} {x n : Str} {kk : Nat} {st b₀ : Stmt} {ss b1 b2 body suite : List Stmt} {cs : S} {css cs1 cs2 ch : Ss} {C : Addr}
theorem ls_raise (hc : X.calm = true) (tk : Takes X W) (o : ExcO X.K C) (gC : X.mg x = some (.ref C)) (hg : Gl X x) (hdb : (x == ("__debug__" : Str)) = false) (hf : fld x = none) :
    PS X (.Raise (some (.Call (.Name x p) [] [] p2)) none pos) (LS X fld hx W (denS w (.rais x .nil))) := by
  refine PS.weak (ps_raise hc tk (pmk_own0 F.excBase_ValueError o.ex gC o.kp (raises_own o.sb o.ty) hg hdb)) fun D σ H ⟨μ, M, σ', r, e, q⟩ => ?_
  unfold denS denEs at q
  exact q μ H (.ref C) none σ .refl r e ⟨C, gC, rfl, .inl ⟨rfl, rfl, hf⟩⟩
theorem EnvR.clean {K : PySem.W.Frag} {mg : Str → Option Value} {hx' : Hx} {μ : Mu} {H : Hp} {M : Store} {σ : L2.St} {σ' : Env} (h : EnvR K mg fld hx μ H M σ σ') (c : cleanE σ' = true) : EnvR K mg fld hx' μ H M σ σ' := by
  refine ⟨h.len, fun i v e => ?_⟩
  obtain ⟨u, e', q⟩ := h.at_ i v e
  refine ⟨u, e', ?_⟩
  cases v with
  | exn c' fs =>
    have z := List.all_eq_true.mp c _ (List.mem_of_getElem? e)
    cases z
  | _ => exact q
theorem EnvR.any {K : PySem.W.Frag} {mg : Str → Option Value} {hx' : Hx} {μ : Mu} {H : Hp} {M : Store} {σ : L2.St} {σ' : Env} (h : EnvR K mg fld none μ H M σ σ') : EnvR K mg fld hx' μ H M σ σ' := by
  refine ⟨h.len, fun i v e => ?_⟩
  obtain ⟨u, e', q⟩ := h.at_ i v e
  refine ⟨u, e', ?_⟩
  cases v with
  | exn c' fs => obtain ⟨_, _, _, z, _⟩ := q; cases z
  | _ => exact q
/-- the suite's end -/
theorem gone_good {i : Option Nat} {D : Ends} {μ : Mu} {H : Hp} {M : Store} {o : SOut} (g : GoodS X fld none μ H M W D (o.gone i)) :
    GoodS X fld hx μ H M W0 { nx := fun σ' H' => D.nx (match i with | some i => σ'.set i none | none => σ') H', rt := D.rt, bk := fun σ' H' => D.bk (match i with | some i => σ'.set i none | none => σ') H', ct := fun σ' H' => D.ct (match i with | some i => σ'.set i none | none => σ') H' } o := by
  have key : ∀ {μ' : Mu} {H' : Hp} {M' : Store} {σ : L2.St} {σ' : Env}, cleanE (goneE i σ') = true → EnvR X.K X.mg fld hx μ' H' M' σ σ' → EnvR X.K X.mg fld none μ' H' M' (match i with | some i => σ.set i none | none => σ) (goneE i σ') := fun {μ' H' M' σ σ'} c e => by
    cases i with
    | none => exact e.clean c
    | some i => exact e.unset.clean c
  cases o with
  | nx σ' M' =>
    unfold SOut.gone at g
    dsimp only at g
    by_cases c : cleanE (goneE i σ') = true
    case neg => rw [if_neg c] at g; exact g.elim
    rw [if_pos c] at g
    exact fun μ' H' σ s r e => g μ' H' _ s r (key c e)
  | bk σ' M' =>
    unfold SOut.gone at g
    dsimp only at g
    by_cases c : cleanE (goneE i σ') = true
    case neg => rw [if_neg c] at g; exact g.elim
    rw [if_pos c] at g
    exact fun μ' H' σ s r e => g μ' H' _ s r (key c e)
  | ct σ' M' =>
    unfold SOut.gone at g
    dsimp only at g
    by_cases c : cleanE (goneE i σ') = true
    case neg => rw [if_neg c] at g; exact g.elim
    rw [if_pos c] at g
    exact fun μ' H' σ s r e => g μ' H' _ s r (key c e)
  | rt v M' => exact g
  | exc c fs σ' M' => exact g.elim
  | fail => exact g
theorem ls_try {i : Nat} {ds : List Str} (hs : X.stack = X.env :: X.outer) (hf : X.env.frame = some X.env.locals) (hN : X.N.Nodup) (hi : X.N[i]? = some n) (hln : X.env.kindOf n = some .local) (gC : X.mg x = some (.ref C)) (hg : Gl X x) (hdb : (x == ("__debug__" : Str)) = false) (tk : Takes X W)
    (hds : ∀ d ∈ ds, ∀ D, X.mg d = some (.ref D) → PySem.W.exmOne X.K (.ref D) (.ref C) = some (takes x d))
    (hb : ∀ (W : WX) (pn : List (Addr × Obj)) (xe : Value → Shared → Prop), Takes (X.tr pn xe) W → PassesOwn (model X.prog X.w) X.A X.env xe → PSs (X.tr pn xe) body (LS X fld none W (denSs w css)))
    (hsu : ∀ (a : Addr) (oe : Obj) (cls : Value) (d : Option Addr) (pn : List (Addr × Obj)), Zc cls d oe → (∃ vs, oe.data = .fields vs) → PSs (X.suite a ((a, oe) :: pn)) (b₀ :: suite) (LS X fld (some (a, cls, d)) W0 (denSs w ch))) :
    PS X (.Try body [.ExceptHandler (some (.Name x np)) (some n) (b₀ :: suite) pos'] [] [] pos) (LS X fld none W (denS w (.tri css ds x (some i) ch))) := by
  refine PS.weak (ps_try_as hs hf hN hi hln ⟨hg, hdb, .inl gC⟩ tk hb hsu) fun D σ H ⟨μ, M, σ', r, e, q⟩ => ?_
  unfold denS at q
  refine ⟨μ, M, σ', r, e, ?_⟩
  cases h : denSs w css σ' M with
  | nx σ2 M2 => rw [h] at q; exact q
  | rt v M2 => rw [h] at q; exact q
  | bk σ2 M2 => rw [h] at q; exact q
  | ct σ2 M2 => rw [h] at q; exact q
  | fail => rw [h] at q; exact q
  | exc d fs σ2 M2 =>
    rw [h] at q
    dsimp only at q
    intro μ3 H3 cls dd σ3 s3 r3 e3 ex
    by_cases hd : d ∈ ds
    case neg => rw [if_pos hd] at q; exact q.elim
    rw [if_neg (fun z => z hd)] at q
    obtain ⟨D', gD, rfl, ex'⟩ := id ex
    refine ⟨takes x d, hds d hd D' gD, fun ht a ha => ?_, fun ht => ?_⟩
    · rw [if_pos ht] at q
      have e4 : EnvR X.K X.mg fld (some (a, .ref D', dd)) μ3 H3 M2 (σ3.set i (some (.ref a))) (σ2.set i (some (.exn d fs))) := e3.any.set ⟨a, _, dd, rfl, rfl, ex⟩
      exact ⟨μ3, M2, _, r3, e4, gone_good (i := some i) (GoodS.step q s3)⟩
    · rw [if_neg (by rw [ht]; exact Bool.false_ne_true)] at q
      exact q μ3 H3 _ dd σ3 s3 r3 e3 ex
theorem ls_try0 {ds : List Str} (hs : X.stack = X.env :: X.outer) (hf : X.env.frame = some X.env.locals) (gC : X.mg x = some (.ref C)) (hg : Gl X x) (hdb : (x == ("__debug__" : Str)) = false) (tk : Takes X W)
    (hds : ∀ d ∈ ds, ∀ D, X.mg d = some (.ref D) → PySem.W.exmOne X.K (.ref D) (.ref C) = some (takes x d))
    (hb : ∀ (W : WX) (pn : List (Addr × Obj)) (xe : Value → Shared → Prop), Takes (X.tr pn xe) W → PassesOwn (model X.prog X.w) X.A X.env xe → PSs (X.tr pn xe) body (LS X fld none W (denSs w css)))
    (hsu : ∀ (a : Addr) (oe : Obj) (cls : Value) (d : Option Addr) (pn : List (Addr × Obj)), Zc cls d oe → (∃ vs, oe.data = .fields vs) → PSs (X.suite a ((a, oe) :: pn)) (b₀ :: suite) (LS X fld none W0 (denSs w ch))) :
    PS X (.Try body [.ExceptHandler (some (.Name x np)) none (b₀ :: suite) pos'] [] [] pos) (LS X fld none W (denS w (.tri css ds x none ch))) := by
  refine PS.weak (ps_try_only hs hf ⟨hg, hdb, .inl gC⟩ tk hb hsu) fun D σ H ⟨μ, M, σ', r, e, q⟩ => ?_
  unfold denS at q
  refine ⟨μ, M, σ', r, e, ?_⟩
  cases h : denSs w css σ' M with
  | nx σ2 M2 => rw [h] at q; exact q
  | rt v M2 => rw [h] at q; exact q
  | bk σ2 M2 => rw [h] at q; exact q
  | ct σ2 M2 => rw [h] at q; exact q
  | fail => rw [h] at q; exact q
  | exc d fs σ2 M2 =>
    rw [h] at q
    dsimp only at q
    intro μ3 H3 cls dd σ3 s3 r3 e3 ex
    by_cases hd : d ∈ ds
    case neg => rw [if_pos hd] at q; exact q.elim
    rw [if_neg (fun z => z hd)] at q
    obtain ⟨D', gD, rfl, ex'⟩ := id ex
    refine ⟨takes x d, hds d hd D' gD, fun ht a ha => ?_, fun ht => ?_⟩
    · rw [if_pos ht] at q
      exact ⟨μ3, M2, _, r3, e3, gone_good (i := none) (GoodS.step q s3)⟩
    · rw [if_neg (by rw [ht]; exact Bool.false_ne_true)] at q
      exact q μ3 H3 _ dd σ3 s3 r3 e3 ex
/-- isinstance(e, c) in a suite -/
theorem le_exi {i : Nat} {ds : List Str} {pn : List (Addr × Obj)} {a0 : Addr} {oe : Obj} {cls : Value} {dd : Option Addr} (hz : Zc cls dd oe) (hvs : ∃ vs, oe.data = .fields vs) (hN : X.N[i]? = some n) (hv : Vis X.env.scope n) (hnd : (n == ("__debug__" : Str)) = false) (hncd : (n == ("__classdict__" : Str)) = false)
    (hg : Gl X "isinstance") (hm : X.mg "isinstance" = none) (gC : X.mg x = some (.ref C)) (hgx : Gl X x) (hdb : (x == ("__debug__" : Str)) = false)
    (hds : ∀ d ∈ ds, ∀ D, X.mg d = some (.ref D) → ExcC X.K D ∧ PySem.W.kitOne X.K (.ref D) (.ref C) = some (takes x d))
    (h1 : starEach [.Name n p, .Name x p2] X.env = (false, eval (.Name n p) X.env) :: starEach [.Name x p2] X.env) (h2 : starEach [.Name x p2] X.env = (false, eval (.Name x p2) X.env) :: starEach [] X.env) (hpl : (backTo pos (starEach [.Name x p2] X.env)).any (·.1) = false) :
    PE (X.suite a0 ((a0, oe) :: pn)) (.Call (.Name "isinstance" np) [.Name n p, .Name x p2] [] pos) (LE X fld (some (a0, cls, dd)) W (denE w (.exi i ds x))) := by
  refine ⟨fun pins s σ H Q I ⟨μ, M, σ', r, e, q⟩ => ?_⟩
  unfold denE at q
  cases h : σ'[i]? with
  | none => rw [h] at q; exact q.elim
  | some o =>
    rw [h] at q
    cases o with
    | none => exact q.elim
    | some v =>
      cases v with
      | exn d fs =>
        cases fs with
        | cons _ _ => exact q.elim
        | nil =>
          dsimp only at q
          by_cases hd : d ∈ ds
          case neg => rw [if_neg hd] at q; exact q.elim
          rw [if_pos hd] at q
          obtain ⟨u, eu, ⟨a1, c1, d1, z, rfl, ex⟩⟩ := e.at_ i _ h
          cases z
          obtain ⟨D, gD, rfl, ex⟩ := ex
          have hdn : dd = none := by
            rcases ex with ⟨_, z, _⟩ | ⟨_, _, _, _, z, _⟩
            · exact z
            · cases z
          subst hdn
          obtain ⟨k1, k2⟩ := hds d hd D gD
          exact (pe_callB (X := X.suite a0 ((a0, oe) :: pn)) (call_isE k1 hz hvs) hg hm boot_isinstance (pa_cons (pe_var hN hv hnd hncd) (pa_cons (pe_glob (v := .ref C) hgx gC rfl hdb) pa_nil h2) h1) (by decide) (by decide) h1 hpl).run pins s σ H Q I
            ⟨_, eu, .ref C, .ref C, takes x d, rfl, fun u hu => hu, k2, q.now r (.bl _)⟩
      | _ => exact q.elim
end
end Mini

set_option autoImplicit false
set_option linter.all false
set_option maxRecDepth 100000
/-! Mini14: the translator, from the text's trees to our code. -/
namespace Mini
open PySem PySem.Spec

/-- what the module says of its names -/
structure Sig where
  fns : List (Str × Nat)
  clss : List (Str × Nat)
  /-- exception classes that are raised without arguments -/
  excs : List Str
  /-- all own exception classes -/
  exall : List Str
  attrs : List (Str × List Str)
  gis : List (Str × PV)
  free : List Str
/-- the place in the text -/
structure TC where
  N : List Str
  sc : Scope
  fnx : Option Scope
  calm : Bool
  top : Bool
  hot : Option Nat
def idxOf (x : Str) : List Str → Option Nat
  | [] => none
  | y :: r => if x = y then some 0 else (idxOf x r).map (· + 1)
def dbg (x : Str) : Bool := (x == ("__debug__" : Str)) || (x == ("__classdict__" : Str))
def glB (tc : TC) (x : Str) : Bool := decide (tc.sc.names.lookup x = some .globalImplicit) && !dbg x
def visB (tc : TC) (x : Str) : Bool := (decide (tc.sc.names.lookup x = some .local) || decide (tc.sc.names.lookup x = some .cell) || decide (tc.sc.names.lookup x = some .free)) && !dbg x
def locB (tc : TC) (x : Str) : Bool := decide (tc.sc.names.lookup x = some .local) || (decide (tc.sc.names.lookup x = some .cell) && match tc.fnx with
  | none => true
  | some s => s.names.lookup x == some .cell)
def freeB (S : Sig) (tc : TC) (x : Str) : Bool := glB tc x && decide (x ∈ S.free)
def noStar : List Expr → Bool
  | [] => true
  | .Starred _ _ :: _ => false
  | _ :: r => noStar r
/-- a receiver that is not super() -/
def plainRecv : Expr → Bool
  | .Call (.Name _ _) [] [] _ => false
  | _ => true
def notSet : Expr → Bool
  | .Set _ _ _ => false
  | _ => true
def notComp : Expr → Bool
  | .ListComp _ _ _ _ => false
  | .SetComp _ _ _ _ => false
  | .DictComp _ _ _ _ _ => false
  | _ => true
def notTuple : Expr → Bool
  | .Tuple _ _ _ => false
  | _ => true
def plainTest : Expr → Bool
  | .UnaryOp _ _ _ => false
  | .BoolOp _ _ _ => false
  | .IfExp _ _ _ _ => false
  | .Compare _ _ _ _ => false
  | _ => true
def swB (tc : TC) (v : Expr) (x : Str) (px : Pos) : Bool := match v with
  | .ListComp _ _ s p => decide (tc.sc.names.lookup x = some .local) && (px.line == p.line) && !(s.names.any fun (n, k) => n == x && (k == .local || k == .cell))
  | _ => false
def bopOf : Operator → Option Bop
  | .Add => some .add | .Sub => some .sub | .Mult => some .mul | .FloorDiv => some .fdiv | .Mod => some .mod | .Pow => some .pow | _ => none
def copOf : CmpOp → Option Cop
  | .Eq => some .eq | .NotEq => some .ne | .Lt => some .lt | .LtE => some .le | .Gt => some .gt | .GtE => some .ge | .Is => some .is | .IsNot => some .isnt | .In => some .isin | .NotIn => some .notin
def biOf (x : Str) (n : Nat) : Option Bi :=
  if x = "len" then some .len else if x = "sum" then some .sum else if x = "max" then (if n = 2 then some .max2 else some .max) else if x = "min" then (if n = 2 then some .min2 else some .min) else
  if x = "all" then some .all else if x = "any" then some .any else if x = "abs" then some .abs else if x = "int" then some .int else if x = "tuple" then some .tuple else if x = "list" then some .list else none
def mtOf (m : Str) (n : Nat) : Option Mt :=
  if m = "append" then some .append else if m = "pop" then (if n = 0 then some .pop else some .popAt) else if m = "extend" then some .extend else if m = "reverse" then some .reverse else if m = "clear" then some .clear else none
def tyOf (S : Sig) (tc : TC) (x : Str) : Option Ty :=
  if glB tc x = true then (if decide (x ∈ S.clss.map (·.1)) then some (.cls x) else if decide (x ∈ S.free) then
    (if x = "int" then some .int else if x = "bool" then some .bool else if x = "str" then some .str else if x = "tuple" then some .tuple else if x = "list" then some .list else if x = "dict" then some .dict else none) else none) else none
def tysOf (S : Sig) (tc : TC) : List Expr → Option (List Ty)
  | [] => some []
  | .Name x _ :: r => (match tyOf S tc x, tysOf S tc r with
    | some t, some ts => some (t :: ts)
    | _, _ => none)
  | _ :: _ => none
def TC.blk (tc : TC) (s : Scope) : TC := { tc with sc := L2.relS s tc.sc, fnx := some s, top := false, hot := none }
def TC.suite (tc : TC) (i : Option Nat) : TC := { tc with calm := false, top := false, hot := i }
def ownOf (N : List Str) (s : Scope) : List (Str × Nat) := s.names.filterMap fun y => match y.2 with
  | .local => (idxOf y.1 N).map fun i => (y.1, i)
  | .cell => (idxOf y.1 N).map fun i => (y.1, i)
  | _ => none
def subB (a b : List Nat) : Bool := a.all fun i => decide (i ∈ b)
def parOf (tc : TC) : List Expr → Option (List Nat)
  | [] => some []
  | .Name x _ :: r => if decide (tc.sc.names.lookup x = some .local) then (match idxOf x tc.N, parOf tc r with
    | some i, some is => some (i :: is)
    | _, _ => none) else none
  | _ :: _ => none
def nameOf : Expr → Str
  | .Name x _ => x
  | _ => Str.empty
def lineOf (e : Expr) : Nat := e.pos.line
/-- is the store of a written tuple turned round -/
def swapB (ts vs : List Expr) (tc : TC) : Bool :=
  (ts.length == 2 || ts.length == 3) && vs.length == ts.length && noStar vs && (ts.all fun t => lineOf t == (ts.head?.map lineOf).getD 0) && !(vs.all (foldedForSure 8)) && !(vs.all (constantsAlone 8))

/-- isinstance: of a value, or of the exception that the suite holds -/
def trIsi1 (S : Sig) (tc : TC) (tr : Expr → E) (a : Expr) (t : Str) : E := match tyOf S tc t with
  | some ty => .isi (tr a) (S.clss.map (·.1)) [ty]
  | none => .bad
def trIsi (S : Sig) (tc : TC) (tr : Expr → E) (args : List Expr) : E := match args with
  | [a, .Name t _] => (match tc.hot, a with
    | some i, .Name y _ => if idxOf y tc.N = some i ∧ visB tc y = true then (if (decide (t ∈ S.exall) && glB tc t) = true then .exi i S.exall t else .bad) else trIsi1 S tc tr a t
    | _, _ => trIsi1 S tc tr a t)
  | [a, .Tuple ts _ _] => (match tysOf S tc ts with
    | some tys => if ts.length ≤ 1000 then .isi (tr a) (S.clss.map (·.1)) tys else .bad
    | none => .bad)
  | _ => .bad
/-- as many as there are -/
def badEs : List Expr → Es
  | [] => .nil
  | _ :: r => .cons .bad (badEs r)
mutual
def trE (S : Sig) : Nat → TC → Expr → E
  | 0, _, _ => .bad
  | n + 1, tc, e => match e with
    | .Constant (.int i) _ _ => .cst (.int i)
    | .Constant (.bool b) _ _ => .cst (.bl b)
    | .Constant .none _ _ => .cst .non
    | .Constant (.str z) _ _ => .cst (.str z)
    | .Name x _ => if visB tc x = true then (match idxOf x tc.N with
        | some i => .var i
        | none => .bad) else if glB tc x = true then (match S.gis.lookup x with
        | some _ => .glo x
        | none => .bad) else .bad
    | .BinOp a op b _ => (match bopOf op with
      | some o => .bin o (trE S n tc a) (trE S n tc b)
      | none => .bad)
    | .UnaryOp .USub a _ => .neg (trE S n tc a)
    | .UnaryOp .Not a _ => .not (trE S n tc a)
    | .BoolOp op es _ => trB S n tc op es
    | .Compare a [op] [b] _ => (match copOf op with
      | some o => if behindInMarks op b = false then .cmp o (trE S n tc a) (trE S n tc b) else .bad
      | none => .bad)
    | .Compare a [op, op'] [b, c] _ => (match copOf op, copOf op' with
      | some o, some o' => if lastMarks [op, op'] [b, c] = false then .chn o o' (trE S n tc a) (trE S n tc b) (trE S n tc c) else .bad
      | _, _ => .bad)
    | .IfExp c a b _ => .ife (trT S n tc c) (trE S n tc a) (trE S n tc b)
    | .Tuple es _ _ => if noStar es = true ∧ es.length ≤ 1000 then .tup (trEs S n tc es) else .bad
    | .List es _ => if noStar es = true ∧ es.length ≤ 1000 then .lst (trEs S n tc es) else .bad
    | .Subscript a (.Slice (some l) (some h) none _) _ => .sl (trE S n tc a) (trE S n tc l) (trE S n tc h)
    | .Subscript a (.Slice (some l) none none _) _ => .slL (trE S n tc a) (trE S n tc l)
    | .Subscript a (.Slice none (some h) none _) _ => .slH (trE S n tc a) (trE S n tc h)
    | .Subscript a (.Slice none none none _) _ => .slA (trE S n tc a)
    | .Subscript a i _ => if plainIxB i = true then .ix (trE S n tc a) (trE S n tc i) else .bad
    | .Attribute a f _ => if plainRecv a = true then (match S.attrs.lookup f with
      | some cs => .fld (trE S n tc a) cs f
      | none => .bad) else .bad
    | .Call (.Name x _) args [] _ => trC S n tc x args
    | .Call (.Attribute a m apos) args [] pos => (match mtOf m args.length with
      | some k => if plainRecv a = true ∧ noStar args = true ∧ args.length < 29 ∧ (apos.endLine == pos.line) = true then .mt k (trE S n tc a) (trEs S n tc args) else .bad
      | none => .bad)
    | .ListComp elt gens s _ => trL S n tc elt gens s
    | _ => .bad
def trB (S : Sig) : Nat → TC → BoolOp → List Expr → E
  | 0, _, _, _ => .bad
  | n + 1, tc, op, es => match op, es with
    | _, [a] => trE S n tc a
    | .And, a :: b :: r => .and (trE S n tc a) (trB S n tc .And (b :: r))
    | .Or, a :: b :: r => .or (trE S n tc a) (trB S n tc .Or (b :: r))
    | _, [] => .bad
/-- a test -/
def trT (S : Sig) : Nat → TC → Expr → E
  | 0, _, _ => .bad
  | n + 1, tc, e => match e with
    | .UnaryOp .Not a _ => .not (trT S n tc a)
    | .BoolOp op es _ => trTB S n tc op es
    | .Compare a [op] [b] _ => (match copOf op with
      | some o => if behindInMarks op b = false then .cmp o (trE S n tc a) (trE S n tc b) else .bad
      | none => .bad)
    | .Compare a [op, op'] [b, c] _ => (match copOf op, copOf op' with
      | some o, some o' => if lastMarks [op, op'] [b, c] = false then .chn o o' (trE S n tc a) (trE S n tc b) (trE S n tc c) else .bad
      | _, _ => .bad)
    | e => if plainTest e = true then trE S n tc e else .bad
def trTB (S : Sig) : Nat → TC → BoolOp → List Expr → E
  | 0, _, _, _ => .bad
  | n + 1, tc, op, es => match op, es with
    | _, [a] => trT S n tc a
    | .And, a :: b :: r => .and (trT S n tc a) (trTB S n tc .And (b :: r))
    | .Or, a :: b :: r => .or (trT S n tc a) (trTB S n tc .Or (b :: r))
    | _, [] => .bad
def trEs (S : Sig) : Nat → TC → List Expr → Es
  | 0, _, es => badEs es
  | n + 1, tc, es => match es with
    | [] => .nil
    | e :: r => .cons (trE S n tc e) (trEs S n tc r)
/-- a call of a name -/
def trC (S : Sig) : Nat → TC → Str → List Expr → E
  | 0, _, _, _ => .bad
  | n + 1, tc, x, args =>
    if (!noStar args || !glB tc x) = true then .bad else
    if x = "isinstance" then (if decide (x ∈ S.free) = true then trIsi S tc (trE S n tc) args else .bad) else
    if decide (x ∈ S.free) = true then (match args with
      | [] => .bad
      | a :: r => (match biOf x (a :: r).length with
        | some k => if tc.calm = true then .bi k (trEs S n tc (a :: r)) else .bad
        | none => .bad)) else
    if tc.calm = true then (match S.fns.lookup x with
      | some k => if args.length = k then .call x (trEs S n tc args) else .bad
      | none => (match S.clss.lookup x with
        | some k => if args.length = k ∧ args.length ≠ 0 then .new x (trEs S n tc args) else .bad
        | none => .bad)) else .bad
def trI (S : Sig) : Nat → TC → Expr → Expr → It
  | 0, _, _, _ => .seq .bad
  | n + 1, tc, tg, it => match it, tg with
    | .Call (.Name x _) args [] _, tg =>
      if x = "range" then (if freeB S tc x = true ∧ noStar args = true then (match args with
        | [a] => .rng (trE S n tc a)
        | [a, b] => .rng2 (trE S n tc a) (trE S n tc b)
        | _ => .seq .bad) else .seq .bad) else
      if x = "enumerate" then (if freeB S tc x = true ∧ noStar args = true then (match args, tg with
        | [a], .Tuple _ _ _ => .enm (trE S n tc a)
        | _, _ => .seq .bad) else .seq .bad) else
      if x = "zip" then (if freeB S tc x = true ∧ noStar args = true then (match args, tg with
        | [a, b], .Tuple _ _ _ => .zip (trE S n tc a) (trE S n tc b)
        | _, _ => .seq .bad) else .seq .bad) else .seq (trE S n tc it)
    | it, _ => .seq (trE S n tc it)
def trG (S : Sig) : Nat → TC → Expr → Option T
  | 0, _, _ => none
  | n + 1, tc, e => match e with
    | .Name x _ => if locB tc x = true then (idxOf x tc.N).map .nm else none
    | .Tuple es _ _ => if tc.calm = true then (trGs S n tc es).map .tup else none
    | .Subscript a i _ => if plainIxB i = true then some (.ix (trE S n tc a) (trE S n tc i)) else none
    | _ => none
def trGs (S : Sig) : Nat → TC → List Expr → Option Ts
  | 0, _, _ => none
  | n + 1, tc, es => match es with
    | [] => some .nil
    | .Starred _ _ :: _ => none
    | e :: r => (match trG S n tc e, trGs S n tc r with
      | some t, some ts => some (.cons t ts)
      | _, _ => none)
/-- a clause's tests -/
def trIf (S : Sig) : Nat → TC → List Expr → E
  | 0, _, _ => .bad
  | n + 1, tc, es => match es with
    | [] => .cst (.bl true)
    | [c] => trT S n tc c
    | _ => .bad
def trL (S : Sig) : Nat → TC → Expr → List Comprehension → Scope → E
  | 0, _, _, _, _ => .bad
  | n + 1, tc, elt, gens, s => if (!(tc.calm && L2.blkC tc.N tc.sc s (ownOf tc.N s))) = true then .bad else match gens with
    | [⟨tg, it, ifs, as⟩] => (match trG S n (tc.blk s) tg with
      | some t => if as = 0 ∧ notSet it = true ∧ subB t.slots ((ownOf tc.N s).map (·.2)) = true then .lc ((ownOf tc.N s).map (·.2)) t (trI S n tc tg it) (trIf S n (tc.blk s) ifs) (trE S n (tc.blk s) elt) else .bad
      | none => .bad)
    | [⟨tg, it, ifs, as⟩, ⟨tg', it', ifs', as'⟩] => (match trG S n (tc.blk s) tg, trG S n (tc.blk s) tg' with
      | some t, some t' => if as = 0 ∧ as' = 0 ∧ notSet it = true ∧ notSet it' = true ∧ subB t.slots ((ownOf tc.N s).map (·.2)) = true ∧ subB t'.slots ((ownOf tc.N s).map (·.2)) = true then
          .lc2 ((ownOf tc.N s).map (·.2)) t (trI S n tc tg it) (trIf S n (tc.blk s) ifs) t'.slots t' (trI S n (tc.blk s) tg' it') (trIf S n (tc.blk s) ifs') (trE S n (tc.blk s) elt) else .bad
      | _, _ => .bad)
    | _ => .bad
end
mutual
def trS (S : Sig) : Nat → TC → Stmt → Mini.S
  | 0, _, _ => .expr .bad
  | n + 1, tc, st => match st with
    | .Pass _ => .pass
    | .Break _ => .brk
    | .Continue _ => .cont
    | .Expr (.Constant (.str _) _ _) _ => .pass
    | .Expr e _ => if notComp e = true then .expr (trE S n tc e) else .expr .bad
    | .Return none _ => .retN
    | .Return (some e) _ => .ret (trE S n tc e)
    | .If c a b _ => .ife (trT S n tc c) (trSs S n tc a) (trSs S n tc b)
    | .For tg it b [] _ => (match trG S n tc tg with
      | some t => if tc.calm = true ∧ tc.top = true ∧ notSet it = true then .fo t (trI S n tc tg it) (trSs S n tc b) else .expr .bad
      | none => .expr .bad)
    | .While c b [] _ => if tc.top = true then .whl (trT S n tc c) (trSs S n tc b) else .expr .bad
    | .Assign [.Name x px] v _ => if locB tc x = true then (match idxOf x tc.N with
      | some i => (match v with
        | .ListComp elt gens s _ => .asg (.nm i) (trL S n tc elt gens s)
        | v => if notComp v = true then .asg (.nm i) (trE S n tc v) else .expr .bad)
      | none => .expr .bad) else .expr .bad
    | .Assign [.Tuple ts _ _] (.Tuple vs _ _) _ => (match parOf tc ts with
      | some is => if tc.calm = true ∧ swapB ts vs tc = true ∧ is.Nodup ∧ (ts.map nameOf).eraseDups.length = ts.length then .par is (trEs S n tc vs) else .expr .bad
      | none => .expr .bad)
    | .Assign [.Tuple ts k p] v _ => (match trG S n tc (.Tuple ts k p) with
      | some t => if notComp v = true ∧ notTuple v = true then .asg t (trE S n tc v) else .expr .bad
      | none => .expr .bad)
    | .Assign [.Subscript a i p] v _ => (match trG S n tc (.Subscript a i p) with
      | some t => if notComp v = true then .asg t (trE S n tc v) else .expr .bad
      | none => .expr .bad)
    | .Assign [.Attribute a f _] v _ => (match S.attrs.lookup f with
      | some cs => if notComp v = true then .asg (.fl (trE S n tc a) cs f) (trE S n tc v) else .expr .bad
      | none => .expr .bad)
    | .Raise (some (.Call (.Name x _) [] [] _)) none _ => if tc.calm = true ∧ glB tc x = true ∧ x ∈ S.excs then .rais x .nil else .expr .bad
    | .Try b [.ExceptHandler (some (.Name x _)) (some y) (h₀ :: h) _] [] [] _ => (match idxOf y tc.N with
      | some i => if tc.calm = true ∧ tc.top = true ∧ glB tc x = true ∧ x ∈ S.exall ∧ tc.sc.names.lookup y = some .local then .tri (trSs S n tc b) S.exall x (some i) (trSs S n (tc.suite (some i)) (h₀ :: h)) else .expr .bad
      | none => .expr .bad)
    | .Try b [.ExceptHandler (some (.Name x _)) none (h₀ :: h) _] [] [] _ =>
      if tc.calm = true ∧ tc.top = true ∧ glB tc x = true ∧ x ∈ S.exall then .tri (trSs S n tc b) S.exall x none (trSs S n (tc.suite none) (h₀ :: h)) else .expr .bad
    | _ => .expr .bad
def trSs (S : Sig) : Nat → TC → List Stmt → Ss
  | 0, _, _ => .cons (.expr .bad) .nil
  | n + 1, tc, ss => match ss with
    | [] => .nil
    | s :: r => .cons (trS S n tc s) (trSs S n tc r)
end
/-- all names of a def: its own, then its blocks' -/
def trDef (S : Sig) (n : Nat) (N : List Str) (sc : Scope) (ps : Nat) (body : List Stmt) : Def := ⟨ps, N.length, trSs S n ⟨N, sc, none, true, true, none⟩ body⟩
end Mini

set_option autoImplicit false
set_option linter.all false
set_option maxRecDepth 100000
/-! Mini15: the translator keeps the readings: side conditions. -/
namespace Mini
open PySem PySem.Spec L2
open PyProof.Rows hiding St

theorem idxOf_get {x : Str} : ∀ {N : List Str} {i : Nat}, idxOf x N = some i → N[i]? = some x
  | [], _, h => by cases h
  | y :: r, i, h => by
    unfold idxOf at h
    by_cases e : x = y
    · rw [if_pos e] at h
      cases h
      rw [e]; rfl
    · rw [if_neg e] at h
      cases q : idxOf x r with
      | none => rw [q] at h; cases h
      | some j =>
        rw [q] at h
        cases h
        rw [List.getElem?_cons_succ]
        exact idxOf_get q
theorem noStar_cons {a : Expr} {es : List Expr} (h : noStar (a :: es) = true) : noStar es = true ∧ ∀ env, starEach (a :: es) env = (false, eval a env) :: starEach es env := by
  cases a <;> first | cases h | exact ⟨h, fun _ => rfl⟩
theorem noStar_any {env : PySem.Env} {pos : Pos} : ∀ {es : List Expr}, noStar es = true → (backTo pos (starEach es env)).any (·.1) = false
  | [], _ => rfl
  | a :: es, h => by
    obtain ⟨h1, h2⟩ := noStar_cons h
    rw [h2 env]
    show (false || (backTo pos (starEach es env)).any (·.1)) = false
    rw [noStar_any h1]; rfl
theorem noStar_all {env : PySem.Env} {pos : Pos} : ∀ {es : List Expr}, noStar es = true → (backTo pos (starEach es env)).all (fun x => !x.1) = true
  | [], _ => rfl
  | a :: es, h => by
    obtain ⟨h1, h2⟩ := noStar_cons h
    rw [h2 env]
    show (!false && (backTo pos (starEach es env)).all (fun x => !x.1)) = true
    rw [noStar_all h1]; rfl
theorem noStar_asg {env : PySem.Env} : ∀ {es : List Expr}, noStar es = true → (assignEach es env).length = es.length ∧ (assignEach es env).findIdx? (·.1) = none
  | [], _ => ⟨rfl, rfl⟩
  | a :: es, h => by
    have h1 := (noStar_cons h).1
    have h2 : assignEach (a :: es) env = (false, assign a env) :: assignEach es env := by cases a <;> first | cases h | rfl
    obtain ⟨i1, i2⟩ := noStar_asg (env := env) h1
    rw [h2]
    refine ⟨by rw [List.length_cons, List.length_cons, i1], ?_⟩
    rw [List.findIdx?_cons, i2]; rfl
theorem attrBase_of {a : Expr} {f : Str} {env : PySem.Env} (h : plainRecv a = true) : attributeBase a f env (eval a env) = eval a env := by
  cases a with
  | Call g args kws pos =>
    cases g with
    | Name id p =>
      cases args with
      | nil =>
        cases kws with
        | nil => cases h
        | cons _ _ => rfl
      | cons _ _ => rfl
    | _ => rfl
  | _ => rfl
theorem fold_of {it : Expr} (h : notSet it = true) : ∀ env x, foldedSetIterable it env x = pure x := by
  intro env x
  cases it <;> first | rfl | cases h
theorem test_of {e : Expr} (h : plainTest e = true) : ∀ env whole, isTrue e env whole = (do let v ← whole; standAt e.pos; holding [v] (truthy v)) := by
  intro env whole
  cases e with
  | UnaryOp op a p => cases h
  | BoolOp _ _ _ => cases h
  | IfExp _ _ _ _ => cases h
  | Compare _ _ _ _ => cases h
  | _ => rfl
theorem sw_none {e : Expr} (h : notComp e = true) : ∀ t l env, swapsWith e t l env = pure false := by
  intro t l env
  cases e <;> first | rfl | cases h
theorem sole_of {t e : Expr} (h : notComp e = true) : ∀ l env, swapsWithSole [t] e l env = pure false := fun l env => sw_none h _ l env
theorem sw_name {elt : Expr} {gs : List Comprehension} {s : Scope} {p px : Pos} {x : Str} {l : Nat} {env : PySem.Env} {tc : TC} (hs : env.scope = tc.sc) (hk : env.scope.kind = .function) :
    swapsWith (.ListComp elt gs s p) (some (.Name x px)) l env = pure (swB tc (.ListComp elt gs s p) x px) := by
  have hb : env.blockKind = .function := by unfold Env.blockKind; rw [hk]; rfl
  have e1 : (env.kindOf x == some NameKind.local) = decide (tc.sc.names.lookup x = some .local) := by
    unfold Env.kindOf
    rw [hs]
    cases h : decide (tc.sc.names.lookup x = some .local) with
    | true => rw [of_decide_eq_true h]; rfl
    | false => exact beq_eq_false_iff_ne.mpr (of_decide_eq_false h)
  unfold swapsWith swB
  simp only [hb, e1, Expr.pos]
  rfl
theorem gl_of {X : Cx} {tc : TC} {x : Str} (hs : X.env.scope = tc.sc) (h : glB tc x = true) : Gl X x ∧ (x == ("__debug__" : Str)) = false := by
  unfold glB dbg at h
  rw [Bool.and_eq_true_iff] at h
  refine ⟨?_, ?_⟩
  · unfold Gl Env.kindOf
    rw [hs]
    exact of_decide_eq_true h.1
  · have z := h.2
    cases e : (x == ("__debug__" : Str)) with
    | false => rfl
    | true => rw [e] at z; cases z
theorem vis_of {X : Cx} {tc : TC} {x : Str} (hs : X.env.scope = tc.sc) (h : visB tc x = true) : Vis X.env.scope x ∧ (x == ("__debug__" : Str)) = false ∧ (x == ("__classdict__" : Str)) = false := by
  unfold visB dbg at h
  rw [Bool.and_eq_true_iff] at h
  refine ⟨?_, ?_, ?_⟩
  · unfold Vis
    rw [hs]
    have z := h.1
    rw [Bool.or_eq_true, Bool.or_eq_true] at z
    rcases z with (z | z) | z
    · exact .inl (of_decide_eq_true z)
    · exact .inr (.inl (of_decide_eq_true z))
    · exact .inr (.inr (of_decide_eq_true z))
  · have z := h.2
    cases e : (x == ("__debug__" : Str)) with
    | false => rfl
    | true => rw [e] at z; cases z
  · have z := h.2
    cases e : (x == ("__classdict__" : Str)) with
    | false => rfl
    | true =>
      rw [e] at z
      cases q : (x == ("__debug__" : Str)) <;> rw [q] at z <;> cases z

/-- what stands behind the names -/
structure Facts (S : Sig) (P : Program) (wd : World) (K : PySem.W.Frag) (mg : Str → Option Value) (base : Heap) (w : Wld) (k : Nat) : Prop where
  fns : ∀ x n, S.fns.lookup x = some n → ∃ f fd ps, FnOk P wd K mg base (L2.CX P wd) k f fd ps (SpF K mg w.fld n (w.call x)) ∧ mg x = some (.ref f) ∧ PySem.W.keepIn K (.ref f) = true ∧ Binds K fd ps []
  clss : ∀ x n, S.clss.lookup x = some n → ∃ C f fd ps, Mk K C f ∧ FnOk P wd K mg base (L2.CX P wd) k f fd ps (SpF K mg w.fld (n + 1) (w.call (x ++ (".__init__" : Str)))) ∧ mg x = some (.ref C) ∧ Binds K fd ps []
  ownm : ∀ c ∈ S.clss.map (·.1), ∃ C, mg c = some (.ref C)
  kit : ∀ ts : List Ty, (∀ t ∈ ts, t.own = true → t.name ∈ S.clss.map (·.1)) → Kit K mg (S.clss.map (·.1)) ts
  attrs : ∀ f cs, S.attrs.lookup f = some cs → ∀ c ∈ cs, ∀ C, mg c = some (.ref C) → Cls K C ∧ NoAttr K C f
  gis : ∀ x v, S.gis.lookup x = some v → w.glo x = some v ∧ ((∃ i t, v = .int i ∧ mg x = some (.int i t)) ∨ (∃ z t, v = .str z ∧ mg x = some (.str z t)))
  free : ∀ x ∈ S.free, mg x = none
  excs : ∀ x ∈ S.excs, ∃ C, mg x = some (.ref C) ∧ ExcO K C ∧ w.fld x = none
  exall : ∀ x ∈ S.exall, ∃ C, mg x = some (.ref C) ∧ ∀ d ∈ S.exall, ∀ D, mg d = some (.ref D) → PySem.W.exmOne K (.ref D) (.ref C) = some (takes x d) ∧ ExcC K D ∧ PySem.W.kitOne K (.ref D) (.ref C) = some (takes x d)
structure Fit (k : Nat) (X : Cx) (tc : TC) (W : WX) (hx : Hx) : Prop where
  N : X.N = tc.N
  nd : X.N.Nodup
  sc : X.env.scope = tc.sc
  kd : X.env.scope.kind = .function
  fn : ∀ x, (match tc.fnx with
    | none => true
    | some s => s.names.lookup x == some .cell) = true → X.fn x = true
  calm : tc.calm = true → X.calm = true ∧ Room (k + 1) X.A ∧ Takes X W ∧ hx = none
  top : tc.top = true → X.stack = X.env :: X.outer ∧ X.env.frame = some X.env.locals ∧ PassesOwn (model X.prog X.w) X.A X.env X.xe
  un : X.A.units + 65 < cLine
  hot : ∀ i, tc.hot = some i → ∃ (X0 : Cx) (a : Addr) (oe : Obj) (pn : List (Addr × Obj)) (cls : Value) (dd : Option Addr), X = X0.suite a ((a, oe) :: pn) ∧ hx = some (a, cls, dd) ∧ Zc cls dd oe ∧ ∃ vs, oe.data = .fields vs
section
variable {k : Nat} {X : Cx} {tc : TC} {W : WX} {hx : Hx}
theorem Fit.loc (f : Fit k X tc W hx) {x : Str} (h : locB tc x = true) : Loc X.env.scope x ∧ (X.fn x = true ∨ X.env.scope.names.lookup x = some .local) := by
  unfold locB at h
  rw [Bool.or_eq_true] at h
  rw [f.sc]
  rcases h with h | h
  · exact ⟨.inl (of_decide_eq_true h), .inr (of_decide_eq_true h)⟩
  · rw [Bool.and_eq_true_iff] at h
    exact ⟨.inr (of_decide_eq_true h.1), .inl (f.fn x h.2)⟩
theorem Fit.blk (f : Fit k X tc W hx) (hc : tc.calm = true) {scope : Scope} (hk : scope.kind = .function) (s : Shared) (H : Hp) (C : Addr) (cl : List (Str × Addr)) (fp : List Addr) : Fit k (X.blk s H scope (compEnvC scope cl C X.env) fp) (tc.blk scope) W0 none where
  N := f.N
  nd := f.nd
  sc := by
    show (compEnvC scope cl C X.env).scope = L2.relS scope tc.sc
    rw [← f.sc]
    rfl
  kd := hk
  fn := fun x h => h
  calm := fun _ => ⟨(f.calm hc).1, (f.calm hc).2.1, takes0, rfl⟩
  top := fun h => by cases h
  un := f.un
  hot := fun i h => by cases h
theorem Fit.tr (f : Fit k X tc W hx) (hc : tc.calm = true) (ht : tc.top = true) {W' : WX} {pn : List (Addr × Obj)} {xe : Value → Shared → Prop} (tk : Takes (X.tr pn xe) W') (hp : PassesOwn (model X.prog X.w) X.A X.env xe) : Fit k (X.tr pn xe) { tc with hot := none } W' none where
  N := f.N
  nd := f.nd
  sc := f.sc
  kd := f.kd
  fn := f.fn
  calm := fun _ => ⟨(f.calm hc).1, (f.calm hc).2.1, tk, rfl⟩
  top := fun _ => ⟨(f.top ht).1, (f.top ht).2.1, hp⟩
  un := f.un
  hot := fun i h => by cases h
theorem Fit.suite (f : Fit k X tc W hx) {i : Nat} {a : Addr} {oe : Obj} {cls : Value} {d : Option Addr} {pn : List (Addr × Obj)} (hz : Zc cls d oe) (hv : ∃ vs, oe.data = .fields vs) : Fit k (X.suite a ((a, oe) :: pn)) (tc.suite (some i)) W0 (some (a, cls, d)) where
  N := f.N
  nd := f.nd
  sc := f.sc
  kd := f.kd
  fn := f.fn
  calm := fun h => by cases h
  top := fun h => by cases h
  un := f.un
  hot := fun j _ => ⟨X, a, oe, pn, cls, d, rfl, rfl, hz, hv⟩
theorem Fit.suite0 (f : Fit k X tc W hx) {a : Addr} {oe : Obj} {pn : List (Addr × Obj)} : Fit k (X.suite a ((a, oe) :: pn)) (tc.suite none) W0 none where
  N := f.N
  nd := f.nd
  sc := f.sc
  kd := f.kd
  fn := f.fn
  calm := fun h => by cases h
  top := fun h => by cases h
  un := f.un
  hot := fun j h => by cases h
theorem Fit.idx (f : Fit k X tc W hx) {x : Str} {i : Nat} (h : idxOf x tc.N = some i) : X.N[i]? = some x := by rw [f.N]; exact idxOf_get h
end
/-- the fields that Facts speaks of -/
abbrev FactsX (S : Sig) (X : Cx) (w : Wld) (k : Nat) : Prop := Facts S X.prog X.w X.K X.mg X.base w k

section
variable {X : Cx} {w : Wld}
theorem bi_ok {x : Str} {n : Nat} {b : Bi} (hc : X.calm = true) (hu : X.A.units + 64 < cLine) (h : biOf x n = some b) :
    x ≠ "__name__" ∧ ((∃ id, bootBuiltins x = some (.builtin id) ∧ CallR X (.builtin id) (RsL X w.fld (biV b))) ∨ (∃ id, bootBuiltins x = some (.type id) ∧ CallR X (.type id) (RsL X w.fld (biV b)))) := by
  unfold biOf at h
  by_cases e : x = "len"
  · rw [if_pos e] at h; cases h; subst e; exact ⟨by decide, .inl ⟨_, boot_len, cr_len⟩⟩
  rw [if_neg e] at h; clear e
  by_cases e : x = "sum"
  · rw [if_pos e] at h; cases h; subst e; exact ⟨by decide, .inl ⟨_, boot_sum, cr_sum hc⟩⟩
  rw [if_neg e] at h; clear e
  by_cases e : x = "max"
  · rw [if_pos e] at h; subst e
    refine ⟨by decide, .inl ⟨_, boot_max, ?_⟩⟩
    by_cases e2 : n = 2
    · rw [if_pos e2] at h; cases h; exact cr_max2 hc
    · rw [if_neg e2] at h; cases h; exact cr_max hc hu
  rw [if_neg e] at h; clear e
  by_cases e : x = "min"
  · rw [if_pos e] at h; subst e
    refine ⟨by decide, .inl ⟨_, boot_min, ?_⟩⟩
    by_cases e2 : n = 2
    · rw [if_pos e2] at h; cases h; exact cr_min2 hc
    · rw [if_neg e2] at h; cases h; exact cr_min hc hu
  rw [if_neg e] at h; clear e
  by_cases e : x = "all"
  · rw [if_pos e] at h; cases h; subst e; exact ⟨by decide, .inl ⟨_, boot_all, cr_all hc⟩⟩
  rw [if_neg e] at h; clear e
  by_cases e : x = "any"
  · rw [if_pos e] at h; cases h; subst e; exact ⟨by decide, .inl ⟨_, boot_any, cr_any hc⟩⟩
  rw [if_neg e] at h; clear e
  by_cases e : x = "abs"
  · rw [if_pos e] at h; cases h; subst e; exact ⟨by decide, .inl ⟨_, boot_abs, cr_abs⟩⟩
  rw [if_neg e] at h; clear e
  by_cases e : x = "int"
  · rw [if_pos e] at h; cases h; subst e; exact ⟨by decide, .inr ⟨_, boot_int, cr_int⟩⟩
  rw [if_neg e] at h; clear e
  by_cases e : x = "tuple"
  · rw [if_pos e] at h; cases h; subst e; exact ⟨by decide, .inr ⟨_, boot_tuple, cr_tuple⟩⟩
  rw [if_neg e] at h; clear e
  by_cases e : x = "list"
  · rw [if_pos e] at h; cases h; subst e; exact ⟨by decide, .inr ⟨_, boot_list, cr_list⟩⟩
  rw [if_neg e] at h
  cases h
theorem mt_ok {m : Str} {n : Nat} {b : Mt} (h : mtOf m n = some b) :
    ∃ id, Slot "list" m id ∧ typeOf (.builtin id) = pure (.type "method_descriptor") ∧ MtR X id (RmL X w.fld (mtV b)) ∧ ("list" : String) = Mt.ty b := by
  unfold mtOf at h
  by_cases e : m = "append"
  · rw [if_pos e] at h; cases h; subst e; exact ⟨_, PySem.F.slot_list_append, PySem.F.type_list_append, mr_append, rfl⟩
  rw [if_neg e] at h; clear e
  by_cases e : m = "pop"
  · rw [if_pos e] at h; subst e
    by_cases e2 : n = 0
    · rw [if_pos e2] at h; cases h; exact ⟨_, PySem.F.slot_list_pop, PySem.F.type_list_pop, mr_pop, rfl⟩
    · rw [if_neg e2] at h; cases h; exact ⟨_, PySem.F.slot_list_pop, PySem.F.type_list_pop, mr_popAt, rfl⟩
  rw [if_neg e] at h; clear e
  by_cases e : m = "extend"
  · rw [if_pos e] at h; cases h; subst e; exact ⟨_, PySem.F.slot_list_extend, PySem.F.type_list_extend, mr_extend, rfl⟩
  rw [if_neg e] at h; clear e
  by_cases e : m = "reverse"
  · rw [if_pos e] at h; cases h; subst e; exact ⟨_, PySem.F.slot_list_reverse, PySem.F.type_list_reverse, mr_reverse, rfl⟩
  rw [if_neg e] at h; clear e
  by_cases e : m = "clear"
  · rw [if_pos e] at h; cases h; subst e; exact ⟨_, PySem.F.slot_list_clear, PySem.F.type_list_clear, mr_clear, rfl⟩
  rw [if_neg e] at h
  cases h
theorem bop_ok {op : Operator} {o : Bop} (h : bopOf op = some o) : OpR X (binaryOp op) (R2L X w.fld (bopV o)) := by
  cases op <;> cases h
  · exact or_add
  · exact or_sub
  · exact or_mul
  · exact or_mod
  · exact or_pow
  · exact or_fdiv
theorem cop_ok {op : CmpOp} {o : Cop} (hu : X.A.units + 65 < cLine) (h : copOf op = some o) : OpR X (compareOp op) (R2L X w.fld (copV o)) := by
  have hu' : X.A.units + 64 < cLine := by omega
  cases op <;> cases h
  · exact or_eq hu'
  · exact or_ne hu'
  · exact or_lt
  · exact or_le
  · exact or_gt
  · exact or_ge
  · exact or_is
  · exact or_isnt
  · exact or_isin hu
  · exact or_notin hu
theorem ty_ok {S : Sig} {tc : TC} {k : Nat} {x : Str} {t : Ty} (F : FactsX S X w k) (hs : X.env.scope = tc.sc) (h : tyOf S tc x = some t) : t.name = x ∧ TyN X t ∧ (t.own = true → t.name ∈ S.clss.map (·.1)) := by
  unfold tyOf at h
  by_cases g : glB tc x = true
  case neg => rw [if_neg g] at h; cases h
  rw [if_pos g] at h
  obtain ⟨g1, g2⟩ := gl_of hs g
  by_cases c : decide (x ∈ S.clss.map (·.1)) = true
  · rw [if_pos c] at h
    cases h
    have c := of_decide_eq_true c
    exact ⟨rfl, ⟨g1, g2, fun _ => F.ownm x c, (fun z => by cases z)⟩, fun _ => c⟩
  rw [if_neg c] at h
  by_cases c2 : decide (x ∈ S.free) = true
  case neg => rw [if_neg c2] at h; cases h
  rw [if_pos c2] at h
  have fr := F.free x (of_decide_eq_true c2)
  by_cases e : x = "int"
  · rw [if_pos e] at h; cases h; subst e; exact ⟨rfl, ⟨g1, g2, (fun z => by cases z), fun _ => fr⟩, (fun z => by cases z)⟩
  rw [if_neg e] at h; clear e
  by_cases e : x = "bool"
  · rw [if_pos e] at h; cases h; subst e; exact ⟨rfl, ⟨g1, g2, (fun z => by cases z), fun _ => fr⟩, (fun z => by cases z)⟩
  rw [if_neg e] at h; clear e
  by_cases e : x = "str"
  · rw [if_pos e] at h; cases h; subst e; exact ⟨rfl, ⟨g1, g2, (fun z => by cases z), fun _ => fr⟩, (fun z => by cases z)⟩
  rw [if_neg e] at h; clear e
  by_cases e : x = "tuple"
  · rw [if_pos e] at h; cases h; subst e; exact ⟨rfl, ⟨g1, g2, (fun z => by cases z), fun _ => fr⟩, (fun z => by cases z)⟩
  rw [if_neg e] at h; clear e
  by_cases e : x = "list"
  · rw [if_pos e] at h; cases h; subst e; exact ⟨rfl, ⟨g1, g2, (fun z => by cases z), fun _ => fr⟩, (fun z => by cases z)⟩
  rw [if_neg e] at h; clear e
  by_cases e : x = "dict"
  · rw [if_pos e] at h; cases h; subst e; exact ⟨rfl, ⟨g1, g2, (fun z => by cases z), fun _ => fr⟩, (fun z => by cases z)⟩
  rw [if_neg e] at h
  cases h
theorem tys_ok {S : Sig} {tc : TC} {k : Nat} (F : FactsX S X w k) (hs : X.env.scope = tc.sc) : ∀ {es : List Expr} {ts : List Ty}, tysOf S tc es = some ts → TyNs X es ts ∧ (∀ t ∈ ts, t.own = true → t.name ∈ S.clss.map (·.1)) ∧ ts.length = es.length
  | [], ts, h => by cases h; exact ⟨.nil, (fun _ z => by cases z), rfl⟩
  | e :: r, ts, h => by
    cases e with
    | Name x p =>
      have h : (match tyOf S tc x, tysOf S tc r with
        | some t, some ts => some (t :: ts)
        | _, _ => none) = some ts := h
      cases h1 : tyOf S tc x with
      | none => rw [h1] at h; cases h
      | some t =>
        rw [h1] at h
        cases h2 : tysOf S tc r with
        | none => rw [h2] at h; cases h
        | some ts' =>
          rw [h2] at h
          cases h
          obtain ⟨e1, t1, c1⟩ := ty_ok F hs h1
          obtain ⟨t2, c2, l2⟩ := tys_ok F hs h2
          subst e1
          exact ⟨.cons t1 rfl t2, fun t' ht => (List.mem_cons.mp ht).elim (fun z => by rw [z]; exact c1) (c2 t'), by rw [List.length_cons, List.length_cons, l2]⟩
    | _ => cases h
theorem trEs_len {S : Sig} {tc : TC} : ∀ (n : Nat) (es : List Expr), (trEs S n tc es).len = es.length
  | 0, es => by
    unfold trEs
    induction es with
    | nil => rfl
    | cons a r ih => show (badEs r).len + 1 = _; rw [ih]; rfl
  | n + 1, [] => by unfold trEs; rfl
  | n + 1, e :: r => by
    unfold trEs
    show (trEs S n tc r).len + 1 = _
    rw [trEs_len n r]; rfl
end
end Mini

set_option autoImplicit false
set_option linter.all false
set_option maxRecDepth 100000
/-! Mini16: the translator keeps the readings: expressions. -/
namespace Mini
open PySem PySem.Spec L2
open PyProof.Rows hiding St

/-- what holds of the translator with that much fuel -/
structure OkE (S : Sig) (w : Wld) (k n : Nat) : Prop where
  e : ∀ {X : Cx} {tc : TC} {W : WX} {hx : Hx}, FactsX S X w k → Fit k X tc W hx → ∀ e, PE X e (LE X w.fld hx W (denE w (trE S n tc e)))
  b : ∀ {X : Cx} {tc : TC} {W : WX} {hx : Hx}, FactsX S X w k → Fit k X tc W hx → ∀ op es pos, PE X (.BoolOp op es pos) (LE X w.fld hx W (denE w (trB S n tc op es)))
  t : ∀ {X : Cx} {tc : TC} {W : WX} {hx : Hx}, FactsX S X w k → Fit k X tc W hx → ∀ e, PT X e (LT X w.fld hx W (toT (denE w (trT S n tc e))))
  tb : ∀ {X : Cx} {tc : TC} {W : WX} {hx : Hx}, FactsX S X w k → Fit k X tc W hx → ∀ op es pos, PW X (.BoolOp op es pos) (LT X w.fld hx W (toT (denE w (trTB S n tc op es))))
  es : ∀ {X : Cx} {tc : TC} {W : WX} {hx : Hx}, FactsX S X w k → Fit k X tc W hx → ∀ es, noStar es = true → PA X es (LA X w.fld hx W (denEs w (trEs S n tc es)))
  c : ∀ {X : Cx} {tc : TC} {W : WX} {hx : Hx}, FactsX S X w k → Fit k X tc W hx → ∀ x args p pos, PE X (.Call (.Name x p) args [] pos) (LE X w.fld hx W (denE w (trC S n tc x args)))
  i : ∀ {X : Cx} {tc : TC} {W : WX} {hx : Hx}, FactsX S X w k → Fit k X tc W hx → ∀ tg it, PI X tg it (LI X w.fld hx W (denIt w (trI S n tc tg it)))
  g : ∀ {X : Cx} {tc : TC} {W : WX} {hx : Hx}, FactsX S X w k → Fit k X tc W hx → ∀ e t, trG S n tc e = some t → PG X e (LG X w.fld hx t.slots (denT w t))
  gs : ∀ {X : Cx} {tc : TC} {W : WX} {hx : Hx}, FactsX S X w k → Fit k X tc W hx → ∀ es ts, trGs S n tc es = some ts → PGs X es (LGs X w.fld hx ts.slots (denTs w ts)) ∧ es.length = ts.len ∧ noStar es = true
  ifs : ∀ {X : Cx} {tc : TC} {W : WX} {hx : Hx}, FactsX S X w k → Fit k X tc W hx → ∀ es, PTs X es (LT X w.fld hx W (toT (denE w (trIf S n tc es))))
  l : ∀ {X : Cx} {tc : TC} {W : WX} {hx : Hx}, FactsX S X w k → Fit k X tc W hx → ∀ elt gens s pos, PE X (.ListComp elt gens s pos) (LE X w.fld hx W (denE w (trL S n tc elt gens s))) ∧
    ∀ i y py spos, X.N[i]? = some y → X.env.scope.names.lookup y = some .local → swapsWith (.ListComp elt gens s pos) (some (.Name y py)) spos.line X.env = pure true →
      PS X (.Assign [.Name y py] (.ListComp elt gens s pos) spos) (LS X w.fld hx W (denS w (.asg (.nm i) (trL S n tc elt gens s))))
section
variable {S : Sig} {w : Wld} {k n : Nat} {X : Cx} {tc : TC} {W : WX} {hx : Hx} {t : TG}
theorem lt_bad {e : Expr} : PT X e (LT X w.fld hx W (toT (denE w .bad))) := ⟨fun _ _ _ _ _ _ ⟨_, _, _, _, _, q⟩ => q.elim⟩
theorem lw_bad {e : Expr} : PW X e (LT X w.fld hx W (toT (denE w .bad))) := ⟨fun _ _ _ _ _ _ _ ⟨_, _, _, _, _, q⟩ => q.elim⟩
theorem lts_bad {es : List Expr} : PTs X es (LT X w.fld hx W (toT (denE w .bad))) := ⟨fun _ _ _ _ _ _ ⟨_, _, _, _, _, q⟩ => q.elim⟩
theorem PTs.weak {es : List Expr} {t t' : TT} (h : PTs X es t) (wk : ∀ σ H Q, t' σ H Q → t σ H Q) : PTs X es t' := ⟨fun pins s σ H Q I q => h.run pins s σ H Q I (wk σ H Q q)⟩
theorem ls_setL_bad {i : Nat} {st : Stmt} : PS X st (LS X w.fld hx W (denS w (.asg (.nm i) .bad))) := ⟨fun _ _ _ _ _ _ ⟨_, _, _, _, _, q⟩ => q.elim⟩
theorem la_bad : ∀ {es : List Expr}, PA X es (LA X w.fld hx W (denEs w (badEs es)))
  | [] => la_nil
  | a :: r => ⟨fun _ _ _ _ _ _ _ ⟨_, _, _, _, _, q⟩ => q.elim⟩
theorem ok_zero : OkE S w k 0 where
  e := fun _ _ e => le_bad
  b := fun _ _ op es pos => le_bad
  t := fun _ _ e => lt_bad
  tb := fun _ _ op es pos => lw_bad
  es := fun _ _ es _ => la_bad
  c := fun _ _ x args p pos => le_bad
  i := fun _ _ tg it => li_bad
  g := fun _ _ e t h => by cases h
  gs := fun _ _ es ts h => by cases h
  ifs := fun _ _ es => lts_bad
  l := fun _ _ elt gens s pos => ⟨le_bad, fun i y py spos _ _ _ => ls_setL_bad⟩
theorem ok_name (F : FactsX S X w k) (f : Fit k X tc W hx) (x : Str) (p : Pos) : PE X (.Name x p) (LE X w.fld hx W (denE w (trE S (n + 1) tc (.Name x p)))) := by
  unfold trE
  dsimp only
  by_cases v : visB tc x = true
  · rw [if_pos v]
    obtain ⟨v1, v2, v3⟩ := vis_of f.sc v
    cases e : idxOf x tc.N with
    | none => exact le_bad
    | some i => exact le_var (f.idx e) v1 v2 v3
  rw [if_neg v]
  by_cases g : glB tc x = true
  case neg => rw [if_neg g]; exact le_bad
  rw [if_pos g]
  obtain ⟨g1, g2⟩ := gl_of f.sc g
  cases e : S.gis.lookup x with
  | none => exact le_bad
  | some v =>
    obtain ⟨h1, h2⟩ := F.gis x v e
    rcases h2 with ⟨i, t, rfl, hm⟩ | ⟨z, t, rfl, hm⟩
    · exact le_glo_int g1 ⟨t, hm⟩ h1 g2
    · exact le_glo_str g1 ⟨t, hm⟩ h1 g2
theorem ok_cmp (o : OkE S w k n) (F : FactsX S X w k) (f : Fit k X tc W hx) (a : Expr) (ops : List CmpOp) (cs : List Expr) (p : Pos) : PE X (.Compare a ops cs p) (LE X w.fld hx W (denE w (trE S (n + 1) tc (.Compare a ops cs p)))) := by
  match ops, cs with
  | [op], [b] =>
    unfold trE
    dsimp only
    cases e : copOf op with
    | none => exact le_bad
    | some c =>
      dsimp only
      by_cases h : behindInMarks op b = false
      · rw [if_pos h]; exact le_cmp (cop_ok f.un e) (o.e F f a) (o.e F f b) h
      · rw [if_neg h]; exact le_bad
  | [op, op'], [b, c] =>
    unfold trE
    dsimp only
    cases e : copOf op with
    | none => exact le_bad
    | some c1 =>
      cases e' : copOf op' with
      | none => exact le_bad
      | some c2 =>
        dsimp only
        by_cases h : lastMarks [op, op'] [b, c] = false
        · rw [if_pos h]; exact le_chn (cop_ok f.un e) (cop_ok f.un e') (o.e F f a) (o.e F f b) (o.e F f c) h
        · rw [if_neg h]; exact le_bad
  | [], _ => exact le_bad
  | [_], [] => exact le_bad
  | [_], _ :: _ :: _ => exact le_bad
  | [_, _], [] => exact le_bad
  | [_, _], [_] => exact le_bad
  | [_, _], _ :: _ :: _ :: _ => exact le_bad
  | _ :: _ :: _ :: _, _ => exact le_bad
theorem ok_sub (o : OkE S w k n) (F : FactsX S X w k) (f : Fit k X tc W hx) (a i : Expr) (p : Pos) : PE X (.Subscript a i p) (LE X w.fld hx W (denE w (trE S (n + 1) tc (.Subscript a i p)))) := by
  cases i with
  | Slice lo hi st p2 =>
    cases st with
    | some _ => cases lo <;> cases hi <;> exact le_bad
    | none =>
      cases lo with
      | none =>
        cases hi with
        | none => exact le_slA (o.e F f a)
        | some h => exact le_slH (o.e F f a) (o.e F f h)
      | some l =>
        cases hi with
        | none => exact le_slL (o.e F f a) (o.e F f l)
        | some h => exact le_sl (o.e F f a) (o.e F f l) (o.e F f h)
  | _ => exact le_ix (o.e F f a) (o.e F f _) (plainIx_of rfl)
theorem ok_attr (o : OkE S w k n) (F : FactsX S X w k) (f : Fit k X tc W hx) (a : Expr) (g : Str) (p : Pos) : PE X (.Attribute a g p) (LE X w.fld hx W (denE w (trE S (n + 1) tc (.Attribute a g p)))) := by
  unfold trE
  dsimp only
  by_cases h : plainRecv a = true
  case neg => rw [if_neg h]; exact le_bad
  rw [if_pos h]
  cases e : S.attrs.lookup g with
  | none => exact le_bad
  | some cs => exact le_fld (o.e F f a) (attrBase_of h) (F.attrs g cs e)
theorem ok_meth (o : OkE S w k n) (F : FactsX S X w k) (f : Fit k X tc W hx) (a : Expr) (m : Str) (ap : Pos) (args : List Expr) (p : Pos) : PE X (.Call (.Attribute a m ap) args [] p) (LE X w.fld hx W (denE w (trE S (n + 1) tc (.Call (.Attribute a m ap) args [] p)))) := by
  unfold trE
  dsimp only
  cases e : mtOf m args.length with
  | none => exact le_bad
  | some b =>
    dsimp only
    by_cases h : plainRecv a = true ∧ noStar args = true ∧ args.length < 29 ∧ (ap.endLine == p.line) = true
    case neg => rw [if_neg h]; exact le_bad
    rw [if_pos h]
    obtain ⟨h1, h2, h3, h4⟩ := h
    obtain ⟨id, sl, ty, mr, tt⟩ := mt_ok (X := X) (w := w) e
    cases args with
    | nil =>
      have z : trEs S n tc [] = .nil := by cases n <;> (unfold trEs; rfl)
      rw [z]
      exact le_mt0 tt PySem.F.plainAttrs_list sl ty mr (o.e F f a) (attrBase_of h1) h4
    | cons x r =>
      obtain ⟨h5, h6⟩ := noStar_cons h2
      refine le_mt tt PySem.F.plainAttrs_list sl ty mr (o.e F f a) (o.es F f _ h2) (attrBase_of h1) ?_ h4 (h6 _) (noStar_any h5)
      rw [Bool.and_eq_true_iff, Bool.and_eq_true_iff]
      exact ⟨⟨noStar_all h2, rfl⟩, decide_eq_true (by simp at h3 ⊢; omega)⟩
theorem ok_e (o : OkE S w k n) (F : FactsX S X w k) (f : Fit k X tc W hx) (e : Expr) : PE X e (LE X w.fld hx W (denE w (trE S (n + 1) tc e))) := by
  cases e with
  | BoolOp op es p => exact o.b F f op es p
  | BinOp a op b p =>
    unfold trE
    dsimp only
    cases e : bopOf op with
    | none => exact le_bad
    | some c => exact le_op (bop_ok e) (o.e F f a) (o.e F f b)
  | UnaryOp op a p =>
    cases op with
    | Not => exact le_not (o.e F f a)
    | USub => exact le_neg (o.e F f a)
    | Invert => exact le_bad
    | UAdd => exact le_bad
  | IfExp c a b p => exact le_ife (o.t F f c) (o.e F f a) (o.e F f b)
  | ListComp elt gens s p => exact (o.l F f elt gens s p).1
  | Compare a ops cs p => exact ok_cmp o F f a ops cs p
  | Call g args kws p =>
    cases kws with
    | cons _ _ => cases g <;> exact le_bad
    | nil =>
      cases g with
      | Name x p2 => exact o.c F f x args p2 p
      | Attribute a m ap => exact ok_meth o F f a m ap args p
      | _ => exact le_bad
  | Constant c j p =>
    cases c with
    | int i => exact le_int
    | bool b => exact le_bl
    | none => exact le_non
    | str z => exact le_str
    | _ => exact le_bad
  | Attribute a g p => exact ok_attr o F f a g p
  | Subscript a i p => exact ok_sub o F f a i p
  | Name x p => exact ok_name F f x p
  | List es p =>
    unfold trE
    dsimp only
    by_cases h : noStar es = true ∧ es.length ≤ 1000
    · rw [if_pos h]; exact le_lst (o.es F f es h.1) (by rw [trEs_len]; exact h.2)
    · rw [if_neg h]; exact le_bad
  | Tuple es j p =>
    unfold trE
    dsimp only
    by_cases h : noStar es = true ∧ es.length ≤ 1000
    · rw [if_pos h]; exact le_tup (o.es F f es h.1) (by rw [trEs_len]; exact h.2)
    · rw [if_neg h]; exact le_bad
  | _ => exact le_bad
theorem ok_b (o : OkE S w k n) (F : FactsX S X w k) (f : Fit k X tc W hx) (op : BoolOp) (es : List Expr) (p : Pos) : PE X (.BoolOp op es p) (LE X w.fld hx W (denE w (trB S (n + 1) tc op es))) := by
  match es with
  | [] => cases op <;> exact le_bad
  | [a] => cases op <;> exact le_one (o.e F f a)
  | a :: b :: r =>
    cases op with
    | And => exact le_and (o.e F f a) (o.b F f .And (b :: r) p)
    | Or => exact le_or (o.e F f a) (o.b F f .Or (b :: r) p)
theorem ok_tb (o : OkE S w k n) (F : FactsX S X w k) (f : Fit k X tc W hx) (op : BoolOp) (es : List Expr) (p : Pos) : PW X (.BoolOp op es p) (LT X w.fld hx W (toT (denE w (trTB S (n + 1) tc op es)))) := by
  match es with
  | [] => cases op <;> exact lw_bad
  | [a] => cases op with
    | And => exact lw_and1 (o.t F f a)
    | Or => exact lw_or1 (o.t F f a)
  | a :: b :: r =>
    cases op with
    | And => exact lw_and (o.t F f a) (o.tb F f .And (b :: r) p)
    | Or => exact lw_or (o.t F f a) (o.tb F f .Or (b :: r) p)
theorem ok_tcmp (o : OkE S w k n) (F : FactsX S X w k) (f : Fit k X tc W hx) (a : Expr) (ops : List CmpOp) (cs : List Expr) (p : Pos) : PT X (.Compare a ops cs p) (LT X w.fld hx W (toT (denE w (trT S (n + 1) tc (.Compare a ops cs p))))) := by
  match ops, cs with
  | [op], [b] =>
    unfold trT
    dsimp only
    cases e : copOf op with
    | none => exact lt_bad
    | some c =>
      dsimp only
      by_cases h : behindInMarks op b = false
      · rw [if_pos h]; exact lt_cmp (cop_ok f.un e) (o.e F f a) (o.e F f b) h
      · rw [if_neg h]; exact lt_bad
  | [op, op'], [b, c] =>
    unfold trT
    dsimp only
    cases e : copOf op with
    | none => exact lt_bad
    | some c1 =>
      cases e' : copOf op' with
      | none => exact lt_bad
      | some c2 =>
        dsimp only
        by_cases h : lastMarks [op, op'] [b, c] = false
        · rw [if_pos h]; exact lt_chn (cop_ok f.un e) (cop_ok f.un e') (o.e F f a) (o.e F f b) (o.e F f c) h
        · rw [if_neg h]; exact lt_bad
  | [], _ => exact lt_bad
  | [_], [] => exact lt_bad
  | [_], _ :: _ :: _ => exact lt_bad
  | [_, _], [] => exact lt_bad
  | [_, _], [_] => exact lt_bad
  | [_, _], _ :: _ :: _ :: _ => exact lt_bad
  | _ :: _ :: _ :: _, _ => exact lt_bad
theorem ok_t (o : OkE S w k n) (F : FactsX S X w k) (f : Fit k X tc W hx) (e : Expr) : PT X e (LT X w.fld hx W (toT (denE w (trT S (n + 1) tc e)))) := by
  cases e with
  | BoolOp op es p => exact (o.tb F f op es p).pt
  | UnaryOp op a p =>
    cases op with
    | Not => exact lt_not (o.t F f a)
    | _ => exact lt_bad
  | Compare a ops cs p => exact ok_tcmp o F f a ops cs p
  | IfExp _ _ _ _ => exact lt_bad
  | _ => exact le_test (o.e F f _) (test_of rfl _)
theorem ok_es (o : OkE S w k n) (F : FactsX S X w k) (f : Fit k X tc W hx) (es : List Expr) (h : noStar es = true) : PA X es (LA X w.fld hx W (denEs w (trEs S (n + 1) tc es))) := by
  cases es with
  | nil => exact la_nil
  | cons a r =>
    obtain ⟨h1, h2⟩ := noStar_cons h
    exact la_cons (o.e F f a) (o.es F f r h1) (h2 _)
end
end Mini

set_option autoImplicit false
set_option linter.all false
set_option maxRecDepth 100000
/-! Mini17: calls, walks, targets, comprehensions. -/
namespace Mini
open PySem PySem.Spec L2
open PyProof.Rows hiding St
section
variable {S : Sig} {w : Wld} {k n : Nat} {X : Cx} {tc : TC} {W : WX} {hx : Hx}
theorem ok_isi1 (o : OkE S w k n) (F : FactsX S X w k) (f : Fit k X tc W hx) (hg : Gl X "isinstance") (hf : ("isinstance" : Str) ∈ S.free) (a : Expr) (t : Str) (p p2 pos : Pos) (hs : noStar [a, .Name t p2] = true) :
    PE X (.Call (.Name "isinstance" p) [a, .Name t p2] [] pos) (LE X w.fld hx W (denE w (trIsi1 S tc (trE S n tc) a t))) := by
  unfold trIsi1
  cases e : tyOf S tc t with
  | none => exact le_bad
  | some ty =>
    obtain ⟨e1, t1, c1⟩ := ty_ok F f.sc e
    subst e1
    obtain ⟨h1, h2⟩ := noStar_cons hs
    exact le_isi (F.kit [ty] fun t' ht => by cases ht with
      | head => exact c1
      | tail _ z => cases z) hg (F.free _ hf) t1 (o.e F f a) (h2 _) rfl (noStar_any h1)
theorem ok_isi (o : OkE S w k n) (F : FactsX S X w k) (f : Fit k X tc W hx) (hg : Gl X "isinstance") (hf : ("isinstance" : Str) ∈ S.free) (args : List Expr) (p pos : Pos) (hs : noStar args = true) :
    PE X (.Call (.Name "isinstance" p) args [] pos) (LE X w.fld hx W (denE w (trIsi S tc (trE S n tc) args))) := by
  unfold trIsi
  match args with
  | [] => exact le_bad
  | [_] => exact le_bad
  | _ :: b :: _ :: _ => cases b <;> exact le_bad
  | [a, b] =>
    cases b with
    | Name t p2 =>
      have base := ok_isi1 o F f hg hf a t p p2 pos hs
      dsimp only
      cases hh : tc.hot with
      | none => exact base
      | some i =>
        cases a with
        | Name y p3 =>
          dsimp only
          by_cases c : idxOf y tc.N = some i ∧ visB tc y = true
          case neg => rw [if_neg c]; exact base
          rw [if_pos c]
          by_cases c2 : (decide (t ∈ S.exall) && glB tc t) = true
          case neg => rw [if_neg c2]; exact le_bad
          rw [if_pos c2]
          rw [Bool.and_eq_true_iff] at c2
          obtain ⟨g1, g2⟩ := gl_of f.sc c2.2
          obtain ⟨v1, v2, v3⟩ := vis_of f.sc c.2
          obtain ⟨C, gC, hds⟩ := F.exall t (of_decide_eq_true c2.1)
          have hN := f.idx c.1
          have hfr := F.free _ hf
          obtain ⟨X0, a0, oe, pn, cls, dd, rfl, rfl, hz, hv⟩ := f.hot i hh
          obtain ⟨h1, h2⟩ := noStar_cons hs
          exact le_exi (X := X0) hz hv hN v1 v2 v3 hg hfr gC g1 g2 (fun d hd D gD => (hds d hd D gD).2) (h2 _) rfl (noStar_any h1)
        | _ => exact base
    | Tuple ts kk p2 =>
      dsimp only
      cases e : tysOf S tc ts with
      | none => exact le_bad
      | some tys =>
        dsimp only
        by_cases c : ts.length ≤ 1000
        case neg => rw [if_neg c]; exact le_bad
        rw [if_pos c]
        obtain ⟨t1, c1, l1⟩ := tys_ok F f.sc e
        obtain ⟨h1, h2⟩ := noStar_cons hs
        exact le_isiT (F.kit tys c1) hg (F.free _ hf) t1 (by rw [l1]; exact c) (o.e F f a) (h2 _) rfl (noStar_any h1)
    | _ => exact le_bad
theorem ok_c (o : OkE S w k n) (F : FactsX S X w k) (f : Fit k X tc W hx) (x : Str) (args : List Expr) (p pos : Pos) : PE X (.Call (.Name x p) args [] pos) (LE X w.fld hx W (denE w (trC S (n + 1) tc x args))) := by
  unfold trC
  by_cases c : (!noStar args || !glB tc x) = true
  · rw [if_pos c]; exact le_bad
  rw [if_neg c]
  have hs : noStar args = true := by
    cases h : noStar args with
    | true => rfl
    | false => rw [h] at c; exact absurd rfl c
  have hgl : glB tc x = true := by
    cases h : glB tc x with
    | true => rfl
    | false => rw [hs, h] at c; exact absurd rfl c
  obtain ⟨g1, g2⟩ := gl_of f.sc hgl
  by_cases e : x = "isinstance"
  · rw [if_pos e]
    subst e
    by_cases c2 : decide (("isinstance" : Str) ∈ S.free) = true
    case neg => rw [if_neg c2]; exact le_bad
    rw [if_pos c2]
    exact ok_isi o F f g1 (of_decide_eq_true c2) args p pos hs
  rw [if_neg e]
  by_cases c2 : decide (x ∈ S.free) = true
  · rw [if_pos c2]
    have fr := F.free x (of_decide_eq_true c2)
    cases args with
    | nil => exact le_bad
    | cons a r =>
      dsimp only
      cases hb : biOf x (a :: r).length with
      | none => exact le_bad
      | some b =>
        dsimp only
        by_cases hc : tc.calm = true
        case neg => rw [if_neg hc]; exact le_bad
        rw [if_pos hc]
        obtain ⟨h1, h2⟩ := noStar_cons hs
        have hu := f.un
        obtain ⟨nn, ⟨id, hv, hr⟩ | ⟨id, hv, hr⟩⟩ := bi_ok (X := X) (w := w) (f.calm hc).1 (by omega) hb
        · exact le_bi hr g1 fr hv (o.es F f _ hs) nn g2 (h2 _) (noStar_any h1)
        · exact le_biT hr g1 fr hv (o.es F f _ hs) nn g2 (h2 _) (noStar_any h1)
  rw [if_neg c2]
  by_cases hc : tc.calm = true
  case neg => rw [if_neg hc]; exact le_bad
  rw [if_pos hc]
  obtain ⟨hc1, hroom, tk, _⟩ := f.calm hc
  cases hl : S.fns.lookup x with
  | some m =>
    dsimp only
    by_cases hm : args.length = m
    case neg => rw [if_neg hm]; exact le_bad
    rw [if_pos hm]
    obtain ⟨fa, fd, ps, FN, gm, kp, bd⟩ := F.fns x m hl
    cases args with
    | nil =>
      have z : trEs S n tc [] = .nil := by cases n <;> (unfold trEs; rfl)
      rw [z]
      have hm : 0 = m := hm
      subst hm
      exact le_call0 FN (hroom.mono (Nat.le_succ _)) g1 gm kp bd tk g2
    | cons a r =>
      obtain ⟨h1, h2⟩ := noStar_cons hs
      exact le_call FN (hroom.mono (Nat.le_succ _)) g1 gm kp bd tk (o.es F f _ hs) (by rw [trEs_len]; exact hm) g2 (h2 _) (noStar_any h1)
  | none =>
    dsimp only
    cases hl2 : S.clss.lookup x with
    | none => exact le_bad
    | some m =>
      dsimp only
      by_cases hm : args.length = m ∧ args.length ≠ 0
      case neg => rw [if_neg hm]; exact le_bad
      rw [if_pos hm]
      obtain ⟨C, fa, fd, ps, mk, FN, gm, bd⟩ := F.clss x m hl2
      cases args with
      | nil => exact absurd rfl hm.2
      | cons a r =>
        obtain ⟨h1, h2⟩ := noStar_cons hs
        exact le_new mk FN hroom g1 gm bd tk (o.es F f _ hs) (by rw [trEs_len]; exact hm.1) g2 (h2 _) (noStar_any h1)
theorem free_ok {X : Cx} {tc : TC} (F : FactsX S X w k) (hs : X.env.scope = tc.sc) {x : Str} (h : freeB S tc x = true) : Gl X x ∧ X.mg x = none := by
  unfold freeB at h
  rw [Bool.and_eq_true_iff] at h
  exact ⟨(gl_of hs h.1).1, F.free x (of_decide_eq_true h.2)⟩
theorem ok_i (o : OkE S w k n) (F : FactsX S X w k) (f : Fit k X tc W hx) (tg it : Expr) : PI X tg it (LI X w.fld hx W (denIt w (trI S (n + 1) tc tg it))) := by
  cases it with
  | Call g args kws pos =>
    cases kws with
    | cons _ _ => cases g <;> exact li_seq (o.e F f _)
    | nil =>
      cases g with
      | Name x p =>
        unfold trI
        dsimp only
        by_cases e : x = "range"
        · rw [if_pos e]
          subst e
          by_cases c : freeB S tc "range" = true ∧ noStar args = true
          case neg => rw [if_neg c]; exact li_bad
          rw [if_pos c]
          obtain ⟨g1, fr⟩ := free_ok F f.sc c.1
          match args, c.2 with
          | [], _ => exact li_bad
          | [a], hs => exact li_rng g1 fr (o.e F f a) ((noStar_cons hs).2 _) rfl
          | [a, b], hs => exact li_rng2 g1 fr (o.e F f a) (o.e F f b) ((noStar_cons hs).2 _) ((noStar_cons (noStar_cons hs).1).2 _) rfl
          | _ :: _ :: _ :: _, _ => exact li_bad
        rw [if_neg e]
        by_cases e2 : x = "enumerate"
        · rw [if_pos e2]
          subst e2
          by_cases c : freeB S tc "enumerate" = true ∧ noStar args = true
          case neg => rw [if_neg c]; exact li_bad
          rw [if_pos c]
          obtain ⟨g1, fr⟩ := free_ok F f.sc c.1
          match args, c.2 with
          | [], _ => cases tg <;> exact li_bad
          | [a], hs =>
            cases tg with
            | Tuple es kk tp => exact li_enm g1 fr (o.e F f a) ((noStar_cons hs).2 _)
            | _ => exact li_bad
          | _ :: _ :: _, _ => cases tg <;> exact li_bad
        rw [if_neg e2]
        by_cases e3 : x = "zip"
        · rw [if_pos e3]
          subst e3
          by_cases c : freeB S tc "zip" = true ∧ noStar args = true
          case neg => rw [if_neg c]; exact li_bad
          rw [if_pos c]
          obtain ⟨g1, fr⟩ := free_ok F f.sc c.1
          match args, c.2 with
          | [], _ => cases tg <;> exact li_bad
          | [_], _ => cases tg <;> exact li_bad
          | [a, b], hs =>
            cases tg with
            | Tuple es kk tp => exact li_zip g1 fr (o.e F f a) (o.e F f b) ((noStar_cons hs).2 _) ((noStar_cons (noStar_cons hs).1).2 _) (noStar_any (noStar_cons hs).1)
            | _ => exact li_bad
          | _ :: _ :: _ :: _, _ => cases tg <;> exact li_bad
        rw [if_neg e3]
        exact li_seq (o.e F f _)
      | _ => exact li_seq (o.e F f _)
  | _ => exact li_seq (o.e F f _)
theorem ok_g (o : OkE S w k n) (F : FactsX S X w k) (f : Fit k X tc W hx) (e : Expr) (t : T) (h : trG S (n + 1) tc e = some t) : PG X e (LG X w.fld hx t.slots (denT w t)) := by
  cases e with
  | Name x p =>
    unfold trG at h
    dsimp only at h
    by_cases c : locB tc x = true
    case neg => rw [if_neg c] at h; cases h
    rw [if_pos c] at h
    obtain ⟨l1, l2⟩ := f.loc c
    cases e : idxOf x tc.N with
    | none => rw [e] at h; cases h
    | some i =>
      rw [e] at h
      cases h
      exact lg_nm f.nd (f.idx e) l1 l2
  | Tuple es j p =>
    unfold trG at h
    dsimp only at h
    by_cases c : tc.calm = true
    case neg => rw [if_neg c] at h; cases h
    rw [if_pos c] at h
    cases e : trGs S n tc es with
    | none => rw [e] at h; cases h
    | some ts =>
      rw [e] at h
      cases h
      obtain ⟨h1, h2, h3⟩ := o.gs F f es ts e
      obtain ⟨i1, i2⟩ := noStar_asg (env := X.env) h3
      exact lg_tup (f.calm c).1 h1 (i1.trans h2) i2
  | Subscript a i p =>
    unfold trG at h
    dsimp only at h
    by_cases c : plainIxB i = true
    case neg => rw [if_neg c] at h; cases h
    rw [if_pos c] at h
    cases h
    exact lg_ix (o.e F f a) (o.e F f i) c
  | _ => cases h
theorem ok_gs (o : OkE S w k n) (F : FactsX S X w k) (f : Fit k X tc W hx) (es : List Expr) (ts : Ts) (h : trGs S (n + 1) tc es = some ts) : PGs X es (LGs X w.fld hx ts.slots (denTs w ts)) ∧ es.length = ts.len ∧ noStar es = true := by
  cases es with
  | nil => cases h; exact ⟨lgs_nil, rfl, rfl⟩
  | cons a r =>
    have key : (match trG S n tc a, trGs S n tc r with
        | some t, some ts => some (Ts.cons t ts)
        | _, _ => none) = some ts ∧ noStar (a :: r) = noStar r ∧ ∀ env, (assignEach (a :: r) env).map (·.2) = assign a env :: (assignEach r env).map (·.2) := by
      cases a <;> first | cases h | exact ⟨h, rfl, fun _ => rfl⟩
    obtain ⟨h, k2, k3⟩ := key
    cases e1 : trG S n tc a with
    | none => rw [e1] at h; cases h
    | some t =>
      cases e2 : trGs S n tc r with
      | none => rw [e1, e2] at h; cases h
      | some ts' =>
        rw [e1, e2] at h
        cases h
        obtain ⟨h1, h2, h3⟩ := o.gs F f r ts' e2
        exact ⟨lgs_cons (o.g F f a t e1) h1 (k3 _), by rw [List.length_cons, h2]; rfl, by rw [k2]; exact h3⟩
theorem ok_ifs (o : OkE S w k n) (F : FactsX S X w k) (f : Fit k X tc W hx) (es : List Expr) : PTs X es (LT X w.fld hx W (toT (denE w (trIf S (n + 1) tc es)))) := by
  match es with
  | [] =>
    refine PTs.weak pts_nil fun σ H Q ⟨μ, M, σ', r, e, q⟩ => ?_
    exact Good.now (a := true) (b := true) q r rfl
  | [c] => exact pts_one (o.t F f c)
  | _ :: _ :: _ => exact lts_bad
theorem sub_of {a b : List Nat} (h : subB a b = true) : ∀ i ∈ a, i ∈ b := fun i hi => of_decide_eq_true (List.all_eq_true.mp h i hi)
theorem w_asgL {e : E} {i : Nat} {σ : L2.St} {H : Hp} {D : Ends} (q : LS X w.fld hx W (denS w (.asg (.nm i) e)) D σ H) : tAsg (LE X w.fld hx W (denE w e)) (gName i) D σ H := by
  obtain ⟨μ, M, σ', r, en, q⟩ := q
  unfold denS at q
  obtain ⟨μ1, M1, τ, r1, e1, g1⟩ := LS.expr r en q
  refine ⟨μ1, M1, τ, r1, e1, g1.mono (fun u H2 ⟨μ2, M2, v, s2, r2, e2, rv, g2⟩ => ?_) fun _ _ _ z => z⟩
  unfold denT at g2
  by_cases c : i < σ'.length
  case neg => rw [if_neg c] at g2; exact g2.elim
  rw [if_pos c] at g2
  exact g2 μ2 H2 _ .refl r2 (e2.set (.of rv))
theorem ok_l (o : OkE S w k n) (F : FactsX S X w k) (f : Fit k X tc W hx) (elt : Expr) (gens : List Comprehension) (s : Scope) (pos : Pos) : PE X (.ListComp elt gens s pos) (LE X w.fld hx W (denE w (trL S (n + 1) tc elt gens s))) ∧
    ∀ i y py spos, X.N[i]? = some y → X.env.scope.names.lookup y = some .local → swapsWith (.ListComp elt gens s pos) (some (.Name y py)) spos.line X.env = pure true →
      PS X (.Assign [.Name y py] (.ListComp elt gens s pos) spos) (LS X w.fld hx W (denS w (.asg (.nm i) (trL S (n + 1) tc elt gens s)))) := by
  unfold trL
  by_cases c : (!(tc.calm && L2.blkC tc.N tc.sc s (ownOf tc.N s))) = true
  · rw [if_pos c]; exact ⟨le_bad, fun _ _ _ _ _ _ _ => ls_setL_bad⟩
  rw [if_neg c]
  have c : (tc.calm && L2.blkC tc.N tc.sc s (ownOf tc.N s)) = true := by
    cases h : (tc.calm && L2.blkC tc.N tc.sc s (ownOf tc.N s)) with
    | true => rfl
    | false => rw [h] at c; exact absurd rfl c
  rw [Bool.and_eq_true_iff] at c
  obtain ⟨hc, hb⟩ := c
  have ok : BlkOk X.N X.env.scope s (ownOf tc.N s) := by
    rw [f.N, f.sc]
    exact blkOk_by hb
  obtain ⟨hcX, _, _, rfl⟩ := f.calm hc
  have fb : ∀ (s' : Shared) (H : Hp) (C : Addr) (cl : List (Str × Addr)) (fp : List Addr), Fit k (X.blk s' H s (compEnvC s cl C X.env) fp) (tc.blk s) W0 none := fun s' H C cl fp => f.blk hc ok.kind s' H C cl fp
  have FB : ∀ (s' : Shared) (H : Hp) (C : Addr) (cl : List (Str × Addr)) (fp : List Addr), FactsX S (X.blk s' H s (compEnvC s cl C X.env) fp) w k := fun _ _ _ _ _ => F
  match gens with
  | [] => exact ⟨le_bad, fun _ _ _ _ _ _ _ => ls_setL_bad⟩
  | ⟨_, _, _, _⟩ :: ⟨_, _, _, _⟩ :: _ :: _ => exact ⟨le_bad, fun _ _ _ _ _ _ _ => ls_setL_bad⟩
  | [⟨tg, it, ifs, as⟩] =>
    dsimp only
    cases eg : trG S n (tc.blk s) tg with
    | none => exact ⟨le_bad, fun _ _ _ _ _ _ _ => ls_setL_bad⟩
    | some t =>
      dsimp only
      by_cases c : as = 0 ∧ notSet it = true ∧ subB t.slots ((ownOf tc.N s).map (·.2)) = true
      case neg => rw [if_neg c]; exact ⟨le_bad, fun _ _ _ _ _ _ _ => ls_setL_bad⟩
      rw [if_pos c]
      obtain ⟨rfl, c2, c3⟩ := c
      have hsl := sub_of c3
      have hi := o.i F f tg it
      have hG := fun s' H C cl fp => o.g (FB s' H C cl fp) (fb s' H C cl fp) tg t eg
      have hT := fun s' H C cl fp => o.ifs (FB s' H C cl fp) (fb s' H C cl fp) ifs
      have hE := fun s' H C cl fp => o.e (FB s' H C cl fp) (fb s' H C cl fp) elt
      refine ⟨PE.weak (pe_lc hcX f.nd hi ok hG hT hE (fold_of c2 _)) fun σ H Q q => w_lc hsl q, fun i y py spos hy hyl hsw => ?_⟩
      exact PS.weak (ps_setLc hcX f.nd hy hyl hsw hi ok hG hT hE (fold_of c2 _)) fun D σ H q => w_lc hsl (w_asgL q)
  | [⟨tg, it, ifs, as⟩, ⟨tg', it', ifs', as'⟩] =>
    dsimp only
    cases eg : trG S n (tc.blk s) tg with
    | none => exact ⟨le_bad, fun _ _ _ _ _ _ _ => ls_setL_bad⟩
    | some t =>
      cases eg' : trG S n (tc.blk s) tg' with
      | none => exact ⟨le_bad, fun _ _ _ _ _ _ _ => ls_setL_bad⟩
      | some t' =>
        dsimp only
        by_cases c : as = 0 ∧ as' = 0 ∧ notSet it = true ∧ notSet it' = true ∧ subB t.slots ((ownOf tc.N s).map (·.2)) = true ∧ subB t'.slots ((ownOf tc.N s).map (·.2)) = true
        case neg => rw [if_neg c]; exact ⟨le_bad, fun _ _ _ _ _ _ _ => ls_setL_bad⟩
        rw [if_pos c]
        obtain ⟨rfl, rfl, c2, c2', c3, c3'⟩ := c
        have hsl := sub_of c3
        have hi := o.i F f tg it
        have hG := fun s' H C cl fp => o.g (FB s' H C cl fp) (fb s' H C cl fp) tg t eg
        have hT := fun s' H C cl fp => o.ifs (FB s' H C cl fp) (fb s' H C cl fp) ifs
        have hE := fun s' H C cl fp => o.e (FB s' H C cl fp) (fb s' H C cl fp) elt
        have hI1 := fun s' H C cl fp => o.i (FB s' H C cl fp) (fb s' H C cl fp) tg' it'
        have hG1 := fun s' H C cl fp => o.g (FB s' H C cl fp) (fb s' H C cl fp) tg' t' eg'
        have hT1 := fun s' H C cl fp => o.ifs (FB s' H C cl fp) (fb s' H C cl fp) ifs'
        refine ⟨PE.weak (pe_lc2 hcX f.nd hi ok (sub_of c3') hG hT hI1 hG1 hT1 hE (fold_of c2 _) (fold_of c2')) fun σ H Q q => w_lc2 hsl (fun _ h => h) q, fun i y py spos hy hyl hsw => ?_⟩
        exact PS.weak (ps_setLc2 hcX f.nd hy hyl hsw hi ok (sub_of c3') hG hT hI1 hG1 hT1 hE (fold_of c2 _) (fold_of c2')) fun D σ H q => w_lc2 hsl (fun _ h => h) (w_asgL q)
theorem okE : ∀ n, OkE S w k n
  | 0 => ok_zero
  | n + 1 =>
    let o := okE n
    { e := fun F f e => ok_e o F f e
      b := fun F f op es pos => ok_b o F f op es pos
      t := fun F f e => ok_t o F f e
      tb := fun F f op es pos => ok_tb o F f op es pos
      es := fun F f es h => ok_es o F f es h
      c := fun F f x args p pos => ok_c o F f x args p pos
      i := fun F f tg it => ok_i o F f tg it
      g := fun F f e t h => ok_g o F f e t h
      gs := fun F f es ts h => ok_gs o F f es ts h
      ifs := fun F f es => ok_ifs o F f es
      l := fun F f elt gens s pos => ok_l o F f elt gens s pos }
end
end Mini

set_option autoImplicit false
set_option linter.all false
set_option maxRecDepth 100000
/-! Mini18: the translator keeps the readings: statements. -/
namespace Mini
open PySem PySem.Spec L2
open PyProof.Rows hiding St
theorem noStar_no : ∀ {vs : List Expr}, noStar vs = true → (vs.any fun | .Starred .. => true | _ => false) = false
  | [], _ => rfl
  | a :: r, h => by
    have h1 := (noStar_cons h).1
    rw [List.any_cons, noStar_no h1, Bool.or_false]
    cases a <;> first | rfl | cases h
structure SwapB (ts vs : List Expr) : Prop where
  l : vs.length = ts.length
  s : noStar vs = true
  ln : (ts.all fun t => lineOf t == (ts.head?.map lineOf).getD 0) = true
  f : vs.all (foldedForSure 8) = false
  c : vs.all (constantsAlone 8) = false
theorem swapB_of {ts vs : List Expr} {tc : TC} (h : swapB ts vs tc = true) : SwapB ts vs ∧ (ts.length = 2 ∨ ts.length = 3) := by
  unfold swapB at h
  simp only [Bool.and_eq_true, Bool.or_eq_true, beq_iff_eq, Bool.not_eq_true'] at h
  obtain ⟨⟨⟨⟨⟨h1, h2⟩, h3⟩, h4⟩, h5⟩, h6⟩ := h
  exact ⟨⟨h2, h3, h4, h5, h6⟩, h1⟩
theorem kind_local {env : PySem.Env} {x : Str} (h : env.scope.names.lookup x = some .local) : (env.kindOf x == some NameKind.local) = true := by
  unfold Env.kindOf
  rw [h]; rfl
theorem swap2 {env : PySem.Env} {x y : Str} {px py pt pt2 : Pos} {kt k2 : Nat} {vs : List Expr} (hk : env.scope.kind = .function) (hx : env.scope.names.lookup x = some .local) (hy : env.scope.names.lookup y = some .local) (h : SwapB [.Name x px, .Name y py] vs) (hd : ([x, y] : List Str).eraseDups.length = 2) :
    swappedStores [.Tuple [.Name x px, .Name y py] kt pt] (.Tuple vs k2 pt2) env = pure (some [x, y]) := by
  have hb : env.blockKind = .function := by unfold Env.blockKind; rw [hk]; rfl
  have l1 := h.ln
  simp only [List.all_cons, List.all_nil, Bool.and_true, List.head?_cons, Option.map_some, Option.getD_some, lineOf, Expr.pos, Bool.and_eq_true, beq_iff_eq] at l1
  have e1 : vs.length = 2 := h.l
  unfold swappedStores
  simp only [List.length_cons, List.length_nil, e1, hb, noStar_no h.s, h.f, h.c, List.head?_cons, Option.map_some, Option.getD_some, Expr.pos, List.filterMap_cons, List.filterMap_nil, kind_local hx, kind_local hy, l1.2, beq_self_eq_true, Bool.and_self, if_true, hd]
  refine (if_neg (by decide)).trans ((if_neg fun z => ?_).trans rfl)
  exact absurd ((noStar_no h.s).symm.trans z) Bool.false_ne_true
theorem swap3 {env : PySem.Env} {x y z : Str} {px py pz pt pt2 : Pos} {kt k2 : Nat} {vs : List Expr} (hk : env.scope.kind = .function) (hx : env.scope.names.lookup x = some .local) (hy : env.scope.names.lookup y = some .local) (hz : env.scope.names.lookup z = some .local)
    (h : SwapB [.Name x px, .Name y py, .Name z pz] vs) (hd : ([x, y, z] : List Str).eraseDups.length = 3) :
    swappedStores [.Tuple [.Name x px, .Name y py, .Name z pz] kt pt] (.Tuple vs k2 pt2) env = pure (some [x, y, z]) := by
  have hb : env.blockKind = .function := by unfold Env.blockKind; rw [hk]; rfl
  have l1 := h.ln
  simp only [List.all_cons, List.all_nil, Bool.and_true, List.head?_cons, Option.map_some, Option.getD_some, lineOf, Expr.pos, Bool.and_eq_true, beq_iff_eq] at l1
  have e1 : vs.length = 3 := h.l
  unfold swappedStores
  simp only [List.length_cons, List.length_nil, e1, hb, noStar_no h.s, h.f, h.c, List.head?_cons, Option.map_some, Option.getD_some, Expr.pos, List.filterMap_cons, List.filterMap_nil, kind_local hx, kind_local hy, kind_local hz, l1.2.1, l1.2.2, beq_self_eq_true, Bool.and_self, if_true, hd]
  refine (if_neg (by decide)).trans ((if_neg fun z => ?_).trans rfl)
  exact absurd ((noStar_no h.s).symm.trans z) Bool.false_ne_true
theorem parOf_cons {tc : TC} {a : Expr} {r : List Expr} {is : List Nat} (h : parOf tc (a :: r) = some is) : ∃ x p i js, a = .Name x p ∧ tc.sc.names.lookup x = some .local ∧ idxOf x tc.N = some i ∧ parOf tc r = some js ∧ is = i :: js := by
  cases a with
  | Name x p =>
    unfold parOf at h
    by_cases c : decide (tc.sc.names.lookup x = some .local) = true
    case neg => rw [if_neg c] at h; cases h
    rw [if_pos c] at h
    cases e1 : idxOf x tc.N with
    | none => rw [e1] at h; cases h
    | some i =>
      cases e2 : parOf tc r with
      | none => rw [e1, e2] at h; cases h
      | some js =>
        rw [e1, e2] at h
        cases h
        exact ⟨x, p, i, js, rfl, of_decide_eq_true c, e1, rfl, rfl⟩
  | _ => cases h
theorem parOf_nil {tc : TC} {is : List Nat} (h : parOf tc [] = some is) : is = [] := by cases h; rfl

structure OkS (S : Sig) (w : Wld) (k n : Nat) : Prop where
  s : ∀ {X : Cx} {tc : TC} {W : WX} {hx : Hx}, FactsX S X w k → Fit k X tc W hx → ∀ s, PS X s (LS X w.fld hx W (denS w (trS S n tc s)))
  ss : ∀ {X : Cx} {tc : TC} {W : WX} {hx : Hx}, FactsX S X w k → Fit k X tc W hx → ∀ ss, PSs X ss (LS X w.fld hx W (denSs w (trSs S n tc ss)))
section
variable {S : Sig} {w : Wld} {k n : Nat} {X : Cx} {tc : TC} {W : WX} {hx : Hx}
theorem oks_zero : OkS S w k 0 where
  s := fun _ _ s => ls_bad
  ss := fun _ _ ss => lss_bad
theorem ok_par (F : FactsX S X w k) (f : Fit k X tc W hx) (ts vs : List Expr) (kt : Nat) (pt : Pos) (k2 : Nat) (pt2 pos : Pos) (is : List Nat) (hp : parOf tc ts = some is) (hc : tc.calm = true) (hs : swapB ts vs tc = true) (hn : is.Nodup) (hd : (ts.map nameOf).eraseDups.length = ts.length) :
    PS X (.Assign [.Tuple ts kt pt] (.Tuple vs k2 pt2) pos) (LS X w.fld hx W (denS w (.par is (trEs S n tc vs)))) := by
  obtain ⟨sb, hl⟩ := swapB_of hs
  have o := okE (S := S) (w := w) (k := k) n
  match ts, hl with
  | [], hl => rcases hl with hl | hl <;> cases hl
  | [_], hl => rcases hl with hl | hl <;> cases hl
  | _ :: _ :: _ :: _ :: _, hl => rcases hl with hl | hl <;> simp at hl
  | [a, b], _ =>
    obtain ⟨x, px, i, js, rfl, x1, x2, hp1, rfl⟩ := parOf_cons hp
    obtain ⟨y, py, j, ks, rfl, y1, y2, hp2, rfl⟩ := parOf_cons hp1
    have hp3 := parOf_nil hp2
    subst hp3
    rw [← f.sc] at x1 y1
    match vs, sb with
    | [c, d], sb =>
      have hij : i ≠ j := fun e => by rw [e] at hn; simp at hn
      exact ls_par (f.calm hc).1 f.nd (f.idx x2) (f.idx y2) hij x1 y1 (o.es F f _ sb.s) (swap2 f.kd x1 y1 sb hd) rfl
    | [], sb => cases sb.l
    | [_], sb => cases sb.l
    | _ :: _ :: _ :: _, sb => have z := sb.l; simp at z
  | [a, b, c], _ =>
    obtain ⟨x, px, i, js, rfl, x1, x2, hp1, rfl⟩ := parOf_cons hp
    obtain ⟨y, py, j, ks, rfl, y1, y2, hp2, rfl⟩ := parOf_cons hp1
    obtain ⟨z, pz, l, ls, rfl, z1, z2, hp3, rfl⟩ := parOf_cons hp2
    have hp4 := parOf_nil hp3
    subst hp4
    rw [← f.sc] at x1 y1 z1
    match vs, sb with
    | [c, d, e], sb =>
      simp only [List.nodup_cons, List.mem_cons, List.not_mem_nil, or_false, not_or, not_false_eq_true, List.nodup_nil, and_true] at hn
      obtain ⟨⟨h1, h2⟩, h3⟩ := hn
      exact ls_par3 (f.calm hc).1 f.nd (f.idx x2) (f.idx y2) (f.idx z2) h1 h2 h3 x1 y1 z1 (o.es F f _ sb.s) (swap3 f.kd x1 y1 z1 sb hd) rfl
    | [], sb => cases sb.l
    | [_], sb => cases sb.l
    | [_, _], sb => cases sb.l
    | _ :: _ :: _ :: _ :: _, sb => have z := sb.l; simp at z
theorem ok_name_asg (F : FactsX S X w k) (f : Fit k X tc W hx) (x : Str) (px : Pos) (v : Expr) (pos : Pos) : PS X (.Assign [.Name x px] v pos) (LS X w.fld hx W (denS w (trS S (n + 1) tc (.Assign [.Name x px] v pos)))) := by
  have o := okE (S := S) (w := w) (k := k) n
  unfold trS
  dsimp only
  by_cases c : locB tc x = true
  case neg => rw [if_neg c]; exact ls_bad
  rw [if_pos c]
  obtain ⟨l1, l2⟩ := f.loc c
  cases e : idxOf x tc.N with
  | none => exact ls_bad
  | some i =>
    have hi := f.idx e
    cases v with
    | ListComp elt gens s p =>
      dsimp only
      obtain ⟨h1, h2⟩ := o.l F f elt gens s p
      cases hsw : swB tc (.ListComp elt gens s p) x px with
      | true =>
        refine h2 i x px pos hi ?_ ?_
        · unfold swB at hsw
          rw [Bool.and_eq_true_iff, Bool.and_eq_true_iff] at hsw
          rw [f.sc]
          exact of_decide_eq_true hsw.1.1
        · exact (sw_name f.sc f.kd).trans (congrArg pure hsw)
      | false =>
        exact ls_set f.nd hi l1 h1 ((sw_name f.sc f.kd).trans (congrArg pure hsw)) l2
    | SetComp _ _ _ _ => exact ls_bad
    | DictComp _ _ _ _ _ => exact ls_bad
    | _ => exact ls_set f.nd hi l1 (o.e F f _) (sw_none rfl _ _ _) l2
theorem stores_none {t v : Expr} {env : PySem.Env} (h : notTuple v = true) : swappedStores [t] v env = pure none := by
  cases v <;> first | exact absurd h Bool.false_ne_true | (cases t <;> rfl)
theorem stores_sub {a i v : Expr} {p : Pos} {env : PySem.Env} : swappedStores [.Subscript a i p] v env = pure none := by
  cases v <;> rfl
theorem ok_asg (F : FactsX S X w k) (f : Fit k X tc W hx) (ts : List Expr) (v : Expr) (pos : Pos) : PS X (.Assign ts v pos) (LS X w.fld hx W (denS w (trS S (n + 1) tc (.Assign ts v pos)))) := by
  have o := okE (S := S) (w := w) (k := k) n
  match ts with
  | [] => exact ls_bad
  | a :: _ :: _ => cases a <;> first | exact ls_bad | (cases v <;> exact ls_bad)
  | [t] =>
    cases t with
    | Name x px => exact ok_name_asg F f x px v pos
    | Tuple es kt pt =>
      have gen : notTuple v = true → PS X (.Assign [.Tuple es kt pt] v pos) (LS X w.fld hx W (denS w (match trG S n tc (.Tuple es kt pt) with
          | some t => if notComp v = true ∧ notTuple v = true then .asg t (trE S n tc v) else .expr .bad
          | none => .expr .bad))) := fun hv => by
        cases e : trG S n tc (.Tuple es kt pt) with
        | none => exact ls_bad
        | some t =>
          dsimp only
          by_cases c : notComp v = true ∧ notTuple v = true
          case neg => rw [if_neg c]; exact ls_bad
          rw [if_pos c]
          exact ls_asg (o.e F f v) (o.g F f _ t e) (sole_of c.1 _ _) (stores_none c.2) rfl
      cases v with
      | Tuple vs k2 pt2 =>
        unfold trS
        dsimp only
        cases e : parOf tc es with
        | none => exact ls_bad
        | some is =>
          dsimp only
          by_cases c : tc.calm = true ∧ swapB es vs tc = true ∧ is.Nodup ∧ (es.map nameOf).eraseDups.length = es.length
          case neg => rw [if_neg c]; exact ls_bad
          rw [if_pos c]
          exact ok_par F f es vs kt pt k2 pt2 pos is e c.1 c.2.1 c.2.2.1 c.2.2.2
      | _ => exact gen rfl
    | Subscript a i p =>
      unfold trS
      dsimp only
      cases e : trG S n tc (.Subscript a i p) with
      | none => exact ls_bad
      | some t =>
        dsimp only
        by_cases c : notComp v = true
        case neg => rw [if_neg c]; exact ls_bad
        rw [if_pos c]
        exact ls_asg (o.e F f v) (o.g F f _ t e) (sole_of c _ _) stores_sub rfl
    | Attribute a g p =>
      unfold trS
      dsimp only
      cases e : S.attrs.lookup g with
      | none => exact ls_bad
      | some cs =>
        dsimp only
        by_cases c : notComp v = true
        case neg => rw [if_neg c]; exact ls_bad
        rw [if_pos c]
        exact ls_fld (o.e F f a) (o.e F f v) (F.attrs g cs e) (sw_none c _ _ _)
    | _ => exact ls_bad
theorem ok_try (os : OkS S w k n) (F : FactsX S X w k) (f : Fit k X tc W hx) (b : List Stmt) (hs : List ExceptHandler) (oe fb : List Stmt) (pos : Pos) : PS X (.Try b hs oe fb pos) (LS X w.fld hx W (denS w (trS S (n + 1) tc (.Try b hs oe fb pos)))) := by
  have bad : ∀ st, PS X st (LS X w.fld hx W (denS w (.expr .bad))) := fun st => ls_bad
  match hs with
  | [] => cases oe <;> cases fb <;> exact bad _
  | .ExceptHandler ty nm body hp :: _ :: _ =>
    cases ty with
    | none => cases nm <;> cases body <;> cases oe <;> cases fb <;> exact bad _
    | some t => cases t <;> cases nm <;> cases body <;> cases oe <;> cases fb <;> exact bad _
  | [.ExceptHandler ty nm body hp] =>
    cases oe with
    | cons _ _ =>
      cases ty with
      | none => cases nm <;> exact bad _
      | some ty => cases ty <;> cases nm <;> cases body <;> exact bad _
    | nil =>
      cases fb with
      | cons _ _ =>
        cases ty with
        | none => cases nm <;> exact bad _
        | some ty => cases ty <;> cases nm <;> cases body <;> exact bad _
      | nil =>
        cases ty with
        | none => cases nm <;> exact bad _
        | some ty =>
          cases ty with
          | Name x np =>
            cases body with
            | nil => cases nm <;> exact bad _
            | cons h₀ h =>
              cases nm with
              | none =>
                unfold trS
                dsimp only
                by_cases c : tc.calm = true ∧ tc.top = true ∧ glB tc x = true ∧ x ∈ S.exall
                case neg => rw [if_neg c]; exact bad _
                rw [if_pos c]
                obtain ⟨c1, c2, c3, c4⟩ := c
                obtain ⟨_, _, tk, rfl⟩ := f.calm c1
                obtain ⟨t1, t2, _⟩ := f.top c2
                obtain ⟨g1, g2⟩ := gl_of f.sc c3
                obtain ⟨C, gC, hd⟩ := F.exall x c4
                refine ls_try0 t1 t2 gC g1 g2 tk (fun d hd' D gD => (hd d hd' D gD).1) (fun W' pn xe tk' hp' => ?_) fun a oe cls d pn hz hv => ?_
                · have z := os.ss (X := X.tr pn xe) F (f.tr c1 c2 tk' hp') b
                  exact os.ss (X := X.tr pn xe) (tc := tc) F ⟨f.N, f.nd, f.sc, f.kd, f.fn, (f.tr c1 c2 tk' hp').calm, (f.tr c1 c2 tk' hp').top, f.un, fun i hi => by
                    obtain ⟨_, _, _, _, _, _, _, z, _⟩ := f.hot i hi
                    cases z⟩ b
                · exact os.ss (X := X.suite a ((a, oe) :: pn)) F f.suite0 (h₀ :: h)
              | some y =>
                unfold trS
                dsimp only
                cases e : idxOf y tc.N with
                | none => exact bad _
                | some i =>
                  dsimp only
                  by_cases c : tc.calm = true ∧ tc.top = true ∧ glB tc x = true ∧ x ∈ S.exall ∧ tc.sc.names.lookup y = some .local
                  case neg => rw [if_neg c]; exact bad _
                  rw [if_pos c]
                  obtain ⟨c1, c2, c3, c4, c5⟩ := c
                  obtain ⟨_, _, tk, rfl⟩ := f.calm c1
                  obtain ⟨t1, t2, _⟩ := f.top c2
                  obtain ⟨g1, g2⟩ := gl_of f.sc c3
                  obtain ⟨C, gC, hd⟩ := F.exall x c4
                  have hl : X.env.kindOf y = some .local := by
                    unfold Env.kindOf
                    rw [f.sc]; exact c5
                  refine ls_try t1 t2 f.nd (f.idx e) hl gC g1 g2 tk (fun d hd' D gD => (hd d hd' D gD).1) (fun W' pn xe tk' hp' => ?_) fun a oe cls d pn hz hv => ?_
                  · exact os.ss (X := X.tr pn xe) (tc := tc) F ⟨f.N, f.nd, f.sc, f.kd, f.fn, (f.tr c1 c2 tk' hp').calm, (f.tr c1 c2 tk' hp').top, f.un, fun i hi => by
                      obtain ⟨_, _, _, _, _, _, _, z, _⟩ := f.hot i hi
                      cases z⟩ b
                  · exact os.ss (X := X.suite a ((a, oe) :: pn)) F (f.suite hz hv) (h₀ :: h)
          | _ => cases nm <;> cases body <;> exact bad _
theorem ok_raise (F : FactsX S X w k) (f : Fit k X tc W hx) (e c : Option Expr) (pos : Pos) : PS X (.Raise e c pos) (LS X w.fld hx W (denS w (trS S (n + 1) tc (.Raise e c pos)))) := by
  have bad : ∀ st, PS X st (LS X w.fld hx W (denS w (.expr .bad))) := fun st => ls_bad
  cases e with
  | none => cases c <;> exact bad _
  | some e =>
    cases e with
    | Call g args kws p2 =>
      cases g with
      | Name x p =>
        cases args with
        | cons _ _ => cases kws <;> cases c <;> exact bad _
        | nil =>
          cases kws with
          | cons _ _ => cases c <;> exact bad _
          | nil =>
            cases c with
            | some _ => exact bad _
            | none =>
              unfold trS
              dsimp only
              by_cases c : tc.calm = true ∧ glB tc x = true ∧ x ∈ S.excs
              case neg => rw [if_neg c]; exact bad _
              rw [if_pos c]
              obtain ⟨c1, c2, c3⟩ := c
              obtain ⟨h1, _, tk, _⟩ := f.calm c1
              obtain ⟨g1, g2⟩ := gl_of f.sc c2
              obtain ⟨C, gC, eo, fl⟩ := F.excs x c3
              exact ls_raise h1 tk eo gC g1 g2 fl
      | _ => cases args <;> cases kws <;> cases c <;> exact bad _
    | _ => cases c <;> exact bad _
theorem ok_s (os : OkS S w k n) (F : FactsX S X w k) (f : Fit k X tc W hx) (s : Stmt) : PS X s (LS X w.fld hx W (denS w (trS S (n + 1) tc s))) := by
  have o := okE (S := S) (w := w) (k := k) n
  cases s with
  | Pass p => exact ls_pass
  | Break p => exact ls_break
  | Continue p => exact ls_cont
  | Expr e p =>
    have gen : notComp e = true → PS X (.Expr e p) (LS X w.fld hx W (denS w (.expr (trE S n tc e)))) := fun h => ls_expr (o.e F f e) (sw_none h _ _ _)
    cases e with
    | Constant c j p2 =>
      cases c with
      | str z => exact ls_doc
      | _ => exact gen rfl
    | ListComp _ _ _ _ => exact ls_bad
    | SetComp _ _ _ _ => exact ls_bad
    | DictComp _ _ _ _ _ => exact ls_bad
    | _ => exact gen rfl
  | Return e p =>
    cases e with
    | none => exact ls_retN
    | some e => exact ls_ret (o.e F f e)
  | If c a b p => exact ls_if (o.t F f c) (os.ss F f a) (os.ss F f b)
  | For tg it b orelse p =>
    cases orelse with
    | cons _ _ => exact ls_bad
    | nil =>
      unfold trS
      dsimp only
      cases e : trG S n tc tg with
      | none => exact ls_bad
      | some t =>
        dsimp only
        by_cases c : tc.calm = true ∧ tc.top = true ∧ notSet it = true
        case neg => rw [if_neg c]; exact ls_bad
        rw [if_pos c]
        exact ls_for (f.top c.2.1).2.2 (f.calm c.1).1 (o.i F f tg it) (o.g F f tg t e) (os.ss F f b) (fold_of c.2.2 _)
  | While c b orelse p =>
    cases orelse with
    | cons _ _ => exact ls_bad
    | nil =>
      unfold trS
      dsimp only
      by_cases h : tc.top = true
      case neg => rw [if_neg h]; exact ls_bad
      rw [if_pos h]
      exact ls_whl (f.top h).2.2 (o.t F f c) (os.ss F f b)
  | Assign ts v p => exact ok_asg F f ts v p
  | Raise e c p => exact ok_raise F f e c p
  | Try b hs oe fb p => exact ok_try os F f b hs oe fb p
  | _ => exact ls_bad
theorem okS : ∀ n, OkS S w k n
  | 0 => oks_zero
  | n + 1 =>
    let os := okS n
    { s := fun F f s => ok_s os F f s
      ss := fun F f ss => by
        cases ss with
        | nil => exact lss_nil
        | cons s r => exact lss_cons (os.s F f s) (os.ss F f r) }
end
end Mini

set_option autoImplicit false
set_option linter.all false
set_option maxRecDepth 100000
/-! Mini19: every def keeps the promise that it computes what our code computes. -/
namespace Mini
open PySem PySem.Spec L2
open PyProof.Rows hiding St
theorem zip_look {ps : List Str} {us : List Value} (hl : us.length = ps.length) (hn : ps.Nodup) : ∀ i (h : i < ps.length), (ps.zip us).lookup ps[i] = some (us[i]'(by omega)) := by
  induction ps generalizing us with
  | nil => intro i h; exact absurd h (Nat.not_lt_zero _)
  | cons p ps ih =>
    cases us with
    | nil => cases hl
    | cons u us =>
      intro i h
      rw [List.zip_cons_cons, List.lookup_cons]
      rw [List.nodup_cons] at hn
      cases i with
      | zero => simp
      | succ i =>
        have hi : i < ps.length := by simpa using h
        have hne : ((p :: ps)[i + 1] == p) = false := by
          rw [List.getElem_cons_succ]
          exact beq_eq_false_iff_ne.mpr fun e => hn.1 (e ▸ List.getElem_mem hi)
        rw [hne]
        exact ih (by simpa using hl) hn.2 i hi
theorem zip_all {ps : List Str} {us : List Value} (hl : us.length = ps.length) (hn : ps.Nodup) : ps.filterMap (fun n => ((ps.zip us).lookup n).map (n, ·)) = ps.zip us := by
  have key : ∀ (qs : List Str) (ws : List Value), qs.length = ws.length → (∀ i (h : i < qs.length) (h' : i < ws.length), (ps.zip us).lookup qs[i] = some ws[i]) → qs.filterMap (fun n => ((ps.zip us).lookup n).map (n, ·)) = qs.zip ws := by
    intro qs
    induction qs with
    | nil => intro ws _ _; rfl
    | cons q qs ih =>
      intro ws hw h
      cases ws with
      | nil => cases hw
      | cons x ws =>
        have h0 := h 0 (Nat.succ_pos _) (Nat.succ_pos _)
        have h0 : (ps.zip us).lookup q = some x := h0
        rw [List.filterMap_cons, h0, List.zip_cons_cons]
        show (q, x) :: _ = _
        rw [ih ws (by simpa using hw) fun i a b => h (i + 1) (by simpa using a) (by simpa using b)]
  exact key ps us hl.symm fun i a b => zip_look hl hn i a
theorem zip_none {ps : List Str} {us : List Value} (hl : us.length = ps.length) (hn : ps.Nodup) : (ps.filter fun n => ((ps.zip us).lookup n).isNone) = [] := by
  rw [List.filter_eq_nil_iff]
  intro a ha
  obtain ⟨i, h, e⟩ := List.getElem_of_mem ha
  rw [← e, zip_look hl hn i h]
  simp
theorem bind_plain {x qual : Str} {args : List Arg} {body : List Stmt} {scope : Scope} {kV doc pm : Value} {an : Option Addr} {cdv ct : Value} (us : List Value) (hl : us.length = (args.map (·.arg)).length) (hn : (args.map (·.arg)).Nodup) :
    bindArgs (PySem.W.fnOf x qual ⟨[], args, none, [], [], none, []⟩ body scope .none kV doc pm an cdv ct) ⟨us, []⟩ = pure ((args.map (·.arg)).zip us) := by
  generalize hps : args.map (·.arg) = ps at hl hn
  have hz : seqItems? Value.none = pure none := rfl
  have e1 : ¬ (us.length > ps.length) := by omega
  have e2 : ps.take (ps.length - 0) = ps := by simp
  unfold bindArgs PySem.W.fnOf
  simp only [hps, hz, List.map_nil, List.nil_append, List.append_nil, List.forIn_nil, pure_bind, Option.getD_none, Option.isNone_none, e1, decide_false, Bool.false_and, Bool.false_eq_true, if_false, List.drop_nil, List.length_nil, e2, zip_none hl hn, List.zip_nil_right, List.isEmpty_nil, Bool.not_true, zip_all hl hn]

/-- a def of the text -/
structure DefM where
  key : Str
  d : He.FnD
  N : List Str
def DefM.ps (m : DefM) : List Str := m.d.params.args.map (·.arg)
/-- what is asked of a def's text -/
def DefM.ok (m : DefM) : Bool :=
  m.d.params.posonlyargs.isEmpty && m.d.params.vararg.isNone && m.d.params.kwonlyargs.isEmpty && m.d.params.kw_defaults.isEmpty && m.d.params.kwarg.isNone && m.d.params.defaults.isEmpty &&
  decide (m.ps.Nodup) && decide (m.d.scope.kind = .function) && !m.d.scope.isCoroutine && !m.d.scope.isGenerator && decide (m.N.Nodup) && decide (m.N.take m.ps.length = m.ps) &&
  (m.ps.all fun x => decide (m.d.scope.names.lookup x = some .local) || decide (m.d.scope.names.lookup x = some .cell)) && m.d.scope.names.all fun y => decide (y.2 ≠ .free)
structure DefM.Ok (m : DefM) : Prop where
  par : m.d.params = ⟨[], m.d.params.args, none, [], [], none, []⟩
  nd : m.ps.Nodup
  sc : FnScope m.N m.ps m.d.scope
theorem DefM.ok_of {m : DefM} (h : m.ok = true) : m.Ok := by
  unfold DefM.ok at h
  simp only [Bool.and_eq_true, List.isEmpty_iff, Option.isNone_iff_eq_none, decide_eq_true_eq, Bool.not_eq_true', List.all_eq_true, Bool.or_eq_true] at h
  obtain ⟨⟨⟨⟨⟨⟨⟨⟨⟨⟨⟨⟨⟨p1, p2⟩, p3⟩, p4⟩, p5⟩, p6⟩, nd⟩, k1⟩, k2⟩, k3⟩, k4⟩, k5⟩, k6⟩, k7⟩ := h
  refine ⟨?_, nd, ⟨k1, k2, k3, k4, k5, k6, k7⟩⟩
  cases hp : m.d.params with
  | mk a b c d e f g =>
    rw [hp] at p1 p2 p3 p4 p5 p6
    dsimp only at p1 p2 p3 p4 p5 p6 ⊢
    subst p1 p2 p3 p4 p5 p6
    rfl
def Prog.wld (P : Prog) (d : Nat) : Wld := ⟨P.call d, P.glo, P.fld⟩
def lev (d : Nat) : Nat := 2 * d + 2
abbrev FunM (K : PySem.W.Frag) (m : DefM) (fd : FuncData) : Prop := FunD K m.d.name m.d.qual m.d.params m.d.body m.d.scope [] [] (He.fAd K m.d.at_) fd
section
variable {S : Sig} {Pg : Prog} {fuel : Nat} {P : Program} {wd : World} {K : PySem.W.Frag} {mg : Str → Option Value} {base : Heap}
theorem FunM.binds {m : DefM} {fd : FuncData} (F : FunM K m fd) (o : m.Ok) : Binds K fd m.ps [] := FunD.bindsN F fun kV doc pm an cdv ct us hl => by
  rw [o.par]
  exact bind_plain us hl o.nd
theorem reps_start {μ : Mu} {H : Hp} {M : Store} {N : List Str} {vs : List V} {as : List PV} {d : Def} (r : Reps K μ H M.length vs as) (hn : d.n = N.length) : EnvR K mg Pg.fld none μ H M (L2.start N vs) (startE d as) := by
  have hl := r.length
  refine ⟨?_, fun i v e => ?_⟩
  · unfold L2.start startE
    rw [List.length_append, List.length_append, List.length_map, List.length_map, List.length_replicate, List.length_replicate, hl, hn]
  · unfold startE at e
    unfold L2.start
    by_cases h : i < as.length
    · rw [List.getElem?_append_left (by rw [List.length_map]; exact h), List.getElem?_map] at e
      rw [List.getElem?_append_left (by rw [List.length_map, hl]; exact h), List.getElem?_map]
      cases q : as[i]? with
      | none => rw [q] at e; cases e
      | some x =>
        rw [q] at e
        cases e
        obtain ⟨u, q2, ru⟩ := r.get q
        rw [q2]
        exact ⟨u, rfl, .of ru⟩
    · rw [List.getElem?_append_right (by rw [List.length_map]; exact Nat.le_of_not_lt h), List.getElem?_replicate] at e
      by_cases z : i - (as.map some).length < d.n - as.length
      · rw [if_pos z] at e; cases e
      · rw [if_neg z] at e; cases e
theorem good_out {X : Cx} {Q : VK} {E : XK} {μ : Mu} {H : Hp} {M : Store} {o : SOut} {fld : Str → Option Str} {hx : Hx} (g : Good X.K X.mg fld (RV X.K) μ H M E Q o.out) : GoodS X fld hx μ H M (fun cls d _ H => E cls d H) { nx := fun _ H' => Q .non H', rt := Q } o := by
  cases o with
  | nx σ M' => exact fun μ' H' σ s r _ => g μ' H' .non s r .non
  | rt v M' => exact fun μ' H' u s r q => g μ' H' u s r q
  | bk σ M' => exact g.elim
  | ct σ M' => exact g.elim
  | exc c fs σ M' => exact fun μ' H' cls d σ s r _ q => g μ' H' cls d s r q
  | fail => exact g
theorem fn_zero {m : DefM} {f : Addr} {fd : FuncData} {k : Nat} : FnOk P wd K mg base (L2.CX P wd) k f fd m.ps (SpF K mg Pg.fld m.ps.length (Pg.call 0 m.key)) :=
  ⟨fun vs H Q E ⟨_, _, _, _, _, _, g⟩ => g.elim, fun _ _ _ _ _ _ _ _ _ _ _ _ _ ⟨_, _, _, _, _, _, g⟩ => g.elim⟩
theorem fn_succ {d : Nat} {m : DefM} {fd : FuncData} (o : m.Ok) (hP : Pg.fn m.key = some (trDef S fuel m.N m.d.scope m.ps.length m.d.body)) (F : FunM K m fd) (fx : Facts S P wd K mg base (Pg.wld d) (lev d)) :
    FnOk P wd K mg base (L2.CX P wd) (lev (d + 1)) (He.fAd K m.d.at_) fd m.ps (SpF K mg Pg.fld m.ps.length (Pg.call (d + 1) m.key)) := by
  have hlen : ∀ vs H Q E, SpF K mg Pg.fld m.ps.length (Pg.call (d + 1) m.key) vs H Q E → vs.length = m.ps.length := fun vs H Q E ⟨_, _, as, _, r, l, _⟩ => r.length.trans l
  refine FunD.ok (k := lev d + 1) F o.sc hlen fun cdv A outer s H vs Q E hr ⟨μ, M, as, r, rs, l, g⟩ => ?_
  generalize hX : cxOf (L2.CX P wd) P wd K mg base m.N m.d.qual m.d.scope (He.fAd K m.d.at_) cdv A outer s H E = X
  have fit : Fit (lev d) X ⟨m.N, m.d.scope, none, true, true, none⟩ (fun cls d _ H => E cls d H) none := by
    subst hX
    refine ⟨rfl, o.sc.nd, rfl, o.sc.kind, fun _ _ => rfl, fun _ => ⟨rfl, hr, takes_of rfl rfl rfl rfl, rfl⟩, fun _ => ⟨rfl, rfl, passes_of rfl⟩, ?_, fun i h => by cases h⟩
    have z := hr.un
    show (A.deeper _).units + 65 < cLine
    omega
  have fxX : FactsX S X (Pg.wld d) (lev d) := by subst hX; exact fx
  refine ⟨_, (okS fuel).ss fxX fit m.d.body, μ, M, startE (trDef S fuel m.N m.d.scope m.ps.length m.d.body) as, ?_, ?_, ?_⟩
  · subst hX; exact r
  · subst hX
    exact reps_start (K := K) (mg := mg) (Pg := Pg) rs rfl
  · have g : Good K mg Pg.fld (RV K) μ H M E Q (Pg.call (d + 1) m.key as M) := g
    unfold Prog.call at g
    rw [hP] at g
    dsimp only at g
    rw [if_pos (show as.length = (trDef S fuel m.N m.d.scope m.ps.length m.d.body).ps from l)] at g
    have e : Pg.wld d = ⟨Pg.call d, Pg.glo, Pg.fld⟩ := rfl
    rw [e]
    subst hX
    exact good_out g
end
end Mini

set_option autoImplicit false
set_option linter.all false
set_option maxRecDepth 100000
/-! Mini20: the facts, off the heap behind the top; the end. -/
namespace Mini
open PySem PySem.Spec L2
open PyProof.Rows hiding St

/-- a type's value, off the fragment -/
def tvK (K : PySem.W.Frag) : Ty → Value
  | .int => .type "int" | .bool => .type "bool" | .str => .type "str" | .tuple => .type "tuple" | .list => .type "list" | .dict => .type "dict" | .cls c => .ref (He.ga K c)
def ownB (K : PySem.W.Frag) (C : Addr) : Bool :=
  He.eqO (PySem.W.findIn K (.ref C) "__class__") (some (some (.builtin "object.__class__"))) && decide (PySem.W.specialIn K (.builtin "object.__class__") "__get__" = some (some (.builtin "getset_descriptor.__get__"))) &&
    decide (PySem.W.takesIn K (.builtin "object.__class__") = some true) && decide (PySem.W.mroIn K C (.type "object") = some true)
def excB (K : PySem.W.Frag) (D : Addr) : Bool :=
  He.eqO (PySem.W.findIn K (.ref D) "__getattribute__") (some (some (.builtin "BaseException.__getattribute__"))) && He.eqO (PySem.W.findIn K (.ref D) "__getattr__") (some none) && decide (PySem.W.subIn K (.ref D) (.type "BaseException") = some true) && PySem.W.hasDictIn K D && ownB K D
def allTy (S : Sig) : List Ty := [.int, .bool, .str, .tuple, .list, .dict] ++ S.clss.map fun p => .cls p.1
def noList (K : PySem.W.Frag) : Bool := K.all fun p => decide (p.2.cls ≠ .type "list")
def chk (S : Sig) (K : PySem.W.Frag) : Bool :=
  noList K &&
  (S.fns.all fun p => (He.Fa.glo p.1).ok K && (He.Fa.keep p.1).ok K) &&
  (S.clss.all fun p => (He.Fa.glo p.1).ok K && (He.Fa.cls p.1).ok K && (He.Fa.mkr p.1).ok K && ownB K (He.ga K p.1)) &&
  (S.attrs.all fun p => p.2.all fun c => (He.Fa.glo c).ok K && (He.Fa.cls c).ok K && (He.Fa.noat c p.1).ok K) &&
  ((allTy S).all fun t => (tyNames.all fun n => decide (PySem.W.kitOne K (.type n) (tvK K t) = some (tyTab n t))) && S.clss.all fun d => decide (PySem.W.kitOne K (.ref (He.ga K d.1)) (tvK K t) = some (decide (t = .cls d.1)))) &&
  (S.gis.all fun p => match p.2 with
    | .int i => (He.Fa.int p.1 i).ok K
    | .str z => (He.Fa.str p.1 z).ok K
    | _ => false) &&
  (S.free.all fun x => (He.Fa.free x).ok K) &&
  (S.excs.all fun x => (He.Fa.glo x).ok K && (He.Fa.exc x).ok K) &&
  (S.exall.all fun x => (He.Fa.glo x).ok K && excB K (He.ga K x) && S.exall.all fun d => decide (PySem.W.exmOne K (.ref (He.ga K d)) (.ref (He.ga K x)) = some (takes x d)) && decide (PySem.W.kitOne K (.ref (He.ga K d)) (.ref (He.ga K x)) = some (takes x d)))
/-- what is asked of the signature and the defs -/
def sigOk (S : Sig) (ds : List DefM) (Pg : Prog) (fuel : Nat) : Prop :=
  (∀ m ∈ ds, m.ok = true) ∧ (∀ m ∈ ds, Pg.fn m.key = some (trDef S fuel m.N m.d.scope m.ps.length m.d.body)) ∧
  (∀ p ∈ S.fns, ∃ m ∈ ds, m.key = p.1 ∧ m.d.at_ = (p.1, none) ∧ m.ps.length = p.2) ∧
  (∀ p ∈ S.clss, ∃ m ∈ ds, m.key = p.1 ++ (".__init__" : Str) ∧ m.d.at_ = (p.1, some ("__init__" : Str)) ∧ m.ps.length = p.2 + 1) ∧
  (∀ p ∈ S.gis, Pg.glo p.1 = S.gis.lookup p.1) ∧ (∀ x ∈ S.excs, Pg.fld x = none)
theorem mem_of_lookup {β : Type} : ∀ {l : List (Str × β)} {x : Str} {b : β}, l.lookup x = some b → (x, b) ∈ l
  | [], _, _, h => by cases h
  | (y, c) :: r, x, b, h => by
    rw [List.lookup_cons] at h
    cases e : (x == y) with
    | true =>
      rw [e] at h
      cases h
      rw [beq_iff_eq.mp e]
      exact List.mem_cons_self
    | false =>
      rw [e] at h
      exact List.mem_cons_of_mem _ (mem_of_lookup h)
theorem ownB_ok {K : PySem.W.Frag} {C : Addr} (cl : Cls K C) (h : ownB K C = true) : OwnC K C := by
  unfold ownB at h
  simp only [Bool.and_eq_true, decide_eq_true_eq] at h
  exact ⟨cl, He.eqO_ok h.1.1.1, h.1.1.2, h.1.2, h.2⟩
theorem excB_ok {K : PySem.W.Frag} {D : Addr} (h : excB K D = true) : ExcC K D := by
  unfold excB ownB at h
  simp only [Bool.and_eq_true, decide_eq_true_eq] at h
  obtain ⟨⟨⟨⟨h1, h2⟩, h3⟩, h4⟩, ⟨⟨h5, h6⟩, h7⟩, h8⟩ := h
  exact ⟨He.eqO_ok h1, He.eqO_ok h2, h3, h4, He.eqO_ok h5, h6, h7, h8⟩
section
variable {S : Sig} {ds : List DefM} {Pg : Prog} {fuel : Nat} {P : Program} {wd : World} {K : PySem.W.Frag} {mg : Str → Option Value} {base h : Heap}
theorem facts_of (so : sigOk S ds Pg fuel) (c : chk S K = true) (KX : K.In h) (G : h.Ns mainGlobals mg) {d : Nat} (fun_ : ∀ m ∈ ds, ∃ fd, FunM K m fd)
    (ih : ∀ m ∈ ds, ∀ fd, FunM K m fd → FnOk P wd K mg base (L2.CX P wd) (lev d) (He.fAd K m.d.at_) fd m.ps (SpF K mg Pg.fld m.ps.length (Pg.call d m.key))) : Facts S P wd K mg base (Pg.wld d) (lev d) := by
  obtain ⟨so1, so2, so3, so4, so5, so6⟩ := so
  unfold chk at c
  simp only [Bool.and_eq_true, List.all_eq_true, decide_eq_true_eq] at c
  obtain ⟨⟨⟨⟨⟨⟨⟨⟨c1, c2⟩, c3⟩, c4⟩, c5⟩, c6⟩, c7⟩, c8⟩, c9⟩ := c
  have clm : ∀ x ∈ S.clss.map (·.1), mg x = some (.ref (He.ga K x)) ∧ OwnC K (He.ga K x) := fun x hx => by
    obtain ⟨p, hp, rfl⟩ := List.mem_map.mp hx
    obtain ⟨⟨⟨h1, h2⟩, h3⟩, h4⟩ := c3 p hp
    exact ⟨He.glo_ok KX G h1, ownB_ok (He.cls_ok h2) h4⟩
  have tvl : ∀ t : Ty, (t.own = true → t.name ∈ S.clss.map (·.1)) → t.val mg = tvK K t ∧ t ∈ allTy S := fun t ht => by
    unfold allTy
    cases t with
    | cls x =>
      have hx := ht rfl
      refine ⟨?_, List.mem_append_right _ ?_⟩
      · unfold Ty.val tvK
        dsimp only
        rw [(clm x hx).1]; rfl
      · obtain ⟨p, hp, e⟩ := List.mem_map.mp hx
        exact List.mem_map.mpr ⟨p, hp, by rw [show p.1 = x from e]⟩
    | int => exact ⟨rfl, List.mem_append_left _ (by simp)⟩
    | bool => exact ⟨rfl, List.mem_append_left _ (by simp)⟩
    | str => exact ⟨rfl, List.mem_append_left _ (by simp)⟩
    | tuple => exact ⟨rfl, List.mem_append_left _ (by simp)⟩
    | list => exact ⟨rfl, List.mem_append_left _ (by simp)⟩
    | dict => exact ⟨rfl, List.mem_append_left _ (by simp)⟩
  refine ⟨fun x n hx => ?_, fun x n hx => ?_, fun x hx => ⟨_, (clm x hx).1⟩, fun ts hts => ⟨fun x hx C e => ?_, fun t ht n hn => ?_, fun t ht x hx C e => ?_⟩, fun f cs hf x hx C e => ?_, fun x v hx => ?_, fun x hx => He.free_ok KX G (c7 x hx), fun x hx => ?_, fun x hx => ?_⟩
  · have hm := mem_of_lookup hx
    obtain ⟨m, mm, e1, e2, e3⟩ := so3 _ hm
    obtain ⟨fd, F⟩ := fun_ m mm
    have z := ih m mm fd F
    obtain ⟨h1, h2⟩ := c2 _ hm
    rw [e1, e2, e3] at z
    have bd := FunM.binds F (DefM.ok_of (so1 m mm))
    exact ⟨_, fd, m.ps, z, He.glo_ok KX G h1, He.keep_ok h2, bd⟩
  · have hm := mem_of_lookup hx
    obtain ⟨m, mm, e1, e2, e3⟩ := so4 _ hm
    obtain ⟨fd, F⟩ := fun_ m mm
    have z := ih m mm fd F
    obtain ⟨⟨⟨h1, h2⟩, h3⟩, h4⟩ := c3 _ hm
    rw [e1, e2, e3] at z
    have bd := FunM.binds F (DefM.ok_of (so1 m mm))
    exact ⟨_, _, fd, m.ps, He.mkr_ok h3, z, He.glo_ok KX G h1, bd⟩
  · obtain ⟨h1, h2⟩ := clm x hx
    rw [h1] at e
    cases e
    exact h2
  · obtain ⟨h1, h2⟩ := tvl t (hts t ht)
    rw [h1]
    exact (c5 t h2).1 n hn
  · obtain ⟨h1, h2⟩ := tvl t (hts t ht)
    obtain ⟨h3, _⟩ := clm x hx
    rw [h3] at e
    cases e
    rw [h1]
    obtain ⟨p, hp, rfl⟩ := List.mem_map.mp hx
    exact (c5 t h2).2 p hp
  · obtain ⟨⟨h1, h2⟩, h3⟩ := c4 _ (mem_of_lookup hf) x hx
    rw [He.glo_ok KX G h1] at e
    cases e
    exact ⟨He.cls_ok h2, He.noat_ok h3⟩
  · have hm := mem_of_lookup hx
    refine ⟨(so5 _ hm).trans hx, ?_⟩
    have z := c6 _ hm
    dsimp only at z
    cases v with
    | int i =>
      obtain ⟨t, e⟩ := He.int_ok KX G z
      exact .inl ⟨i, t, rfl, e⟩
    | str y =>
      obtain ⟨t, e⟩ := He.str_ok KX G z
      exact .inr ⟨y, t, rfl, e⟩
    | _ => cases z
  · obtain ⟨h1, h2⟩ := c8 x hx
    obtain ⟨e1, e2, e3, e4⟩ := He.exc_ok h2
    exact ⟨_, He.glo_ok KX G h1, ⟨e1, e2, e3, e4⟩, so6 x hx⟩
  · obtain ⟨⟨h1, h2⟩, h3⟩ := c9 x hx
    refine ⟨_, He.glo_ok KX G h1, fun y hy D gD => ?_⟩
    obtain ⟨⟨k1, k2⟩, k3⟩ := c9 y hy
    rw [He.glo_ok KX G k1] at gD
    cases gD
    obtain ⟨z1, z2⟩ := h3 y hy
    exact ⟨z1, excB_ok k2, z2⟩
theorem all_fn (so : sigOk S ds Pg fuel) (c : chk S K = true) (KX : K.In h) (G : h.Ns mainGlobals mg) (fun_ : ∀ m ∈ ds, ∃ fd, FunM K m fd) : ∀ (d : Nat), ∀ m ∈ ds, ∀ fd, FunM K m fd →
    FnOk P wd K mg base (L2.CX P wd) (lev d) (He.fAd K m.d.at_) fd m.ps (SpF K mg Pg.fld m.ps.length (Pg.call d m.key))
  | 0, m, _, fd, _ => fn_zero
  | d + 1, m, hm, fd, F => fn_succ (S := S) (fuel := fuel) (DefM.ok_of (so.1 m hm)) (so.2.1 m hm) F (facts_of so c KX G fun_ (all_fn so c KX G fun_ d))
end
/-! ### the Hook -/
abbrev AlM : Type := Bool × List He.FnV
def obsM (S : Sig) (ds : List DefM) (K : PySem.W.Frag) : AlM := (chk S K && ds.all fun m => (He.Fa.code m.d.at_ m.d.qual).ok K && PySem.W.keepIn K (.ref (He.fAd K m.d.at_)), ds.map fun m => He.fnObs K m.d.at_)
def valM (ds : List DefM) : AlM := (true, ds.map fun m => m.d.val)
def obsMG (n : Nat) (S : Sig) (ds : List DefM) (g : Addr → Option Obj) : AlM := obsM S ds (He.frG g (He.asG g n))
def hookM (n : Nat) (S : Sig) (ds : List DefM) : PySem.W.Hook where
  α := AlM
  obs := fun s => obsMG n S ds s.heap.get?
  val := fun _ => valM ds
  says := fun _ h => ∃ K : PySem.W.Frag, K.In h ∧ obsM S ds K = valM ds
  of := fun _ _ e => ⟨_, He.frG_in, e⟩
  keeps := fun _ _ _ ⟨K, hK, c⟩ k => ⟨K, PySem.W.Frag.In.keeps hK k, c⟩
theorem obsMG_eq {n : Nat} {S : Sig} {ds : List DefM} {g : Addr → Option Obj} {s : Shared} (h : ∀ a, g a = s.heap.get? a) : obsMG n S ds g = (hookM n S ds).obs s := by
  have e : g = s.heap.get? := funext h
  rw [e] <;> rfl
theorem says_ok {S : Sig} {ds : List DefM} {K : PySem.W.Frag} (e : obsM S ds K = valM ds) : chk S K = true ∧ ∀ m ∈ ds, ∃ fd, FunM K m fd := by
  have e1 : (chk S K && ds.all fun m => (He.Fa.code m.d.at_ m.d.qual).ok K && PySem.W.keepIn K (.ref (He.fAd K m.d.at_))) = true := congrArg (fun z : AlM => z.1) e
  have e2 : ds.map (fun m => He.fnObs K m.d.at_) = ds.map fun m => m.d.val := congrArg (fun z : AlM => z.2) e
  rw [Bool.and_eq_true_iff] at e1
  refine ⟨e1.1, fun m hm => ?_⟩
  have h1 := List.all_eq_true.mp e1.2 m hm
  rw [Bool.and_eq_true_iff] at h1
  have h2 : He.fnObs K m.d.at_ = m.d.val := by
    obtain ⟨i, hi, rfl⟩ := List.getElem_of_mem hm
    have z : (ds.map fun m => He.fnObs K m.d.at_)[i]? = (ds.map fun m => m.d.val)[i]? := by rw [e2]
    rw [List.getElem?_map, List.getElem?_map, List.getElem?_eq_getElem hi] at z
    exact Option.some.inj z
  obtain ⟨oc, od, osl, kV, doc, pm, an, cdv, ct, l, cd⟩ := He.fn_ok h2 h1.1
  exact ⟨_, ⟨⟨oc, od, .none, kV, doc, pm, an, cdv, ct, osl, rfl, l, cd, .inl ⟨rfl, rfl⟩, .inl rfl⟩, h1.2⟩⟩
theorem noList_ok {K : PySem.W.Frag} (h : noList K = true) {a : Addr} {o : Obj} (e : K.lookup a = some o) : o.cls ≠ .type "list" := by
  have key : ∀ K : PySem.W.Frag, K.lookup a = some o → (a, o) ∈ K := by
    intro K
    induction K with
    | nil => intro e; cases e
    | cons p r ih =>
      intro e
      obtain ⟨b, c⟩ := p
      rw [List.lookup_cons] at e
      cases q : (a == b) with
      | true =>
        rw [q] at e
        cases e
        rw [beq_iff_eq.mp q]
        exact List.mem_cons_self
      | false =>
        rw [q] at e
        exact List.mem_cons_of_mem _ (ih e)
  exact of_decide_eq_true (List.all_eq_true.mp h _ (key K e))

/-- a law's walk -/
theorem walk_M {l : PySem.W.OpenLaw} {n k : Nat} {q : Program} {loose : List Str} {XP : (Str → Option Value) → Heap → Prop} {YP : World → Heap → Prop} {d : DefRec} {x : Str}
    (hn : l.most = some n) (hn2 : n ≤ sizeLine) (hdf : d.params.defaults = []) (hr : Room k callerA)
    (F : ∀ (w : World) (mg : Str → Option Value) (fa : Addr) (h : Heap), YP w h → h.Ns mainGlobals mg → mg d.name = some (.ref fa) →
      ∃ (K : PySem.W.Frag) (fd : FuncData) (sp : Sp), K.In h ∧ (∀ (s : Shared) (u : Value), BindsTo s fd ⟨[u], []⟩ [(x, u)]) ∧
        (∀ (H : Hp) (a : Addr) (ns : List Int), ns.length ≤ n → Only H → SqL K H a (ns.map V.int) → sp [.ref a] H (fun v _ => v = .bl true) fun _ _ _ => False) ∧
        ∀ base : Heap, K.In base → base.Ns mainGlobals mg → FnOk l.prog w K mg base (L2.CX l.prog w) k fa fd [x] sp) :
    PySem.W.WalkO q loose XP YP l.row.toRowW d [] (fun f vs => PySem.call f vs) := by
  refine Att.attach_call hn hdf fun w s₀ s₁ mg mb fa o pm cd doc a vs ns G Y ho hd hcd hmg hobj hints hlen hg => ?_
  obtain ⟨K, fd, sp, KX, hb, hsp, hF⟩ := F w mg fa _ Y G.T.g hmg
  refine law_call KX G.T.g G.T.b G.T.builtins G.T.nolimit hg hobj hints (Nat.le_trans hlen hn2) hr hF hb (fun H hO hS => hsp H a ns hlen hO hS) fun H e s' h => ?_
  obtain ⟨_, _, _, _, _, _, _, _, _, _, _, _, z⟩ := h
  exact z.elim
/-- a law's walk, off our interpreter -/
theorem walk_mini {l : PySem.W.OpenLaw} {n D : Nat} {q : Program} {loose : List Str} {XP : (Str → Option Value) → Heap → Prop} {YP : World → Heap → Prop} {d : DefRec} {x : Str} {S : Sig} {ds : List DefM} {Pg : Prog} {fuel : Nat} {m : DefM}
    (hn : l.most = some n) (hn2 : n ≤ sizeLine) (hdf : d.params.defaults = []) (hD : D ≤ 110) (so : sigOk S ds Pg fuel) (hm : m ∈ ds) (hk : m.key = ("law" : Str)) (hat : m.d.at_ = (("law" : Str), none)) (hfn : (("law" : Str), 1) ∈ S.fns) (hps : m.ps = [x]) (hdn : d.name = ("law" : Str))
    (hY : ∀ w h, YP w h → ∃ K : PySem.W.Frag, K.In h ∧ obsM S ds K = valM ds)
    (main : ∀ ns : List Int, ns.length ≤ n → ∃ M, Pg.call D "law" [.loc 0] [.frz (ns.map PV.int)] = .ok (.bl true) M) :
    PySem.W.WalkO q loose XP YP l.row.toRowW d [] (fun f vs => PySem.call f vs) := by
  refine walk_M (k := lev D) (x := x) hn hn2 hdf ?_ fun w mg fa h Y G hmg => ?_
  · refine ⟨rfl, ?_, ?_⟩
    · have z : callerA.depth = 301 := rfl
      have z2 : recursionLimit = 1000 := rfl
      unfold lev
      omega
    · have z : callerA.units + 6000 < cLine := by decide
      unfold lev
      omega
  obtain ⟨K, KX, c⟩ := hY w h Y
  obtain ⟨c1, c2⟩ := says_ok c
  obtain ⟨fd, F⟩ := c2 m hm
  have hfa : He.fAd K m.d.at_ = fa := by
    have c0 := c1
    unfold chk at c0
    simp only [Bool.and_eq_true, List.all_eq_true, decide_eq_true_eq] at c0
    have z := He.glo_ok KX G (c0.1.1.1.1.1.1.1.2 _ hfn).1
    rw [hdn] at hmg
    rw [hmg] at z
    rw [hat]
    exact (Value.ref.inj (Option.some.inj z)).symm
  have o := DefM.ok_of (so.1 m hm)
  refine ⟨K, fd, SpF K mg Pg.fld m.ps.length (Pg.call D m.key), KX, ?_, fun H a ns hl hO hS => ?_, fun base hb hN => ?_⟩
  · have z := FunD.bindsA (ps := m.ps) F fun kV doc pm an cdv ct us hl => by
      rw [o.par]
      exact bind_plain us hl o.nd
    intro s u
    have z2 := z s [u] (by rw [hps]; rfl)
    rw [hps] at z2
    exact z2
  · obtain ⟨M, hM⟩ := main ns hl
    have hfrz : ∃ ob, H a = some (.frz ob (.lst (ns.map V.int))) := by
      rcases hS with (z | ⟨ob, z⟩) | ⟨ob, its, k, z, zc, _⟩
      · rcases hO a with y | ⟨_, _, y⟩ <;> rw [z] at y <;> cases y
      · exact ⟨ob, z⟩
      · have c0 := c1
        unfold chk at c0
        simp only [Bool.and_eq_true] at c0
        exact absurd zc (noList_ok c0.1.1.1.1.1.1.1.1 z)
    obtain ⟨ob, hfrz⟩ := hfrz
    refine ⟨fun _ => a, [.frz (ns.map PV.int)], [.loc 0], ⟨fun i j hi hj _ => ?_, fun i o e => ?_⟩, .cons ?_ .nil, by rw [hps]; rfl, ?_⟩
    · have hi : i < 1 := hi
      have hj : j < 1 := hj
      omega
    · have hi : i < 1 := Rel.lt e
      have hi : i = 0 := by omega
      subst hi
      cases e
      exact ⟨ob, _, hfrz, Reps.ofInts ns⟩
    · exact Rep.loc (μ := fun _ => a) (i := 0) (Nat.zero_lt_one)
    · rw [hk, hM]
      intro μ' H' b _ _ r
      cases r
      rfl
  · rw [← hfa, ← hps]
    exact all_fn so c1 KX G c2 D m hm fd F
/-- the same, to be told by running -/
def sigB (S : Sig) (ds : List DefM) (Pg : Prog) : Bool :=
  (S.fns.all fun p => ds.any fun m => decide (m.key = p.1) && decide (m.d.at_ = (p.1, none)) && decide (m.ps.length = p.2)) &&
  (S.clss.all fun p => ds.any fun m => decide (m.key = p.1 ++ (".__init__" : Str)) && decide (m.d.at_ = (p.1, some ("__init__" : Str))) && decide (m.ps.length = p.2 + 1)) &&
  (S.excs.all fun x => (Pg.fld x).isNone) && (ds.all fun m => m.ok)
theorem sigOk_of {S : Sig} {ds : List DefM} {Pg : Prog} {fuel : Nat} (b : sigB S ds Pg = true) (e : (ds.map fun m => Pg.fn m.key) = ds.map fun m => some (trDef S fuel m.N m.d.scope m.ps.length m.d.body)) (g : Pg.glo = fun x => S.gis.lookup x) : sigOk S ds Pg fuel := by
  unfold sigB at b
  simp only [Bool.and_eq_true, List.all_eq_true, List.any_eq_true, decide_eq_true_eq, Option.isNone_iff_eq_none] at b
  obtain ⟨⟨⟨b1, b2⟩, b3⟩, b4⟩ := b
  refine ⟨b4, fun m hm => ?_, fun p hp => ?_, fun p hp => ?_, fun p _ => by rw [g], b3⟩
  · obtain ⟨i, hi, rfl⟩ := List.getElem_of_mem hm
    have z : (ds.map fun m => Pg.fn m.key)[i]? = (ds.map fun m => some (trDef S fuel m.N m.d.scope m.ps.length m.d.body))[i]? := by rw [e]
    rw [List.getElem?_map, List.getElem?_map, List.getElem?_eq_getElem hi] at z
    exact Option.some.inj z
  · obtain ⟨m, h1, ⟨h2, h3⟩, h4⟩ := b1 p hp
    exact ⟨m, h1, h2, h3, h4⟩
  · obtain ⟨m, h1, ⟨h2, h3⟩, h4⟩ := b2 p hp
    exact ⟨m, h1, h2, h3, h4⟩
/-- the j-th statement of a class -/
def inCls (s : Stmt) (j : Nat) : Stmt := match s with
  | .ClassDef _ _ _ b _ _ _ _ _ _ _ => b.getD j (.Pass ⟨0, 0, 0, 0⟩)
  | _ => .Pass ⟨0, 0, 0, 0⟩
def mdef (key name qual : Str) (at_ : Str × Option Str) (st : Stmt) (N : List Str) : DefM := ⟨key, ⟨at_, name, qual, defArgs st, defBody st, defScope st⟩, N⟩
end Mini

set_option autoImplicit false
set_option linter.all false
set_option maxRecDepth 100000
/-! Mini21: evaluating our code: lemmas for specs. -/
namespace Mini
open PySem
theorem callS {P : Prog} {d : Nat} {f : Str} {c : Def} {vs : List PV} {M : Store} (h : P.fn f = some c) (hl : vs.length = c.ps) : P.call (d + 1) f vs M = (denSs (P.wld d) c.body (startE c vs) M).out := by
  unfold Prog.call
  rw [h]
  dsimp only
  rw [if_pos hl]
  rfl
theorem gc_same {M : Store} {v : PV} : gc M (.ok v M) = .ok v M := by
  unfold gc
  dsimp only
  rw [if_pos (Nat.le_refl _)]
theorem gc_short {M M' : Store} {v : PV} (h : M'.length ≤ M.length) : gc M (.ok v M') = .ok v M' := by
  unfold gc
  dsimp only
  rw [if_pos h]
theorem gc_exc {M : Store} {c : Str} {fs : List PV} (h : PV.unders M.length fs = true) : gc M (.exc c fs M) = .exc c fs M := by
  unfold gc
  dsimp only
  rw [List.take_length, if_pos ⟨.inl rfl, h⟩]
theorem gc_drop {M N : Store} {v : PV} (h : PV.under M.length v = true) : gc M (.ok v (M ++ N)) = .ok v M := by
  unfold gc
  dsimp only
  by_cases c : (M ++ N).length ≤ M.length
  · rw [if_pos c]
    have : N = [] := List.length_eq_zero_iff.mp (by rw [List.length_append] at c; omega)
    rw [this, List.append_nil]
  · rw [if_neg c, List.take_append_of_le_length (Nat.le_refl _), List.take_length, if_pos (.inl rfl), if_pos h]
theorem gc_new {M N : Store} {ob : PO} (h : PO.under M.length ob = true) : gc M (.ok (.loc M.length) (M ++ ob :: N)) = .ok (.loc M.length) (M ++ [ob]) := by
  unfold gc
  dsimp only
  have c : ¬ (M ++ ob :: N).length ≤ M.length := by rw [List.length_append, List.length_cons]; omega
  have u : ¬ PV.under M.length (.loc M.length) = true := by
    show ¬ decide (M.length < M.length) = true
    simp
  rw [if_neg c, List.take_append_of_le_length (Nat.le_refl _), List.take_length, if_pos (.inl rfl), if_neg u]
  have e : (M ++ ob :: N)[M.length]? = some ob := by rw [List.getElem?_append_right (Nat.le_refl _), Nat.sub_self]; rfl
  rw [e]
  dsimp only
  rw [if_pos h]
theorem gc_at {M N : Store} {k : Nat} {ob : PO} (hk : M.length ≤ k) (e : (M ++ N)[k]? = some ob) (h : PO.under M.length ob = true) : gc M (.ok (.loc k) (M ++ N)) = .ok (.loc M.length) (M ++ [ob]) := by
  have hlt := Rel.lt e
  unfold gc
  dsimp only
  have u : ¬ PV.under M.length (.loc k) = true := by
    show ¬ decide (k < M.length) = true
    simp; omega
  rw [if_neg (by omega), List.take_append_of_le_length (Nat.le_refl _), List.take_length, if_pos (.inl rfl), if_neg u, e]
  dsimp only
  rw [if_pos h]
theorem unders_map {α : Type} {n : Nat} {f : α → PV} (h : ∀ x, PV.under n (f x) = true) : ∀ xs : List α, PV.unders n (xs.map f) = true
  | [] => rfl
  | x :: xs => by
    show (PV.under n (f x) && PV.unders n (xs.map f)) = true
    rw [h, unders_map h xs]; rfl
theorem at_new {M N : Store} {ob : PO} : (M ++ ob :: N)[M.length]? = some ob := by rw [List.getElem?_append_right (Nat.le_refl _), Nat.sub_self]; rfl
theorem seqL_new {M N : Store} {xs : List PV} : seqL (.loc M.length) (M ++ .lst xs :: N) = some xs := by
  unfold seqL
  dsimp only
  rw [at_new]
theorem seqV_new {M N : Store} {xs : List PV} : seqV (.loc M.length) (M ++ .lst xs :: N) = some xs := seqL_new
theorem seqL_lst {M : Store} {p : Nat} {xs : List PV} (h : M[p]? = some (.lst xs)) : seqL (.loc p) M = some xs := by
  unfold seqL
  dsimp only
  rw [h]
theorem seqW_lst {M : Store} {p : Nat} {xs : List PV} (h : M[p]? = some (.lst xs)) : seqW (.loc p) M = some (xs, [(p, xs)]) := by
  unfold seqW
  dsimp only
  rw [seqL_lst h]
theorem still_lst {M : Store} {p : Nat} {xs : List PV} (h : M[p]? = some (.lst xs)) : still [(p, xs)] M = true := by
  unfold still
  rw [List.all_cons, List.all_nil, Bool.and_true]
  exact decide_eq_true (seqL_lst h)
/-- a comprehension whose turns leave the store as it is -/
theorem lpGo_pure {bt : PV → Env → Store → Out Env} {c elt : Env → Store → Out PV} {ws : List (Nat × List PV)} {σ : Env} {M : Store} {p : PV → Bool} {f : PV → PV} (hs : still ws M = true) : ∀ (xs acc : List PV), acc.length + xs.length ≤ cap →
    (∀ x ∈ xs, ∃ σ₂, bt x σ M = .ok σ₂ M ∧ c σ₂ M = .ok (.bl (p x)) M ∧ (p x = true → elt σ₂ M = .ok (f x) M)) → lpGo bt (lcB c elt) ws σ xs acc M = .ok (acc ++ (xs.filter p).map f) M
  | [], acc, _, _ => by
    unfold lpGo
    rw [if_pos hs]
    simp
  | x :: xs, acc, hl, h => by
    unfold lpGo
    rw [if_pos hs]
    obtain ⟨σ₂, h1, h2, h3⟩ := h x List.mem_cons_self
    have ih := fun acc' hl' => lpGo_pure (f := f) hs xs acc' hl' fun y hy => h y (List.mem_cons_of_mem _ hy)
    rw [List.length_cons] at hl
    rw [h1]
    show ((lcB c elt σ₂ acc M).bind fun acc M => lpGo bt (lcB c elt) ws σ xs acc M) = _
    unfold lcB
    rw [h2]
    cases hp : p x with
    | true =>
      show (((elt σ₂ M).bind fun v M => if acc.length < cap then .ok (acc ++ [v]) M else .fail).bind fun acc M => lpGo bt (lcB c elt) ws σ xs acc M) = _
      rw [h3 hp]
      show ((if acc.length < cap then Out.ok (acc ++ [f x]) M else .fail).bind fun acc M => lpGo bt (lcB c elt) ws σ xs acc M) = _
      rw [if_pos (by omega)]
      show lpGo bt (lcB c elt) ws σ xs (acc ++ [f x]) M = _
      rw [ih _ (by rw [List.length_append, List.length_singleton]; omega), List.filter_cons_of_pos hp, List.map_cons, List.append_assoc]
      rfl
    | false =>
      show lpGo bt (lcB c elt) ws σ xs acc M = _
      rw [ih _ (by omega), List.filter_cons_of_neg (by rw [hp]; exact Bool.false_ne_true)]
/-- [elt for t in it if c] where the turns leave the store as it is -/
theorem lc_pure {w : Wld} {own : List Nat} {t : T} {it : It} {c elt : E} {σ : Env} {M : Store} {k : Wk} {p : PV → Bool} {f : PV → PV} (hi : denIt w it σ M = .ok k M) (hs : still k.2 M = true) (hl : k.1.length ≤ cap)
    (h : ∀ x ∈ k.1, ∃ σ₂, denT w t x (wipe σ own) M = .ok σ₂ M ∧ denE w c σ₂ M = .ok (.bl (p x)) M ∧ (p x = true → denE w elt σ₂ M = .ok (f x) M)) :
    denE w (.lc own t it c elt) σ M = gc M (.ok (.loc M.length) (M ++ [.lst ((k.1.filter p).map f)])) := by
  unfold denE
  rw [hi]
  show gc M (Out.calm ((lpGo (fun v σ M => denT w t v (wipe σ own) M) (lcB (fun σ M => denE w c σ M) (fun σ M => denE w elt σ M)) k.2 σ k.1 [] M).bind fun acc M => .ok (.loc M.length) (M ++ [.lst acc]))) = _
  rw [lpGo_pure (bt := fun v σ M => denT w t v (wipe σ own) M) (σ := σ) (p := p) (f := f) hs k.1 [] (by simpa using hl) h]
  rfl
/-- without a test -/
theorem lc_map {w : Wld} {own : List Nat} {t : T} {it : It} {elt : E} {σ : Env} {M : Store} {k : Wk} {f : PV → PV} (hi : denIt w it σ M = .ok k M) (hs : still k.2 M = true) (hl : k.1.length ≤ cap)
    (h : ∀ x ∈ k.1, ∃ σ₂, denT w t x (wipe σ own) M = .ok σ₂ M ∧ denE w elt σ₂ M = .ok (f x) M) :
    denE w (.lc own t it (.cst (.bl true)) elt) σ M = gc M (.ok (.loc M.length) (M ++ [.lst (k.1.map f)])) := by
  rw [lc_pure (p := fun _ => true) (f := f) hi hs hl fun x hx => let ⟨σ₂, a, b⟩ := h x hx; ⟨σ₂, a, rfl, fun _ => b⟩]
  rw [List.filter_eq_self.mpr fun _ _ => rfl]
theorem isBls_map {α : Type} (p : α → Bool) : ∀ xs : List α, isBls (xs.map fun x => PV.bl (p x)) = true
  | [] => rfl
  | x :: xs => isBls_map p xs
theorem blOf_map {α : Type} (p : α → Bool) (xs : List α) : ((xs.map fun x => PV.bl (p x)).map blOf).all id = xs.all p := by
  induction xs with
  | nil => rfl
  | cons x xs ih => rw [List.map_cons, List.map_cons, List.all_cons, List.all_cons, ih]; rfl
theorem blOf_mapAny {α : Type} (p : α → Bool) (xs : List α) : ((xs.map fun x => PV.bl (p x)).map blOf).any id = xs.any p := by
  induction xs with
  | nil => rfl
  | cons x xs ih => rw [List.map_cons, List.map_cons, List.any_cons, List.any_cons, ih]; rfl
/-- a fresh list of what has no new place: gc does nothing -/
theorem gc_lst {M : Store} {xs : List PV} : gc M (.ok (.loc M.length) (M ++ [.lst xs])) = .ok (.loc M.length) (M ++ [.lst xs]) := by
  unfold gc
  dsimp only
  have c : ¬ (M ++ [PO.lst xs]).length ≤ M.length := by rw [List.length_append, List.length_singleton]; omega
  have u : ¬ PV.under M.length (.loc M.length) = true := by
    show ¬ decide (M.length < M.length) = true
    simp
  rw [if_neg c, List.take_append_of_le_length (Nat.le_refl _), List.take_length, if_pos (.inl rfl), if_neg u, at_new]
  dsimp only
  split <;> rfl
/-- .. over what was made for it -/
theorem lc_map1 {w : Wld} {own : List Nat} {t : T} {it : It} {elt : E} {σ : Env} {M M1 : Store} {k : Wk} {f : PV → PV} (hi : denIt w it σ M = .ok k M1) (hs : still k.2 M1 = true) (hl : k.1.length ≤ cap)
    (h : ∀ x ∈ k.1, ∃ σ₂, denT w t x (wipe σ own) M1 = .ok σ₂ M1 ∧ denE w elt σ₂ M1 = .ok (f x) M1) :
    denE w (.lc own t it (.cst (.bl true)) elt) σ M = gc M (.ok (.loc M1.length) (M1 ++ [.lst (k.1.map f)])) := by
  unfold denE
  rw [hi]
  show gc M (Out.calm ((lpGo (fun v σ M => denT w t v (wipe σ own) M) (lcB (fun σ M => denE w (.cst (.bl true)) σ M) (fun σ M => denE w elt σ M)) k.2 σ k.1 [] M1).bind fun acc M => .ok (.loc M.length) (M ++ [.lst acc]))) = _
  rw [lpGo_pure (bt := fun v σ M => denT w t v (wipe σ own) M) (c := fun σ M => denE w (.cst (.bl true)) σ M) (elt := fun σ M => denE w elt σ M) (σ := σ) (p := fun _ => true) (f := f) hs k.1 [] (by simpa using hl) fun x hx => let ⟨σ₂, a, b⟩ := h x hx; ⟨σ₂, a, rfl, fun _ => b⟩]
  rw [List.filter_eq_self.mpr fun _ _ => rfl]
  rfl
/-- all([p(x) for x in it]) -/
theorem all_lc {w : Wld} {own : List Nat} {t : T} {it : It} {elt : E} {σ : Env} {M : Store} {k : Wk} {p : PV → Bool} (hi : denIt w it σ M = .ok k M) (hs : still k.2 M = true) (hl : k.1.length ≤ cap)
    (h : ∀ x ∈ k.1, ∃ σ₂, denT w t x (wipe σ own) M = .ok σ₂ M ∧ denE w elt σ₂ M = .ok (.bl (p x)) M) :
    denE w (.bi .all (.cons (.lc own t it (.cst (.bl true)) elt) .nil)) σ M = .ok (.bl (k.1.all p)) M := by
  unfold denE denEs
  rw [lc_map (f := fun x => .bl (p x)) hi hs hl h, gc_lst]
  show gc M (biV .all [.loc M.length] (M ++ [.lst (k.1.map fun x => .bl (p x))])) = _
  unfold biV
  dsimp only
  rw [seqL_new]
  dsimp only
  rw [if_pos (isBls_map p _), blOf_map]
  exact gc_drop rfl

/-! ### expressions that leave the store as it is -/
section
variable {w : Wld} {σ : Env} {M : Store} {a b c i : E} {x y z : Bool} {u v t : PV} {m n : Int} {es : Es} {vs : List PV}
theorem e_and (h1 : denE w a σ M = .ok (.bl x) M) (h2 : x = true → denE w b σ M = .ok (.bl y) M) : denE w (.and a b) σ M = .ok (.bl (x && y)) M := by
  unfold denE
  rw [h1]
  cases x with
  | true => exact h2 rfl
  | false => rfl
theorem e_or (h1 : denE w a σ M = .ok (.bl x) M) (h2 : x = false → denE w b σ M = .ok (.bl y) M) : denE w (.or a b) σ M = .ok (.bl (x || y)) M := by
  unfold denE
  rw [h1]
  cases x with
  | true => rfl
  | false => exact h2 rfl
theorem e_not (h1 : denE w a σ M = .ok (.bl x) M) : denE w (.not a) σ M = .ok (.bl (!x)) M := by
  unfold denE
  rw [h1]; rfl
theorem e_ife (h1 : denE w c σ M = .ok (.bl x) M) (h2 : x = true → denE w a σ M = .ok u M) (h3 : x = false → denE w b σ M = .ok u M) : denE w (.ife c a b) σ M = .ok u M := by
  unfold denE
  rw [h1]
  cases x with
  | true => exact h2 rfl
  | false => exact h3 rfl
theorem e_cmp {o : Cop} (h1 : denE w a σ M = .ok u M) (h2 : denE w b σ M = .ok v M) (h : copV o u v M = .ok t M) : denE w (.cmp o a b) σ M = .ok t M := by
  unfold denE
  rw [h1]
  show (denE w b σ M).bind _ = _
  rw [h2]
  exact h
theorem e_lt (h1 : denE w a σ M = .ok (.int m) M) (h2 : denE w b σ M = .ok (.int n) M) : denE w (.cmp .lt a b) σ M = .ok (.bl (decide (m < n))) M := e_cmp h1 h2 rfl
theorem e_le (h1 : denE w a σ M = .ok (.int m) M) (h2 : denE w b σ M = .ok (.int n) M) : denE w (.cmp .le a b) σ M = .ok (.bl (decide (m ≤ n))) M := e_cmp h1 h2 rfl
theorem e_gt (h1 : denE w a σ M = .ok (.int m) M) (h2 : denE w b σ M = .ok (.int n) M) : denE w (.cmp .gt a b) σ M = .ok (.bl (decide (n < m))) M := e_cmp h1 h2 rfl
theorem e_ge (h1 : denE w a σ M = .ok (.int m) M) (h2 : denE w b σ M = .ok (.int n) M) : denE w (.cmp .ge a b) σ M = .ok (.bl (decide (n ≤ m))) M := e_cmp h1 h2 rfl
theorem e_eqD (h1 : denE w a σ M = .ok u M) (h2 : denE w b σ M = .ok v M) (h : eqD u v M = some x) : denE w (.cmp .eq a b) σ M = .ok (.bl x) M := e_cmp h1 h2 (by show (opt M (eqD u v M)).bind _ = _; rw [h]; rfl)
theorem e_neD (h1 : denE w a σ M = .ok u M) (h2 : denE w b σ M = .ok v M) (h : eqD u v M = some x) : denE w (.cmp .ne a b) σ M = .ok (.bl (!x)) M := e_cmp h1 h2 (by show (opt M (eqD u v M)).bind _ = _; rw [h]; rfl)
theorem eqD_int {i j : Int} : eqD (.int i) (.int j) M = some (decide (i = j)) := by
  unfold eqD
  rw [if_pos ⟨rfl, rfl⟩]
  unfold PV.eqv
  rw [Bool.beq_eq_decide_eq]
theorem eqD_bl {i j : Bool} : eqD (.bl i) (.bl j) M = some (decide (i = j)) := by
  unfold eqD
  rw [if_pos ⟨rfl, rfl⟩]
  unfold PV.eqv
  rw [Bool.beq_eq_decide_eq]
theorem e_eq (h1 : denE w a σ M = .ok (.int m) M) (h2 : denE w b σ M = .ok (.int n) M) : denE w (.cmp .eq a b) σ M = .ok (.bl (decide (m = n))) M := e_eqD h1 h2 eqD_int
theorem e_ne (h1 : denE w a σ M = .ok (.int m) M) (h2 : denE w b σ M = .ok (.int n) M) : denE w (.cmp .ne a b) σ M = .ok (.bl (!decide (m = n))) M := e_neD h1 h2 eqD_int
theorem e_bin {o : Bop} (h1 : denE w a σ M = .ok u M) (h2 : denE w b σ M = .ok v M) (h : bopV o u v M = .ok t M) : denE w (.bin o a b) σ M = .ok t M := by
  unfold denE
  rw [h1]
  show (denE w b σ M).bind _ = _
  rw [h2]
  exact h
theorem e_add (h1 : denE w a σ M = .ok (.int m) M) (h2 : denE w b σ M = .ok (.int n) M) : denE w (.bin .add a b) σ M = .ok (.int (m + n)) M := e_bin h1 h2 rfl
theorem e_sub (h1 : denE w a σ M = .ok (.int m) M) (h2 : denE w b σ M = .ok (.int n) M) : denE w (.bin .sub a b) σ M = .ok (.int (m - n)) M := e_bin h1 h2 rfl
theorem e_ix (h1 : denE w a σ M = .ok u M) (h2 : denE w i σ M = .ok v M) (h : ixV u v M = .ok t M) : denE w (.ix a i) σ M = .ok t M := by
  unfold denE
  rw [h1]
  show (denE w i σ M).bind _ = _
  rw [h2]
  exact h
theorem es_nil : denEs w .nil σ M = .ok [] M := rfl
theorem es_cons (h1 : denE w a σ M = .ok u M) (h2 : denEs w es σ M = .ok vs M) : denEs w (.cons a es) σ M = .ok (u :: vs) M := by
  unfold denEs
  rw [h1]
  show (denEs w es σ M).bind _ = _
  rw [h2]; rfl
theorem e_tup (h : denEs w es σ M = .ok vs M) : denE w (.tup es) σ M = .ok (.tup vs) M := by
  unfold denE
  rw [h]; rfl
theorem e_call {f : Str} (h : denEs w es σ M = .ok vs M) (hc : w.call f vs M = .ok u M) : denE w (.call f es) σ M = .ok u M := by
  unfold denE
  rw [h]
  show gc M (w.call f vs M) = _
  rw [hc, gc_same]
theorem e_bi {k : Bi} (h : denEs w es σ M = .ok vs M) (hc : biV k vs M = .ok u M) : denE w (.bi k es) σ M = .ok u M := by
  unfold denE
  rw [h]
  show gc M (biV k vs M) = _
  rw [hc, gc_same]
/-- a statement of one step -/
theorem ss_cons {s : S} {ss : Ss} {σ2 : Env} {M2 : Store} (h : denS w s σ M = .nx σ2 M2) : denSs w (.cons s ss) σ M = denSs w ss σ2 M2 := by
  show (denS w s σ M).then _ = _
  rw [h]; rfl
theorem ss_rt {s : S} {ss : Ss} {M2 : Store} (h : denS w s σ M = .rt u M2) : denSs w (.cons s ss) σ M = .rt u M2 := by
  show (denS w s σ M).then _ = _
  rw [h]; rfl
theorem ss_exc {s : S} {ss : Ss} {M2 : Store} {e : Str} {fs : List PV} {σ2 : Env} (h : denS w s σ M = .exc e fs σ2 M2) : denSs w (.cons s ss) σ M = .exc e fs σ2 M2 := by
  show (denS w s σ M).then _ = _
  rw [h]; rfl
theorem s_ret {M2 : Store} (h : denE w a σ M = .ok u M2) : denS w (.ret a) σ M = .rt u M2 := by
  unfold denS
  rw [h]; rfl
theorem s_expr {M2 : Store} (h : denE w a σ M = .ok u M2) : denS w (.expr a) σ M = .nx σ M2 := by
  unfold denS
  rw [h]; rfl
theorem s_expr_exc {M2 : Store} {e : Str} {fs : List PV} (h : denE w a σ M = .exc e fs M2) : denS w (.expr a) σ M = .exc e fs σ M2 := by
  unfold denS
  rw [h]; rfl
theorem s_if {p q : Ss} {M2 : Store} (h : denE w c σ M = .ok (.bl x) M2) : denS w (.ife c p q) σ M = if x = true then denSs w p σ M2 else denSs w q σ M2 := by
  unfold denS
  rw [h]
  cases x <;> rfl
theorem s_asg {k : Nat} {M2 : Store} (h : denE w a σ M = .ok u M2) (hk : k < σ.length) : denS w (.asg (.nm k) a) σ M = .nx (σ.set k (some u)) M2 := by
  unfold denS
  rw [h]
  show (denT w (.nm k) u σ M2).at σ _ = _
  unfold denT
  rw [if_pos hk]; rfl
theorem s_asgT {t' : T} {σ2 : Env} {M2 M3 : Store} (h : denE w a σ M = .ok u M2) (ht : denT w t' u σ M2 = .ok σ2 M3) : denS w (.asg t' a) σ M = .nx σ2 M3 := by
  unfold denS
  rw [h]
  show (denT w t' u σ M2).at σ _ = _
  rw [ht]; rfl
end

/-- a for loop that goes through -/
theorem forGo_inv {bt : PV → Env → Store → Out Env} {b : Env → Store → SOut} {ws : List (Nat × List PV)} (I : Nat → Env → Store → Prop) {all : List PV} (hst : ∀ i σ M, I i σ M → still ws M = true)
    (hs : ∀ i x σ M, all[i]? = some x → I i σ M → ∃ σ2 M2 σ3 M3, bt x σ M = .ok σ2 M2 ∧ b σ2 M2 = .nx σ3 M3 ∧ I (i + 1) σ3 M3) : ∀ (xs : List PV) (i : Nat) (σ : Env) (M : Store), all.drop i = xs → i ≤ all.length → I i σ M →
    ∃ σ' M', forGo bt b ws xs σ M = .nx σ' M' ∧ I all.length σ' M'
  | [], i, σ, M, hd, hi, h => by
    have e : i = all.length := Nat.le_antisymm hi (drop_nil hd)
    subst e
    refine ⟨σ, M, ?_, h⟩
    unfold forGo
    rw [if_pos (hst _ _ _ h)]
  | x :: xs, i, σ, M, hd, hi, h => by
    obtain ⟨h1, h2, h3⟩ := drop_cons hd
    obtain ⟨σ2, M2, σ3, M3, e1, e2, h4⟩ := hs i x σ M h1 h
    obtain ⟨σ', M', e3, h5⟩ := forGo_inv I hst hs xs (i + 1) σ3 M3 h2 h3 h4
    refine ⟨σ', M', ?_, h5⟩
    unfold forGo
    rw [if_pos (hst _ _ _ h), e1]
    show (match b σ2 M2 with
        | .nx σ M => forGo bt b ws xs σ M
        | .ct σ M => forGo bt b ws xs σ M
        | .bk σ M => .nx σ M
        | o => o) = _
    rw [e2]
    exact e3
theorem s_for {w : Wld} {t : T} {it : It} {b : Ss} {σ : Env} {M M1 : Store} {k : Wk} (I : Nat → Env → Store → Prop) (hi : denIt w it σ M = .ok k M1) (h0 : I 0 σ M1) (hst : ∀ i σ M, I i σ M → still k.2 M = true)
    (hs : ∀ i x σ M, k.1[i]? = some x → I i σ M → ∃ σ2 M2 σ3 M3, denT w t x σ M = .ok σ2 M2 ∧ denSs w b σ2 M2 = .nx σ3 M3 ∧ I (i + 1) σ3 M3) : ∃ σ' M', denS w (.fo t it b) σ M = .nx σ' M' ∧ I k.1.length σ' M' := by
  obtain ⟨σ', M', e, h⟩ := forGo_inv (bt := fun v σ M => denT w t v σ M) (b := fun σ M => denSs w b σ M) I hst hs k.1 0 σ M1 rfl (Nat.zero_le _) h0
  refine ⟨σ', M', ?_, h⟩
  unfold denS
  rw [hi]
  exact e
theorem enmL_at (xs : List PV) (k i : Nat) : (enmL k xs)[i]? = (xs[i]?).map fun x => .tup [.int ((k + i : Nat) : Int), x] := by
  cases h : (enmL k xs)[i]? with
  | none =>
    rw [List.getElem?_eq_none_iff, enmL_len] at h
    rw [List.getElem?_eq_none h]; rfl
  | some y =>
    obtain ⟨x, e, rfl⟩ := enmL_get xs k i y h
    rw [e]; rfl
theorem set_new {M : Store} {o o' : PO} : (M ++ [o]).set M.length o' = M ++ [o'] := by
  rw [List.set_append_right _ _ (Nat.le_refl _), Nat.sub_self]; rfl

theorem e_isi {w : Wld} {a : E} {ds : List Str} {ts : List Ty} {σ : Env} {M : Store} {v : PV} (h : denE w a σ M = .ok v M) (hk : known ds M v = true) : denE w (.isi a ds ts) σ M = .ok (.bl (ts.any fun t => tyIs M v t)) M := by
  unfold denE
  rw [h]
  show (if known ds M v = true then _ else _) = _
  rw [if_pos hk]
theorem known_ins {ds : List Str} {M : Store} {y : Nat} {c : Str} {fs : List (Str × PV)} (hy : M[y]? = some (.ins c fs)) (hc : c ∈ ds) : known ds M (.loc y) = true := by
  unfold known
  dsimp only
  rw [hy]
  exact decide_eq_true hc
theorem known_lst {ds : List Str} {M : Store} {y : Nat} {xs : List PV} (hy : M[y]? = some (.lst xs)) : known ds M (.loc y) = true := by
  unfold known
  dsimp only
  rw [hy]
theorem tyIs_cls {M : Store} {y : Nat} {c e : Str} {fs : List (Str × PV)} (hy : M[y]? = some (.ins c fs)) : tyIs M (.loc y) (.cls e) = decide (e = c) := by
  unfold tyIs
  dsimp only
  rw [hy]
theorem tyIs_lst {M : Store} {y : Nat} {xs : List PV} (hy : M[y]? = some (.lst xs)) : tyIs M (.loc y) .list = true := by
  unfold tyIs
  dsimp only
  rw [hy]

/-- turns that lengthen the list and leave the store as it is -/
theorem lpGo_acc {bt : PV → Env → Store → Out Env} {body : Env → List PV → Store → Out (List PV)} {ws : List (Nat × List PV)} {σ : Env} {M : Store} {g : PV → List PV} {L : Nat} (hs : still ws M = true) : ∀ (xs acc : List PV), (acc ++ xs.flatMap g).length ≤ L →
    (∀ x ∈ xs, ∀ acc, acc.length ≤ L → ∃ σ₂, bt x σ M = .ok σ₂ M ∧ body σ₂ acc M = .ok (acc ++ g x) M) → lpGo bt body ws σ xs acc M = .ok (acc ++ xs.flatMap g) M
  | [], acc, _, _ => by
    unfold lpGo
    rw [if_pos hs]
    simp
  | x :: xs, acc, hl, h => by
    rw [List.flatMap_cons, ← List.append_assoc] at hl
    have hl1 : acc.length ≤ L := by rw [List.length_append, List.length_append] at hl; omega
    obtain ⟨σ₂, h1, h2⟩ := h x List.mem_cons_self acc hl1
    unfold lpGo
    rw [if_pos hs, h1]
    show (body σ₂ acc M).bind _ = _
    rw [h2]
    show lpGo bt body ws σ xs (acc ++ g x) M = _
    rw [lpGo_acc hs xs _ hl fun y hy => h y (List.mem_cons_of_mem _ hy), List.flatMap_cons, List.append_assoc]
/-- [elt for t in it for t' in it' if c'] that leaves the store as it is -/
theorem lc2_pure {w : Wld} {own own' : List Nat} {t t' : T} {it it' : It} {c' elt : E} {σ : Env} {M : Store} {k : Wk} {g : PV → List PV} {L : Nat} (hi : denIt w it σ M = .ok k M) (hs : still k.2 M = true) (hl : (k.1.flatMap g).length ≤ L)
    (h : ∀ x ∈ k.1, ∃ σ₂ k', denT w t x (wipe σ own) M = .ok σ₂ M ∧ denIt w it' σ₂ M = .ok k' M ∧ still k'.2 M = true ∧ L + k'.1.length ≤ cap ∧ ∃ (p : PV → Bool) (f : PV → PV), g x = (k'.1.filter p).map f ∧
      ∀ y ∈ k'.1, ∃ σ₃, denT w t' y (wipe σ₂ own') M = .ok σ₃ M ∧ denE w c' σ₃ M = .ok (.bl (p y)) M ∧ (p y = true → denE w elt σ₃ M = .ok (f y) M)) :
    denE w (.lc2 own t it (.cst (.bl true)) own' t' it' c' elt) σ M = .ok (.loc M.length) (M ++ [.lst (k.1.flatMap g)]) := by
  unfold denE
  rw [hi]
  show gc M (Out.calm ((lpGo (fun v σ M => denT w t v (wipe σ own) M) (lcB2 (fun σ M => denE w (.cst (.bl true)) σ M) (fun σ M => denIt w it' σ M) (fun v σ M => denT w t' v (wipe σ own') M) (lcB (fun σ M => denE w c' σ M) (fun σ M => denE w elt σ M))) k.2 σ k.1 [] M).bind fun acc M => .ok (.loc M.length) (M ++ [.lst acc]))) = _
  rw [lpGo_acc (bt := fun v σ M => denT w t v (wipe σ own) M) (body := lcB2 (fun σ M => denE w (.cst (.bl true)) σ M) (fun σ M => denIt w it' σ M) (fun v σ M => denT w t' v (wipe σ own') M) (lcB (fun σ M => denE w c' σ M) (fun σ M => denE w elt σ M))) (σ := σ) (g := g) (L := L) hs k.1 [] (by simpa using hl) fun x hx acc hacc => ?_]
  · exact gc_lst
  · obtain ⟨σ₂, k', h1, h2, h3, h4, p, f, h5, h6⟩ := h x hx
    refine ⟨σ₂, h1, ?_⟩
    show ((denIt w it' σ₂ M).bind fun k M => lpGo (fun v σ M => denT w t' v (wipe σ own') M) (lcB (fun σ M => denE w c' σ M) (fun σ M => denE w elt σ M)) k.2 σ₂ k.1 acc M) = _
    rw [h2, h5]
    exact lpGo_pure (bt := fun v σ M => denT w t' v (wipe σ own') M) (c := fun σ M => denE w c' σ M) (elt := fun σ M => denE w elt σ M) (σ := σ₂) (p := p) (f := f) h3 k'.1 acc (by omega) h6
/-- gc keeps what stood and may keep more -/
theorem gc_keep {M M' : Store} {v : PV} (hl : M.length ≤ M'.length) (hv : PV.under M.length v = true) : ∃ N, gc M (.ok v M') = .ok v (M'.take M.length ++ N) := by
  unfold gc
  dsimp only
  by_cases c0 : M'.length ≤ M.length
  · rw [if_pos c0]
    exact ⟨[], by rw [List.append_nil, List.take_of_length_le c0]⟩
  rw [if_neg c0]
  by_cases c1 : M'.take M.length = M ∨ Store.under M.length (M'.take M.length) = true
  case neg => rw [if_neg c1]; exact ⟨M'.drop M.length, by rw [List.take_append_drop]⟩
  rw [if_pos c1, if_pos hv]
  exact ⟨[], by rw [List.append_nil]⟩
/-- turns that each make one object, with a place handed back -/
theorem lpGo_alloc {bt : PV → Env → Store → Out Env} {elt : Env → Store → Out PV} {σ : Env} {M : Store} {ob : PV → PO} : ∀ (xs acc : List PV) (N : Store), acc.length + xs.length ≤ cap →
    (∀ x ∈ xs, ∀ N, ∃ σ₂, bt x σ (M ++ N) = .ok σ₂ (M ++ N) ∧ elt σ₂ (M ++ N) = .ok (.loc (M.length + N.length)) (M ++ (N ++ [ob x]))) →
    lpGo bt (lcB (fun _ M => .ok (.bl true) M) elt) [] σ xs acc (M ++ N) = .ok (acc ++ (List.range xs.length).map fun (i : Nat) => PV.loc (M.length + N.length + i)) (M ++ (N ++ xs.map ob))
  | [], acc, N, _, _ => by
    unfold lpGo
    rw [if_pos (show still [] (M ++ N) = true from rfl)]
    simp
  | x :: xs, acc, N, hl, h => by
    rw [List.length_cons] at hl
    obtain ⟨σ₂, h1, h2⟩ := h x List.mem_cons_self N
    have ih := lpGo_alloc (bt := bt) (elt := elt) (σ := σ) (M := M) (ob := ob) xs (acc ++ [.loc (M.length + N.length)]) (N ++ [ob x]) (by rw [List.length_append, List.length_singleton]; omega) fun y hy => h y (List.mem_cons_of_mem _ hy)
    unfold lpGo
    rw [if_pos (show still [] (M ++ N) = true from rfl), h1]
    show ((elt σ₂ (M ++ N)).bind fun v M => if acc.length < cap then Out.ok (acc ++ [v]) M else .fail).bind _ = _
    rw [h2]
    show (if acc.length < cap then Out.ok (acc ++ [PV.loc (M.length + N.length)]) (M ++ (N ++ [ob x])) else .fail).bind _ = _
    rw [if_pos (by omega)]
    show lpGo bt _ [] σ xs (acc ++ [.loc (M.length + N.length)]) (M ++ (N ++ [ob x])) = _
    rw [ih]
    congr 1
    · rw [List.length_cons, List.range_succ_eq_map, List.map_cons, List.map_map, List.append_assoc]
      congr 2
      · rw [List.length_append, List.length_singleton]
        refine congrArg _ ?_
        refine List.map_congr_left fun i _ => ?_
        show PV.loc _ = PV.loc _
        congr 1
        omega
    · rw [List.append_assoc, List.map_cons]; rfl
theorem mapO_get {α β : Type} {f : α → Option β} : ∀ {xs : List α} {ys : List β}, mapO f xs = some ys → xs.length = ys.length ∧ ∀ (i : Nat) x, xs[i]? = some x → ∃ y, ys[i]? = some y ∧ f x = some y
  | [], ys, h => by cases h; exact ⟨rfl, fun i x e => by cases e⟩
  | a :: xs, ys, h => by
    unfold mapO at h
    cases e1 : f a with
    | none => rw [e1] at h; cases h
    | some b =>
      cases e2 : mapO f xs with
      | none => rw [e1, e2] at h; cases h
      | some zs =>
        rw [e1, e2] at h
        cases h
        obtain ⟨l, g⟩ := mapO_get e2
        refine ⟨by rw [List.length_cons, List.length_cons, l], fun i x e => ?_⟩
        cases i with
        | zero => cases e; exact ⟨b, rfl, e1⟩
        | succ i => exact g i x e
theorem lim_lo (n : Nat) : -lim ≤ (n : Int) := by unfold lim; omega
theorem lim_hi {n : Nat} (h : n < 1000000) : (n : Int) < lim := by unfold lim; omega
theorem rngL_eq (n : Nat) : rngL 0 n = (List.range n).map fun (k : Nat) => .int (k : Int) := by
  unfold rngL
  exact List.map_congr_left fun k _ => by rw [Int.zero_add]
theorem rng_if {n : Nat} (hn : n < 1000000) (M : Store) : (if -lim ≤ (n : Int) ∧ (n : Int) < lim then Out.ok (rngL 0 (n : Int).toNat, ([] : List (Nat × List PV))) M else .fail) = .ok ((List.range n).map (fun (k : Nat) => PV.int (k : Int)), []) M := by
  rw [if_pos ⟨lim_lo n, lim_hi hn⟩, Int.toNat_natCast, rngL_eq]
theorem e_rng {w : Wld} {a : E} {σ : Env} {M : Store} {n : Nat} (h : denE w a σ M = .ok (.int (n : Int)) M) (hn : n < 1000000) : denIt w (.rng a) σ M = .ok ((List.range n).map (fun (k : Nat) => PV.int (k : Int)), []) M := by
  rw [denIt, h, Out.bind]
  exact rng_if hn M
def isExn : PV → Bool
  | .exn _ _ => true
  | _ => false
theorem e_var {w : Wld} {i : Nat} {σ : Env} {M : Store} {v : PV} (h : σ[i]? = some (some v)) (hn : isExn v = false) : denE w (.var i) σ M = .ok v M := by
  unfold denE
  rw [h]
  cases v <;> first | rfl | cases hn
/-- places in a row -/
def lcs (m n : Nat) : List PV := (List.range n).map fun (i : Nat) => PV.loc (m + i)
theorem lcs_at {m n i : Nat} (h : i < n) : (lcs m n)[i]? = some (.loc (m + i)) := by
  unfold lcs
  rw [List.getElem?_map, List.getElem?_range h]; rfl
theorem lcs_len {m n : Nat} : (lcs m n).length = n := by
  unfold lcs
  rw [List.length_map, List.length_range]
/-- [elt for t in it], where each turn makes one list -/
theorem lc_alloc {w : Wld} {own : List Nat} {t : T} {it : It} {elt : E} {σ : Env} {M : Store} {k : Wk} {ob : PV → PO} (hi : denIt w it σ M = .ok k M) (hs : k.2 = []) (hl : k.1.length ≤ cap) (h0 : k.1 ≠ [])
    (h : ∀ x ∈ k.1, ∀ N, ∃ σ₂, denT w t x (wipe σ own) (M ++ N) = .ok σ₂ (M ++ N) ∧ denE w elt σ₂ (M ++ N) = .ok (.loc (M.length + N.length)) (M ++ (N ++ [ob x]))) :
    denE w (.lc own t it (.cst (.bl true)) elt) σ M = .ok (.loc (M.length + k.1.length)) (M ++ (k.1.map ob ++ [.lst (lcs M.length k.1.length)])) := by
  unfold denE
  rw [hi]
  show gc M (Out.calm ((lpGo (fun v σ M => denT w t v (wipe σ own) M) (lcB (fun σ M => denE w (.cst (.bl true)) σ M) (fun σ M => denE w elt σ M)) k.2 σ k.1 [] M).bind fun acc M => .ok (.loc M.length) (M ++ [.lst acc]))) = _
  have e := lpGo_alloc (bt := fun v σ M => denT w t v (wipe σ own) M) (elt := fun σ M => denE w elt σ M) (σ := σ) (M := M) (ob := ob) k.1 [] [] (by simpa using hl) h
  rw [List.append_nil, List.nil_append, List.nil_append] at e
  rw [hs]
  have e' : lpGo (fun v σ M => denT w t v (wipe σ own) M) (lcB (fun σ M => denE w (.cst (.bl true)) σ M) (fun σ M => denE w elt σ M)) [] σ k.1 [] M = .ok (lcs M.length k.1.length) (M ++ k.1.map ob) := e
  rw [e']
  show gc M (.ok (.loc (M ++ k.1.map ob).length) (M ++ k.1.map ob ++ [.lst (lcs M.length k.1.length)])) = _
  rw [List.append_assoc, List.length_append, List.length_map]
  have hp : 0 < k.1.length := List.length_pos_iff.mpr h0
  unfold gc
  dsimp only
  have c : ¬ (M ++ (k.1.map ob ++ [PO.lst (lcs M.length k.1.length)])).length ≤ M.length := by rw [List.length_append, List.length_append, List.length_map, List.length_singleton]; omega
  have u : ¬ PV.under M.length (.loc (M.length + k.1.length)) = true := by
    show ¬ decide (M.length + k.1.length < M.length) = true
    rw [decide_eq_true_eq]; omega
  have a : (M ++ (k.1.map ob ++ [PO.lst (lcs M.length k.1.length)]))[M.length + k.1.length]? = some (.lst (lcs M.length k.1.length)) := by
    rw [List.getElem?_append_right (Nat.le_add_right _ _), List.getElem?_append_right (by rw [List.length_map]; omega), List.length_map]
    rw [show M.length + k.1.length - M.length - k.1.length = 0 by omega]; rfl
  have u2 : ¬ PO.under M.length (.lst (lcs M.length k.1.length)) = true := by
    cases q : k.1.length with
    | zero => omega
    | succ n =>
      unfold lcs
      rw [List.range_succ_eq_map]
      show ¬ (decide (M.length + 0 < M.length) && _) = true
      rw [decide_eq_false (by omega)]
      exact Bool.false_ne_true
  rw [if_neg c, List.take_append_of_le_length (Nat.le_refl _), List.take_length, if_pos (.inl rfl), if_neg u, a]
  dsimp only
  rw [if_neg u2]
/-- turns that change the store -/
theorem lpGo_inv {bt : PV → Env → Store → Out Env} {elt : Env → Store → Out PV} {ws : List (Nat × List PV)} {σ : Env} (I : Store → Prop) (Q : PV → Prop) (hst : ∀ M, I M → still ws M = true) : ∀ (xs acc : List PV) (M : Store), acc.length + xs.length ≤ cap → I M →
    (∀ x ∈ xs, ∀ M, I M → ∃ σ₂ M2 M3 v, bt x σ M = .ok σ₂ M2 ∧ elt σ₂ M2 = .ok v M3 ∧ I M3 ∧ Q v) →
    ∃ ys M', lpGo bt (lcB (fun _ M => .ok (.bl true) M) elt) ws σ xs acc M = .ok (acc ++ ys) M' ∧ I M' ∧ ys.length = xs.length ∧ ∀ y ∈ ys, Q y
  | [], acc, M, _, h0, _ => by
    refine ⟨[], M, ?_, h0, rfl, fun y hy => by cases hy⟩
    unfold lpGo
    rw [if_pos (hst M h0), List.append_nil]
  | x :: xs, acc, M, hl, h0, h => by
    rw [List.length_cons] at hl
    obtain ⟨σ₂, M2, M3, v, h1, h2, h3, h4⟩ := h x List.mem_cons_self M h0
    obtain ⟨ys, M', e, i, l, q⟩ := lpGo_inv I Q hst xs (acc ++ [v]) M3 (by rw [List.length_append, List.length_singleton]; omega) h3 fun y hy => h y (List.mem_cons_of_mem _ hy)
    refine ⟨v :: ys, M', ?_, i, by rw [List.length_cons, List.length_cons, l], fun y hy => ?_⟩
    · unfold lpGo
      rw [if_pos (hst M h0), h1]
      show ((elt σ₂ M2).bind fun v M => if acc.length < cap then Out.ok (acc ++ [v]) M else .fail).bind _ = _
      rw [h2]
      show (if acc.length < cap then Out.ok (acc ++ [v]) M3 else .fail).bind _ = _
      rw [if_pos (by omega)]
      show lpGo bt _ ws σ xs (acc ++ [v]) M3 = _
      rw [e, List.append_assoc]; rfl
    · rcases List.mem_cons.mp hy with e | e
      · rw [e]; exact h4
      · exact q y e
theorem lc_inv {w : Wld} {own : List Nat} {t : T} {it : It} {elt : E} {σ : Env} {M M1 : Store} {k : Wk} (I : Store → Prop) (Q : PV → Prop) (hi : denIt w it σ M = .ok k M1) (h0 : I M1) (hst : ∀ M, I M → still k.2 M = true) (hl : k.1.length ≤ cap)
    (h : ∀ x ∈ k.1, ∀ M, I M → ∃ σ₂ M2 M3 v, denT w t x (wipe σ own) M = .ok σ₂ M2 ∧ denE w elt σ₂ M2 = .ok v M3 ∧ I M3 ∧ Q v) :
    ∃ ys M2, denE w (.lc own t it (.cst (.bl true)) elt) σ M = gc M (.ok (.loc M2.length) (M2 ++ [.lst ys])) ∧ I M2 ∧ ys.length = k.1.length ∧ ∀ y ∈ ys, Q y := by
  obtain ⟨ys, M', e, i, l, q⟩ := lpGo_inv (bt := fun v σ M => denT w t v (wipe σ own) M) (elt := fun σ M => denE w elt σ M) (σ := σ) I Q hst k.1 [] M1 (by simpa using hl) h0 h
  refine ⟨ys, M', ?_, i, l, q⟩
  unfold denE
  rw [hi]
  have e' : lpGo (fun v σ M => denT w t v (wipe σ own) M) (lcB (fun σ M => denE w (.cst (.bl true)) σ M) (fun σ M => denE w elt σ M)) k.2 σ k.1 [] M1 = .ok ys M' := e
  show gc M (Out.calm ((lpGo (fun v σ M => denT w t v (wipe σ own) M) (lcB (fun σ M => denE w (.cst (.bl true)) σ M) (fun σ M => denE w elt σ M)) k.2 σ k.1 [] M1).bind fun acc M => .ok (.loc M.length) (M ++ [.lst acc]))) = _
  rw [e']; rfl
theorem isInts_ints : ∀ xs : List Int, isInts (xs.map .int) = true
  | [] => rfl
  | x :: xs => isInts_ints xs
theorem intOf_map (xs : List Int) : (xs.map PV.int).map intOf = xs := by
  rw [List.map_map]
  exact (List.map_congr_left fun _ _ => rfl).trans (List.map_id _)
theorem foldMx_mem {lt : PV → PV → Bool} : ∀ (xs : List PV) (x : PV), foldMx lt x xs ∈ x :: xs
  | [], x => List.mem_singleton.mpr rfl
  | y :: r, x => by
    unfold foldMx
    have h := foldMx_mem (lt := lt) r (if lt x y = true then y else x)
    rcases List.mem_cons.mp h with e | e
    · rw [e]
      split
      · exact List.mem_cons_of_mem _ List.mem_cons_self
      · exact List.mem_cons_self
    · exact List.mem_cons_of_mem _ (List.mem_cons_of_mem _ e)
/-- places of ints -/
theorem ints_of {ys : List PV} {Q : Int → Prop} : (∀ y ∈ ys, ∃ i, y = .int i ∧ Q i) → ∃ zs : List Int, ys = zs.map .int ∧ ∀ z ∈ zs, Q z := by
  induction ys with
  | nil => exact fun _ => ⟨[], rfl, fun z hz => by cases hz⟩
  | cons y ys ih =>
    intro h
    obtain ⟨i, rfl, q⟩ := h y List.mem_cons_self
    obtain ⟨zs, rfl, qs⟩ := ih fun y hy => h y (List.mem_cons_of_mem _ hy)
    exact ⟨i :: zs, rfl, fun z hz => by
      rcases List.mem_cons.mp hz with e | e
      · rw [e]; exact q
      · exact qs z e⟩
theorem e_callG {w : Wld} {f : Str} {es : Es} {σ : Env} {M M1 M2 : Store} {vs : List PV} {u : PV} (h : denEs w es σ M = .ok vs M1) (hc : w.call f vs M1 = .ok u M2) : denE w (.call f es) σ M = gc M (.ok u M2) := by
  unfold denE
  rw [h]
  show gc M (w.call f vs M1) = _
  rw [hc]
theorem e_biG {w : Wld} {k : Bi} {es : Es} {σ : Env} {M M1 M2 : Store} {vs : List PV} {u : PV} (h : denEs w es σ M = .ok vs M1) (hc : biV k vs M1 = .ok u M2) : denE w (.bi k es) σ M = gc M (.ok u M2) := by
  unfold denE
  rw [h]
  show gc M (biV k vs M1) = _
  rw [hc]
theorem e_binG {w : Wld} {o : Bop} {a b : E} {σ : Env} {M M1 M2 M3 : Store} {u v t : PV} (h1 : denE w a σ M = .ok u M1) (h2 : denE w b σ M1 = .ok v M2) (h : bopV o u v M2 = .ok t M3) : denE w (.bin o a b) σ M = .ok t M3 := by
  unfold denE
  rw [h1]
  show (denE w b σ M1).bind _ = _
  rw [h2]
  exact h
theorem es_consG {w : Wld} {a : E} {es : Es} {σ : Env} {M M1 M2 : Store} {vs : List PV} {u : PV} (h1 : denE w a σ M = .ok u M1) (h2 : denEs w es σ M1 = .ok vs M2) : denEs w (.cons a es) σ M = .ok (u :: vs) M2 := by
  rw [denEs, h1, Out.bind, h2]; rfl
theorem e_rngG {w : Wld} {a : E} {σ : Env} {M M1 : Store} {n : Nat} (h : denE w a σ M = .ok (.int (n : Int)) M1) (hn : n < 1000000) : denIt w (.rng a) σ M = .ok ((List.range n).map (fun (k : Nat) => PV.int (k : Int)), []) M1 := by
  rw [denIt, h, Out.bind]
  exact rng_if hn M1
end Mini

namespace Lawk05
open PySem PySem.Spec PyProof.Rows L2 Mini
def body : List Stmt := PySem.Challenge.pw_littleroom_k05_whole_lifts_listed.main.body
def top (i : Nat) : Stmt := body.getD i (.Pass ⟨0, 0, 0, 0⟩)
def S : Sig where
  fns := [("is_integer", 1), ("is_within", 3), ("check_yard", 1), ("is_pile", 2), ("stands", 2), ("check_stacking", 2), ("is_stack", 2), ("goes", 3), ("behind", 2), ("is_lift", 3), ("lifted", 3), ("all_going", 2), ("lifts", 2), ("_law_hand", 1), ("_law_draw", 2), ("_law_any", 2), ("_law_mixed", 2), ("_law_same", 2), ("_law_case", 3), ("_law_lifts", 2), ("_law_behind", 2), ("_law_told", 3), ("_law_are_listed", 3), ("law", 1)]
  clss := [("Yard", 1)]
  excs := ["RoomFault", "BadLift", "BadStacking", "NoYard"]
  exall := ["RoomFault", "BadLift", "BadStacking", "BadYard", "NoYard"]
  attrs := [("heights", ["Yard"])]
  gis := [("MOST_STACKS", (.int (8))), ("MOST_HEIGHT", (.int (9))), ("MOST_THING", (.int (99)))]
  free := ["len", "sum", "max", "min", "all", "any", "abs", "int", "tuple", "list", "isinstance", "range", "enumerate", "zip", "bool", "str", "dict", "sorted", "set", "repr"]
def c_is_integer : Def := ⟨1, 1,
 (.cons (.ret (.and (.isi (.var 0) ["Yard"] [.int]) (.not (.isi (.var 0) ["Yard"] [.bool])))) .nil)⟩
def c_is_within : Def := ⟨3, 3,
 (.cons (.ret (.and (.call "is_integer" (.cons (.var 0) .nil)) (.chn .le .le (.var 1) (.var 0) (.var 2)))) .nil)⟩
def c_Yard___init__ : Def := ⟨2, 4,
 (.cons (.ife (.or (.not (.isi (.var 1) ["Yard"] [.tuple])) (.cmp .eq (.bi .len (.cons (.var 1) .nil)) (.cst (.int (0))))) (.cons (.expr .bad) .nil) .nil) (.cons (.fo (.tup (.cons (.nm 2) (.cons (.nm 3) .nil))) (.enm (.var 1)) (.cons (.ife (.or (.cmp .ge (.var 2) (.glo "MOST_STACKS")) (.not (.call "is_within" (.cons (.var 3) (.cons (.cst (.int (1))) (.cons (.glo "MOST_HEIGHT") .nil)))))) (.cons (.expr .bad) .nil) .nil) .nil)) (.cons (.asg (.fl (.var 0) ["Yard"] "heights") (.var 1)) .nil)))⟩
def c_check_yard : Def := ⟨1, 1,
 (.cons (.ife (.not (.isi (.var 0) ["Yard"] [(.cls "Yard")])) (.cons (.rais "NoYard" .nil) .nil) .nil) .nil)⟩
def c_is_pile : Def := ⟨2, 4,
 (.cons (.ife (.or (.not (.isi (.var 0) ["Yard"] [.tuple])) (.cmp .gt (.bi .len (.cons (.var 0) .nil)) (.var 1))) (.cons (.ret (.cst (.bl false))) .nil) .nil) (.cons (.ret (.bi .all (.cons (.lc [2, 3] (.nm 3) (.seq (.var 0)) (.cst (.bl true)) (.call "is_within" (.cons (.var 3) (.cons (.cst (.int (0))) (.cons (.glo "MOST_THING") .nil))))) .nil))) .nil))⟩
def c_stands : Def := ⟨2, 5,
 (.cons (.ife (.or (.not (.isi (.var 1) ["Yard"] [.tuple])) (.cmp .ne (.bi .len (.cons (.var 1) .nil)) (.bi .len (.cons (.var 0) .nil)))) (.cons (.ret (.cst (.bl false))) .nil) .nil) (.cons (.ret (.bi .all (.cons (.lc [2, 3, 4] (.tup (.cons (.nm 3) (.cons (.nm 4) .nil))) (.zip (.var 1) (.var 0)) (.cst (.bl true)) (.call "is_pile" (.cons (.var 3) (.cons (.var 4) .nil)))) .nil))) .nil))⟩
def c_check_stacking : Def := ⟨2, 2,
 (.cons (.expr (.call "check_yard" (.cons (.var 0) .nil))) (.cons (.ife (.not (.call "stands" (.cons (.fld (.var 0) ["Yard"] "heights") (.cons (.var 1) .nil)))) (.cons (.rais "BadStacking" .nil) .nil) .nil) .nil))⟩
def c_is_stack : Def := ⟨2, 2,
 (.cons (.ret (.call "is_within" (.cons (.var 1) (.cons (.cst (.int (0))) (.cons (.bin .sub (.bi .len (.cons (.var 0) .nil)) (.cst (.int (1)))) .nil))))) .nil)⟩
def c_goes : Def := ⟨3, 7,
 (.cons (.ife (.or (.not (.isi (.var 2) ["Yard"] [.tuple])) (.or (.cmp .ne (.bi .len (.cons (.var 2) .nil)) (.cst (.int (2)))) (.not (.bi .all (.cons (.lc [5, 6] (.nm 6) (.seq (.var 2)) (.cst (.bl true)) (.call "is_stack" (.cons (.var 0) (.cons (.var 6) .nil)))) .nil))))) (.cons (.ret (.cst (.bl false))) .nil) .nil) (.cons (.asg (.tup (.cons (.nm 3) (.cons (.nm 4) .nil))) (.var 2)) (.cons (.ret (.and (.cmp .ne (.var 3) (.var 4)) (.and (.cmp .gt (.bi .len (.cons (.ix (.var 1) (.var 3)) .nil)) (.cst (.int (0)))) (.cmp .lt (.bi .len (.cons (.ix (.var 1) (.var 4)) .nil)) (.ix (.var 0) (.var 4)))))) .nil)))⟩
def c_behind : Def := ⟨2, 5,
 (.cons (.asg (.tup (.cons (.nm 2) (.cons (.nm 3) .nil))) (.var 1)) (.cons (.asg (.nm 4) (.bi .list (.cons (.var 0) .nil))) (.cons (.asg (.ix (.var 4) (.var 3)) (.bin .add (.ix (.var 0) (.var 3)) (.slL (.ix (.var 0) (.var 2)) (.neg (.cst (.int (1))))))) (.cons (.asg (.ix (.var 4) (.var 2)) (.slH (.ix (.var 0) (.var 2)) (.neg (.cst (.int (1)))))) (.cons (.ret (.bi .tuple (.cons (.var 4) .nil))) .nil)))))⟩
def c_is_lift : Def := ⟨3, 3,
 (.cons (.expr (.call "check_stacking" (.cons (.var 0) (.cons (.var 1) .nil)))) (.cons (.ret (.call "goes" (.cons (.fld (.var 0) ["Yard"] "heights") (.cons (.var 1) (.cons (.var 2) .nil))))) .nil))⟩
def c_lifted : Def := ⟨3, 3,
 (.cons (.expr (.call "check_stacking" (.cons (.var 0) (.cons (.var 1) .nil)))) (.cons (.ife (.not (.call "goes" (.cons (.fld (.var 0) ["Yard"] "heights") (.cons (.var 1) (.cons (.var 2) .nil))))) (.cons (.rais "BadLift" .nil) .nil) .nil) (.cons (.ret (.call "behind" (.cons (.var 1) (.cons (.var 2) .nil)))) .nil)))⟩
def c_all_going : Def := ⟨2, 6,
 (.cons (.asg (.nm 2) (.bi .len (.cons (.var 0) .nil))) (.cons (.ret (.lc2 [3, 4, 5] (.nm 4) (.rng (.var 2)) (.cst (.bl true)) [5] (.nm 5) (.rng (.var 2)) (.call "goes" (.cons (.var 0) (.cons (.var 1) (.cons (.tup (.cons (.var 4) (.cons (.var 5) .nil))) .nil)))) (.tup (.cons (.var 4) (.cons (.var 5) .nil))))) .nil))⟩
def c_lifts : Def := ⟨2, 2,
 (.cons (.expr (.call "check_stacking" (.cons (.var 0) (.cons (.var 1) .nil)))) (.cons (.ret (.call "all_going" (.cons (.fld (.var 0) ["Yard"] "heights") (.cons (.var 1) .nil)))) .nil))⟩
def c__law_hand : Def := ⟨1, 4,
 (.cons (.asg (.nm 1) (.lc [2, 3] (.nm 3) (.seq (.slH (.var 0) (.cst (.int (63))))) (.cst (.bl true)) (.bi .abs (.cons (.bi .int (.cons (.var 3) .nil)) .nil)))) (.cons (.ret (.lst (.cons (.var 1) (.cons (.cst (.int (0))) (.cons (.cst (.int (0))) (.cons (.bin .add (.cst (.int (67))) (.bin .mul (.cst (.int (5))) (.bi .len (.cons (.var 1) .nil)))) (.cons (.cst (.int (0))) .nil))))))) .nil))⟩
def c__law_draw : Def := ⟨2, 5,
 (.cons (.ife (.and (.cmp .eq (.ix (.var 0) (.cst (.int (2)))) (.cst (.int (0)))) (.cmp .lt (.ix (.var 0) (.cst (.int (1)))) (.bi .len (.cons (.ix (.var 0) (.cst (.int (0)))) .nil)))) (.cons (.asg (.nm 2) (.ix (.ix (.var 0) (.cst (.int (0)))) (.ix (.var 0) (.cst (.int (1)))))) (.cons (.asg (.ix (.var 0) (.cst (.int (1)))) (.bin .add (.ix (.var 0) (.cst (.int (1)))) (.cst (.int (1))))) (.cons (.asg (.ix (.var 0) (.cst (.int (3)))) (.bin .mod (.bi .int (.cons (.bin .add (.bin .add (.bin .mul (.ix (.var 0) (.cst (.int (3)))) (.cst (.int (69621)))) (.bin .mul (.var 2) (.cst (.int (40692))))) (.cst (.int (37)))) .nil)) (.cst (.int (2147483629))))) (.cons (.ife (.cmp .ge (.var 2) (.bin .pow (.cst (.int (10))) (.cst (.int (18))))) (.cons (.asg (.ix (.var 0) (.cst (.int (2)))) (.var 2)) .nil) .nil) .nil)))) .nil) (.cons (.ife (.cmp .gt (.ix (.var 0) (.cst (.int (2)))) (.cst (.int (0)))) (.cons (.asg (.nm 3) (.bin .mod (.bi .int (.cons (.ix (.var 0) (.cst (.int (2)))) .nil)) (.var 1))) (.cons (.asg (.ix (.var 0) (.cst (.int (2)))) (.bin .fdiv (.ix (.var 0) (.cst (.int (2)))) (.var 1))) (.cons (.ret (.var 3)) .nil))) .nil) (.cons (.asg (.ix (.var 0) (.cst (.int (4)))) (.bin .add (.ix (.var 0) (.cst (.int (4)))) (.cst (.int (1))))) (.cons (.asg (.nm 4) (.bin .mod (.bi .int (.cons (.bin .mul (.bi .int (.cons (.bin .add (.ix (.var 0) (.cst (.int (3)))) (.bin .mul (.cst (.int (7919))) (.ix (.var 0) (.cst (.int (4)))))) .nil)) (.cst (.int (48271)))) .nil)) (.cst (.int (2147483647))))) (.cons (.asg (.nm 4) (.bin .mod (.bi .int (.cons (.bin .mul (.var 4) (.bin .add (.bin .fdiv (.var 4) (.cst (.int (1009)))) (.cst (.int (69621))))) .nil)) (.cst (.int (2147483647))))) (.cons (.asg (.nm 4) (.bin .mod (.bi .int (.cons (.bin .mul (.var 4) (.bin .add (.bin .fdiv (.var 4) (.cst (.int (2003)))) (.cst (.int (40014))))) .nil)) (.cst (.int (2147483563))))) (.cons (.ret (.bin .mod (.bi .int (.cons (.bin .fdiv (.var 4) (.cst (.int (16)))) .nil)) (.var 1))) .nil)))))))⟩
def c__law_any : Def := ⟨2, 2,
 (.cons (.ret (.ix (.var 1) (.call "_law_draw" (.cons (.var 0) (.cons (.bi .len (.cons (.var 1) .nil)) .nil))))) .nil)⟩
def c__law_mixed : Def := ⟨2, 4,
 (.cons (.par [2, 3] (.cons (.bi .list (.cons (.var 1) .nil)) (.cons (.lst .nil) .nil))) (.cons (.whl (.cmp .gt (.bi .len (.cons (.var 2) .nil)) (.cst (.int (0)))) (.cons (.expr (.mt .append (.var 3) (.cons (.mt .popAt (.var 2) (.cons (.call "_law_draw" (.cons (.var 0) (.cons (.bi .len (.cons (.var 2) .nil)) .nil))) .nil)) .nil))) .nil)) (.cons (.ret (.var 3)) .nil)))⟩
def c__law_same : Def := ⟨2, 5,
 (.cons (.ife (.isi (.var 1) ["Yard"] [.tuple, .list]) (.cons (.ife (.or (.cmp .ne (.isi (.var 0) ["Yard"] [.tuple]) (.isi (.var 1) ["Yard"] [.tuple])) (.not (.isi (.var 0) ["Yard"] [.tuple, .list]))) (.cons (.ret (.cst (.bl false))) .nil) .nil) (.cons (.ret (.and (.cmp .eq (.bi .len (.cons (.var 0) .nil)) (.bi .len (.cons (.var 1) .nil))) (.bi .all (.cons (.lc [2, 3, 4] (.tup (.cons (.nm 3) (.cons (.nm 4) .nil))) (.zip (.var 0) (.var 1)) (.cst (.bl true)) (.call "_law_same" (.cons (.var 3) (.cons (.var 4) .nil)))) .nil)))) .nil)) .nil) (.cons (.ife (.or (.isi (.var 1) ["Yard"] [.bool]) (.or (.isi (.var 0) ["Yard"] [.bool]) (.or (.cmp .is (.var 1) (.cst .non)) (.cmp .is (.var 0) (.cst .non))))) (.cons (.ret (.and (.cmp .eq (.isi (.var 0) ["Yard"] [.bool]) (.isi (.var 1) ["Yard"] [.bool])) (.and (.cmp .eq (.cmp .is (.var 0) (.cst .non)) (.cmp .is (.var 1) (.cst .non))) (.cmp .eq (.var 0) (.var 1))))) .nil) .nil) (.cons (.ret (.and (.cmp .eq (.isi (.var 0) ["Yard"] [.str]) (.isi (.var 1) ["Yard"] [.str])) (.and (.isi (.var 0) ["Yard"] [.int, .str]) (.cmp .eq (.var 0) (.var 1))))) .nil)))⟩
def c__law_case : Def := ⟨3, 15,
 (.cons (.asg (.nm 3) (.bi .tuple (.cons (.lc [11, 12] (.nm 12) (.rng (.bin .add (.cst (.int (1))) (.call "_law_draw" (.cons (.var 0) (.cons (.var 1) .nil))))) (.cst (.bl true)) (.bin .add (.cst (.int (1))) (.call "_law_draw" (.cons (.var 0) (.cons (.var 2) .nil))))) .nil))) (.cons (.par [4, 5] (.cons (.bi .sum (.cons (.var 3) .nil)) (.cons (.bi .max (.cons (.var 3) .nil)) .nil))) (.cons (.asg (.nm 6) (.bi .min2 (.cons (.var 4) (.cons (.call "_law_any" (.cons (.var 0) (.cons (.lst (.cons (.cst (.int (0))) (.cons (.cst (.int (1))) (.cons (.cst (.int (1))) (.cons (.cst (.int (2))) (.cons (.cst (.int (2))) (.cons (.cst (.int (3))) (.cons (.var 5) (.cons (.bin .sub (.var 5) (.cst (.int (1)))) (.cons (.call "_law_draw" (.cons (.var 0) (.cons (.bin .add (.var 4) (.cst (.int (1)))) .nil))) .nil)))))))))) .nil))) .nil)))) (.cons (.asg (.nm 7) (.call "_law_draw" (.cons (.var 0) (.cons (.bin .add (.bin .sub (.cst (.int (101))) (.var 4)) (.var 6)) .nil)))) (.cons (.asg (.nm 8) (.call "_law_mixed" (.cons (.var 0) (.cons (.lc [11, 13] (.nm 13) (.rng (.bin .sub (.var 4) (.var 6))) (.cst (.bl true)) (.bin .add (.var 7) (.var 13))) .nil)))) (.cons (.ife (.cmp .eq (.call "_law_draw" (.cons (.var 0) (.cons (.cst (.int (4))) .nil))) (.cst (.int (0)))) (.cons (.asg (.nm 8) (.lc [11, 9] (.nm 9) (.seq (.var 8)) (.cst (.bl true)) (.bin .mul (.cst (.int (33))) (.call "_law_draw" (.cons (.var 0) (.cons (.cst (.int (4))) .nil)))))) .nil) .nil) (.cons (.ife (.and (.cmp .eq (.call "_law_draw" (.cons (.var 0) (.cons (.cst (.int (4))) .nil))) (.cst (.int (0)))) (.cmp .gt (.bi .len (.cons (.var 8) .nil)) (.cst (.int (1))))) (.cons (.asg (.ix (.var 8) (.call "_law_draw" (.cons (.var 0) (.cons (.bi .len (.cons (.var 8) .nil)) .nil)))) (.ix (.var 8) (.call "_law_draw" (.cons (.var 0) (.cons (.bi .len (.cons (.var 8) .nil)) .nil))))) .nil) .nil) (.cons (.asg (.nm 10) (.lc [11, 12] (.nm 12) (.seq (.var 3)) (.cst (.bl true)) (.lst .nil))) (.cons (.fo (.nm 9) (.seq (.var 8)) (.cons (.expr (.mt .append (.ix (.var 10) (.call "_law_any" (.cons (.var 0) (.cons (.lc [11, 13, 14] (.tup (.cons (.nm 13) (.cons (.nm 14) .nil))) (.enm (.var 10)) (.cmp .lt (.bi .len (.cons (.var 14) .nil)) (.ix (.var 3) (.var 13))) (.var 13)) .nil)))) (.cons (.var 9) .nil))) .nil)) (.cons (.ret (.lst (.cons (.var 3) (.cons (.bi .tuple (.cons (.lc [11, 14] (.nm 14) (.seq (.var 10)) (.cst (.bl true)) (.bi .tuple (.cons (.var 14) .nil))) .nil)) .nil)))) .nil))))))))))⟩
def c__law_lifts : Def := ⟨2, 8,
 (.cons (.asg (.nm 2) (.lst .nil)) (.cons (.fo (.tup (.cons (.nm 3) (.cons (.nm 4) .nil))) (.enm (.var 1)) (.cons (.ife (.cmp .gt (.bi .len (.cons (.var 4) .nil)) (.cst (.int (0)))) (.cons (.expr (.mt .extend (.var 2) (.cons (.lc [5, 6, 7] (.tup (.cons (.nm 6) (.cons (.nm 7) .nil))) (.enm (.var 1)) (.and (.cmp .ne (.var 6) (.var 3)) (.cmp .lt (.bi .len (.cons (.var 7) .nil)) (.ix (.var 0) (.var 6)))) (.tup (.cons (.var 3) (.cons (.var 6) .nil)))) .nil))) .nil) .nil) .nil)) (.cons (.ret (.var 2)) .nil)))⟩
def c__law_behind : Def := ⟨2, 6,
 (.cons (.asg (.nm 2) (.lc [4, 5] (.nm 5) (.seq (.var 0)) (.cst (.bl true)) (.bi .list (.cons (.var 5) .nil)))) (.cons (.asg (.nm 3) (.mt .pop (.ix (.var 2) (.ix (.var 1) (.cst (.int (0))))) .nil)) (.cons (.expr (.mt .append (.ix (.var 2) (.ix (.var 1) (.cst (.int (1))))) (.cons (.var 3) .nil))) (.cons (.ret (.bi .tuple (.cons (.lc [4, 5] (.nm 5) (.seq (.var 2)) (.cst (.bl true)) (.bi .tuple (.cons (.var 5) .nil))) .nil))) .nil))))⟩
def c__law_told : Def := ⟨3, 5,
 (.cons (.asg (.nm 3) (.cst .non)) (.cons (.tri (.cons (.asg (.nm 3) (.tup (.cons (.cst (.str "told")) (.cons (.call "lifted" (.cons (.var 0) (.cons (.var 1) (.cons (.var 2) .nil)))) .nil)))) .nil) ["RoomFault", "BadLift", "BadStacking", "BadYard", "NoYard"] "BadLift" (some 4) (.cons (.asg (.nm 3) (.tup (.cons (.cst (.str "refused")) (.cons (.exi 4 ["RoomFault", "BadLift", "BadStacking", "BadYard", "NoYard"] "RoomFault") .nil)))) .nil)) (.cons (.ret (.var 3)) .nil)))⟩
def c__law_are_listed : Def := ⟨3, 12,
 (.cons (.par [3, 4] (.cons (.new "Yard" (.cons (.var 1) .nil)) (.cons (.call "_law_lifts" (.cons (.var 1) (.cons (.var 2) .nil))) .nil))) (.cons (.asg (.nm 5) (.call "lifts" (.cons (.var 3) (.cons (.var 2) .nil)))) (.cons (.ife (.not (.call "_law_same" (.cons (.var 5) (.cons (.var 4) .nil)))) (.cons (.ret (.cst (.bl false))) .nil) .nil) (.cons (.expr (.mt .append (.var 5) (.cons (.cst .non) .nil))) (.cons (.fo (.nm 6) (.rng (.bi .len (.cons (.var 1) .nil))) (.cons (.fo (.nm 7) (.rng (.bi .len (.cons (.var 1) .nil))) (.cons (.asg (.nm 8) (.cmp .isin (.tup (.cons (.var 6) (.cons (.var 7) .nil))) (.var 4))) (.cons (.ife (.not (.call "_law_same" (.cons (.call "is_lift" (.cons (.var 3) (.cons (.var 2) (.cons (.tup (.cons (.var 6) (.cons (.var 7) .nil))) .nil)))) (.cons (.var 8) .nil)))) (.cons (.ret (.cst (.bl false))) .nil) .nil) (.cons (.asg (.nm 9) (.ife (.var 8) (.tup (.cons (.cst (.str "told")) (.cons (.call "_law_behind" (.cons (.var 2) (.cons (.tup (.cons (.var 6) (.cons (.var 7) .nil))) .nil))) .nil))) (.tup (.cons (.cst (.str "refused")) (.cons (.cst (.bl true)) .nil))))) (.cons (.ife (.not (.call "_law_same" (.cons (.call "_law_told" (.cons (.var 3) (.cons (.var 2) (.cons (.tup (.cons (.var 6) (.cons (.var 7) .nil))) .nil)))) (.cons (.var 9) .nil)))) (.cons (.ret (.cst (.bl false))) .nil) .nil) .nil))))) .nil)) (.cons (.fo (.nm 10) (.rng (.ife (.cmp .gt (.bi .len (.cons (.var 4) .nil)) (.cst (.int (0)))) (.cst (.int (4))) (.cst (.int (0))))) (.cons (.asg (.tup (.cons (.nm 6) (.cons (.nm 7) .nil))) (.call "_law_any" (.cons (.var 0) (.cons (.var 4) .nil)))) (.cons (.asg (.nm 11) (.call "_law_behind" (.cons (.var 2) (.cons (.tup (.cons (.var 6) (.cons (.var 7) .nil))) .nil)))) (.cons (.ife (.or (.cmp .isnt (.call "is_lift" (.cons (.var 3) (.cons (.var 11) (.cons (.tup (.cons (.var 7) (.cons (.var 6) .nil))) .nil)))) (.cst (.bl true))) (.not (.call "_law_same" (.cons (.call "lifted" (.cons (.var 3) (.cons (.var 11) (.cons (.tup (.cons (.var 7) (.cons (.var 6) .nil))) .nil)))) (.cons (.var 2) .nil))))) (.cons (.ret (.cst (.bl false))) .nil) .nil) (.cons (.ife (.not (.call "_law_same" (.cons (.call "lifts" (.cons (.var 3) (.cons (.var 11) .nil))) (.cons (.call "_law_lifts" (.cons (.var 1) (.cons (.var 11) .nil))) .nil)))) (.cons (.ret (.cst (.bl false))) .nil) .nil) .nil))))) (.cons (.ret (.call "_law_same" (.cons (.call "lifts" (.cons (.var 3) (.cons (.var 2) .nil))) (.cons (.var 4) .nil)))) .nil)))))))⟩
def c_law : Def := ⟨1, 7,
 (.cons (.asg (.nm 1) (.call "_law_hand" (.cons (.var 0) .nil))) (.cons (.fo (.tup (.cons (.nm 2) (.cons (.nm 3) .nil))) (.seq (.lst (.cons (.tup (.cons (.cst (.int (8))) (.cons (.cst (.int (9))) .nil))) (.cons (.tup (.cons (.cst (.int (3))) (.cons (.cst (.int (3))) .nil))) (.cons (.tup (.cons (.cst (.int (8))) (.cons (.cst (.int (2))) .nil))) .nil))))) (.cons (.asg (.tup (.cons (.nm 4) (.cons (.nm 5) .nil))) (.call "_law_case" (.cons (.var 1) (.cons (.var 2) (.cons (.var 3) .nil))))) (.cons (.ife (.not (.call "_law_are_listed" (.cons (.var 1) (.cons (.var 4) (.cons (.var 5) .nil))))) (.cons (.ret (.cst (.bl false))) .nil) .nil) .nil))) (.cons (.asg (.nm 6) (.new "Yard" (.cons (.tup (.cons (.cst (.int (3))) (.cons (.cst (.int (2))) (.cons (.cst (.int (2))) .nil)))) .nil))) (.cons (.ife (.not (.call "_law_same" (.cons (.call "lifts" (.cons (.var 6) (.cons (.tup (.cons (.tup (.cons (.cst (.int (1))) (.cons (.cst (.int (2))) .nil))) (.cons (.tup (.cons (.cst (.int (3))) .nil)) (.cons (.tup (.cons (.cst (.int (4))) (.cons (.cst (.int (5))) .nil))) .nil)))) .nil))) (.cons (.lst (.cons (.tup (.cons (.cst (.int (0))) (.cons (.cst (.int (1))) .nil))) (.cons (.tup (.cons (.cst (.int (1))) (.cons (.cst (.int (0))) .nil))) (.cons (.tup (.cons (.cst (.int (2))) (.cons (.cst (.int (0))) .nil))) (.cons (.tup (.cons (.cst (.int (2))) (.cons (.cst (.int (1))) .nil))) .nil))))) .nil)))) (.cons (.ret (.cst (.bl false))) .nil) .nil) (.cons (.ret (.call "_law_same" (.cons (.lst (.cons (.call "lifts" (.cons (.new "Yard" (.cons (.tup (.cons (.cst (.int (5))) .nil)) .nil)) (.cons (.tup (.cons (.tup (.cons (.cst (.int (1))) (.cons (.cst (.int (2))) .nil))) .nil)) .nil))) (.cons (.call "lifts" (.cons (.var 6) (.cons (.tup (.cons (.tup .nil) (.cons (.tup .nil) (.cons (.tup .nil) .nil)))) .nil))) (.cons (.call "lifts" (.cons (.var 6) (.cons (.tup (.cons (.tup (.cons (.cst (.int (7))) .nil)) (.cons (.tup .nil) (.cons (.tup .nil) .nil)))) .nil))) .nil)))) (.cons (.lst (.cons (.lst .nil) (.cons (.lst .nil) (.cons (.lst (.cons (.tup (.cons (.cst (.int (0))) (.cons (.cst (.int (1))) .nil))) (.cons (.tup (.cons (.cst (.int (0))) (.cons (.cst (.int (2))) .nil))) .nil))) .nil)))) .nil)))) .nil)))))⟩
def Pg : Prog where
  fn := fun x => ([("is_integer", c_is_integer), ("is_within", c_is_within), ("Yard.__init__", c_Yard___init__), ("check_yard", c_check_yard), ("is_pile", c_is_pile), ("stands", c_stands), ("check_stacking", c_check_stacking), ("is_stack", c_is_stack), ("goes", c_goes), ("behind", c_behind), ("is_lift", c_is_lift), ("lifted", c_lifted), ("all_going", c_all_going), ("lifts", c_lifts), ("_law_hand", c__law_hand), ("_law_draw", c__law_draw), ("_law_any", c__law_any), ("_law_mixed", c__law_mixed), ("_law_same", c__law_same), ("_law_case", c__law_case), ("_law_lifts", c__law_lifts), ("_law_behind", c__law_behind), ("_law_told", c__law_told), ("_law_are_listed", c__law_are_listed), ("law", c_law)] : List (Str × Def)).lookup x
  glo := fun x => S.gis.lookup x
  fld := fun _ => none
def dLaw : DefM := mdef "law" "law" "law" ("law", none) (top 36) ["script", "hand", "stacks", "tall", "heights", "stacking", "yard"]
def ds : List DefM := [mdef "is_integer" "is_integer" "is_integer" ("is_integer", none) (top 10) ["thing"],
  mdef "is_within" "is_within" "is_within" ("is_within", none) (top 11) ["thing", "low", "high"],
  mdef "Yard.__init__" "__init__" "Yard.__init__" ("Yard", some "__init__") (inCls (top 12) 0) ["self", "heights", "at", "height"],
  mdef "check_yard" "check_yard" "check_yard" ("check_yard", none) (top 13) ["yard"],
  mdef "is_pile" "is_pile" "is_pile" ("is_pile", none) (top 14) ["thing", "height", ".0", "one"],
  mdef "stands" "stands" "stands" ("stands", none) (top 15) ["heights", "thing", ".0", "pile", "height"],
  mdef "check_stacking" "check_stacking" "check_stacking" ("check_stacking", none) (top 16) ["yard", "stacking"],
  mdef "is_stack" "is_stack" "is_stack" ("is_stack", none) (top 17) ["heights", "thing"],
  mdef "goes" "goes" "goes" ("goes", none) (top 19) ["heights", "stacking", "thing", "i", "j", ".0", "one"],
  mdef "behind" "behind" "behind" ("behind", none) (top 20) ["stacking", "lift", "i", "j", "found"],
  mdef "is_lift" "is_lift" "is_lift" ("is_lift", none) (top 21) ["yard", "stacking", "thing"],
  mdef "lifted" "lifted" "lifted" ("lifted", none) (top 22) ["yard", "stacking", "lift"],
  mdef "all_going" "all_going" "all_going" ("all_going", none) (top 23) ["heights", "stacking", "many", ".0", "i", "j"],
  mdef "lifts" "lifts" "lifts" ("lifts", none) (top 24) ["yard", "stacking"],
  mdef "_law_hand" "_law_hand" "_law_hand" ("_law_hand", none) (top 26) ["script", "cells", ".0", "cell"],
  mdef "_law_draw" "_law_draw" "_law_draw" ("_law_draw", none) (top 27) ["hand", "many", "cell", "digit", "number"],
  mdef "_law_any" "_law_any" "_law_any" ("_law_any", none) (top 28) ["hand", "some"],
  mdef "_law_mixed" "_law_mixed" "_law_mixed" ("_law_mixed", none) (top 29) ["hand", "some", "left", "found"],
  mdef "_law_same" "_law_same" "_law_same" ("_law_same", none) (top 30) ["one", "due", ".0", "two", "other"],
  mdef "_law_case" "_law_case" "_law_case" ("_law_case", none) (top 31) ["hand", "stacks", "tall", "heights", "total", "high", "free", "base", "things", "thing", "found", ".0", "stack", "at", "bag"],
  mdef "_law_lifts" "_law_lifts" "_law_lifts" ("_law_lifts", none) (top 32) ["heights", "stacking", "found", "i", "bag", ".0", "j", "other"],
  mdef "_law_behind" "_law_behind" "_law_behind" ("_law_behind", none) (top 33) ["stacking", "pair", "bags", "top", ".0", "bag"],
  mdef "_law_told" "_law_told" "_law_told" ("_law_told", none) (top 34) ["yard", "stacking", "thing", "found", "e"],
  mdef "_law_are_listed" "_law_are_listed" "_law_are_listed" ("_law_are_listed", none) (top 35) ["hand", "heights", "stacking", "yard", "due", "found", "i", "j", "is_due", "told", "again", "behind_v"],
  dLaw]
def loose : List Str := ["RoomFault", "BadLift", "BadStacking", "BadYard", "NoYard", "MOST_STACKS", "MOST_HEIGHT", "MOST_THING", "is_integer", "is_within", "Yard", "check_yard", "is_pile", "stands", "check_stacking", "is_stack", "goes", "behind", "is_lift", "lifted", "all_going", "lifts", "_law_hand", "_law_draw", "_law_any", "_law_mixed", "_law_same", "_law_case", "_law_lifts", "_law_behind", "_law_told", "_law_are_listed"]

theorem so : sigOk S ds Pg 200 := sigOk_of (by kernel_rfl) (by kernel_rfl) rfl
abbrev R : PySem.W.OpenRow := PySem.W.OpenLaw.row PySem.Challenge.rw_littleroom_k05_whole_lifts_listed
abbrev hk : PySem.W.Hook := hookM 4 S ds
def ob (s : PySem.W.SharedT) : AlM := obsMG 4 S ds (HandSHeadRun.getT s)
theorem ob_eq (s : PySem.W.SharedT) : ob s = hk.obs s.abs := obsMG_eq (HandSHeadRun.getT_eq s)
theorem run (w : World) : HandSHeadRun.RunEq R (PySem.W.view R.prog [36]) hk ob 4000 loose w := by
  intro os
  kernel_rfl
end Lawk05

namespace Lawk05
open PySem Mini
/-! ### the hand that draws -/
theorem bop_add {i j : Int} {M : Store} : bopV .add (.int i) (.int j) M = .ok (.int (i + j)) M := rfl
theorem bop_sub {i j : Int} {M : Store} : bopV .sub (.int i) (.int j) M = .ok (.int (i - j)) M := rfl
def hdo (c : Nat) (a b s n : Int) : PO := .lst [.loc c, .int a, .int b, .int s, .int n]
section
variable {M : Store} {p c : Nat} {a b s n v : Int}
theorem hd_at (hp : p < M.length) : (M.set p (hdo c a b s n))[p]? = some (hdo c a b s n) := List.getElem?_set_self hp
theorem hd_ix (hp : p < M.length) {i : Int} {x : PV} (h : atI [PV.loc c, .int a, .int b, .int s, .int n] i = some x) : ixV (.loc p) (.int i) (M.set p (hdo c a b s n)) = .ok x (M.set p (hdo c a b s n)) := by
  unfold ixV
  dsimp only
  rw [hd_at hp]
  show opt _ (atI [PV.loc c, .int a, .int b, .int s, .int n] i) = _
  rw [h]; rfl
theorem hd_ix0 (hp : p < M.length) : ixV (.loc p) (.int 0) (M.set p (hdo c a b s n)) = .ok (.loc c) (M.set p (hdo c a b s n)) := hd_ix hp rfl
theorem hd_ix1 (hp : p < M.length) : ixV (.loc p) (.int 1) (M.set p (hdo c a b s n)) = .ok (.int a) (M.set p (hdo c a b s n)) := hd_ix hp rfl
theorem hd_ix2 (hp : p < M.length) : ixV (.loc p) (.int 2) (M.set p (hdo c a b s n)) = .ok (.int b) (M.set p (hdo c a b s n)) := hd_ix hp rfl
theorem hd_ix3 (hp : p < M.length) : ixV (.loc p) (.int 3) (M.set p (hdo c a b s n)) = .ok (.int s) (M.set p (hdo c a b s n)) := hd_ix hp rfl
theorem hd_ix4 (hp : p < M.length) : ixV (.loc p) (.int 4) (M.set p (hdo c a b s n)) = .ok (.int n) (M.set p (hdo c a b s n)) := hd_ix hp rfl
theorem hd_set (hp : p < M.length) {i : Int} {k : Nat} (x : PV) (h : ixN 5 i = some k) : setV (.loc p) (.int i) x (M.set p (hdo c a b s n)) = .ok () (M.set p (.lst ([PV.loc c, .int a, .int b, .int s, .int n].set k x))) := by
  unfold setV
  dsimp only
  rw [hd_at hp]
  show (match ixN 5 i with
    | some k => Out.ok () ((M.set p (hdo c a b s n)).set p (.lst ([PV.loc c, .int a, .int b, .int s, .int n].set k x)))
    | none => .fail) = _
  rw [h]
  dsimp only
  rw [List.set_set]
theorem hd_set1 (hp : p < M.length) : setV (.loc p) (.int 1) (.int v) (M.set p (hdo c a b s n)) = .ok () (M.set p (hdo c v b s n)) := hd_set (i := 1) (k := 1) hp (.int v) rfl
theorem hd_set2 (hp : p < M.length) : setV (.loc p) (.int 2) (.int v) (M.set p (hdo c a b s n)) = .ok () (M.set p (hdo c a v s n)) := hd_set (i := 2) (k := 2) hp (.int v) rfl
theorem hd_set3 (hp : p < M.length) : setV (.loc p) (.int 3) (.int v) (M.set p (hdo c a b s n)) = .ok () (M.set p (hdo c a b v n)) := hd_set (i := 3) (k := 3) hp (.int v) rfl
theorem hd_set4 (hp : p < M.length) : setV (.loc p) (.int 4) (.int v) (M.set p (hdo c a b s n)) = .ok () (M.set p (hdo c a b s v)) := hd_set (i := 4) (k := 4) hp (.int v) rfl
theorem hd_cells (hpc : p ≠ c) {cs : List Int} (hc : M[c]? = some (.lst (cs.map .int))) : (M.set p (hdo c a b s n))[c]? = some (.lst (cs.map .int)) := by rw [List.getElem?_set_ne hpc]; exact hc
theorem hd_len (hpc : p ≠ c) {cs : List Int} (hc : M[c]? = some (.lst (cs.map .int))) : biV .len [.loc c] (M.set p (hdo c a b s n)) = .ok (.int cs.length) (M.set p (hdo c a b s n)) := by
  unfold biV
  dsimp only
  rw [hd_cells hpc hc]
  dsimp only
  rw [List.length_map]
theorem hd_cell (hpc : p ≠ c) {cs : List Int} (hc : M[c]? = some (.lst (cs.map .int))) {i : Int} (h0 : 0 ≤ i) (h1 : i < cs.length) : ∃ z, z ∈ cs ∧ ixV (.loc c) (.int i) (M.set p (hdo c a b s n)) = .ok (.int z) (M.set p (hdo c a b s n)) := by
  have hl : i.toNat < cs.length := by omega
  refine ⟨cs[i.toNat], List.getElem_mem hl, ?_⟩
  unfold ixV
  dsimp only
  rw [hd_cells hpc hc]
  dsimp only
  unfold atI ixN
  rw [List.length_map, if_pos h0, if_pos h1]
  show opt _ ((cs.map PV.int)[i.toNat]?) = _
  rw [List.getElem?_map, List.getElem?_eq_getElem hl]
  rfl
end
/-- a hand lies at p -/
structure Hand (M : Store) (p c : Nat) : Prop where
  ex : ∃ (a b s n : Int) (cs : List Int), M[p]? = some (hdo c a b s n) ∧ M[c]? = some (.lst (cs.map .int)) ∧ p ≠ c ∧ 0 ≤ a ∧ 0 ≤ b ∧ ∀ z ∈ cs, (0 : Int) ≤ z
theorem set_self {M : Store} {p : Nat} {o : PO} (h : M[p]? = some o) : M.set p o = M := by
  obtain ⟨hl, e⟩ := List.getElem?_eq_some_iff.mp h
  rw [← e]
  exact List.set_getElem_self hl
theorem fn__law_draw : Pg.fn "_law_draw" = some c__law_draw := by rfl
theorem st__law_draw (x y : PV) : startE c__law_draw [x, y] = [some x, some y, none, none, none] := rfl
theorem bi_int {w : Wld} {e : E} {σ : Mini.Env} {M : Store} {i : Int} (h : denE w e σ M = .ok (.int i) M) : denE w (.bi .int (.cons e .nil)) σ M = .ok (.int i) M := by
  unfold denE denEs
  rw [h]
  exact gc_same
theorem pow18 : bopV .pow (.int 10) (.int 18) = fun M => .ok (.int 1000000000000000000) M := by
  funext M
  unfold bopV
  rfl
theorem biv_int {i : Int} {M : Store} : biV .int [.int i] M = .ok (.int i) M := rfl
theorem biv_lenT {xs : List PV} {M : Store} : biV .len [.tup xs] M = .ok (.int xs.length) M := rfl
/-- the second half of a draw -/
def tail_draw : Ss := match c__law_draw.body with
  | .cons _ r => r
  | _ => .nil
theorem mod_pos {x m : Int} (h : 0 < m) (M : Store) : bopV .mod (.int x) (.int m) M = .ok (.int (x % m)) M := by
  unfold bopV
  dsimp only
  rw [if_pos h]
theorem div_pos {x m : Int} (h : 0 < m) (h2 : m < 1073741824) (M : Store) : bopV .fdiv (.int x) (.int m) M = .ok (.int (x / m)) M := by
  unfold bopV
  dsimp only
  rw [if_pos ⟨h, h2⟩]
theorem mul_ok {x y : Int} (h : x.natAbs < big ∨ y.natAbs < big) (M : Store) : bopV .mul (.int x) (.int y) M = .ok (.int (x * y)) M := by
  unfold bopV
  dsimp only
  rw [if_pos h]
theorem natAbs_lt {x m : Int} (h : 0 < m) (h2 : m < 18446744073709551616) : (x % m).natAbs < big := by
  have h1 := Int.emod_nonneg x (Int.ne_of_gt h)
  have h3 := Int.emod_lt_of_pos x h
  unfold big
  omega
theorem draw_tail {w : Wld} {M : Store} {p c : Nat} {a b s n many : Int} {o2 : Option PV} (hp : p < M.length) (hb : 0 ≤ b) (h0 : 0 < many) (h1 : many < 1073741824) :
    ∃ v b' n', 0 ≤ v ∧ v < many ∧ 0 ≤ b' ∧ denSs w tail_draw [some (.loc p), some (.int many), o2, none, none] (M.set p (hdo c a b s n)) = .rt (.int v) (M.set p (hdo c a b' s n')) := by
  by_cases hb0 : 0 < b
  · refine ⟨b % many, b / many, n, Int.emod_nonneg _ (by omega), Int.emod_lt_of_pos _ h0, Int.ediv_nonneg hb (by omega), ?_⟩
    simp only [denSs, denS, denE, denEs, denT, denTs, List.map_cons, List.map_nil, List.length_cons, List.length_nil, List.cons_append, List.nil_append, List.getElem?_cons_zero, List.getElem?_cons_succ, List.set_cons_zero, List.set_cons_succ, Out.bind, Out.at, SOut.then, SOut.out, Prog.wld, gc_same, copV, bop_add, bop_sub, Nat.reduceAdd, Nat.reduceLT, Nat.zero_add, if_true, if_false, Bool.not_true, Bool.not_false, tail_draw, c__law_draw, hd_ix2 hp, hb0, decide_true, biv_int, mod_pos h0, div_pos h0 h1, hd_set2 hp, Out.calm]
  · have hbz : b = 0 := by omega
    subst hbz
    refine ⟨_, 0, n + 1, Int.emod_nonneg (((((((s + 7919 * (n + 1)) * 48271) % 2147483647) * ((((s + 7919 * (n + 1)) * 48271) % 2147483647) / 1009 + 69621)) % 2147483647) * ((((((s + 7919 * (n + 1)) * 48271) % 2147483647) * ((((s + 7919 * (n + 1)) * 48271) % 2147483647) / 1009 + 69621)) % 2147483647) / 2003 + 40014)) % 2147483563 / 16) (by omega), Int.emod_lt_of_pos _ h0, Int.le_refl _, ?_⟩
    have m1 : ∀ M, bopV .mul (.int 7919) (.int (n + 1)) M = .ok (.int (7919 * (n + 1))) M := fun M => mul_ok (.inl (by decide)) M
    have m2 : ∀ x M, bopV .mul (.int x) (.int 48271) M = .ok (.int (x * 48271)) M := fun x M => mul_ok (.inr (by decide)) M
    have m3 : ∀ x y M, bopV .mul (.int (x % 2147483647)) (.int y) M = .ok (.int (x % 2147483647 * y)) M := fun x y M => mul_ok (.inl (natAbs_lt (by decide) (by decide))) M
    have m4 : ∀ x M, bopV .mod (.int x) (.int 2147483647) M = .ok (.int (x % 2147483647)) M := fun x M => mod_pos (by decide) M
    have m5 : ∀ x M, bopV .mod (.int x) (.int 2147483563) M = .ok (.int (x % 2147483563)) M := fun x M => mod_pos (by decide) M
    have m6 : ∀ x M, bopV .fdiv (.int x) (.int 1009) M = .ok (.int (x / 1009)) M := fun x M => div_pos (by decide) (by decide) M
    have m7 : ∀ x M, bopV .fdiv (.int x) (.int 2003) M = .ok (.int (x / 2003)) M := fun x M => div_pos (by decide) (by decide) M
    have m8 : ∀ x M, bopV .fdiv (.int x) (.int 16) M = .ok (.int (x / 16)) M := fun x M => div_pos (by decide) (by decide) M
    simp only [denSs, denS, denE, denEs, denT, denTs, List.map_cons, List.map_nil, List.length_cons, List.length_nil, List.cons_append, List.nil_append, List.getElem?_cons_zero, List.getElem?_cons_succ, List.set_cons_zero, List.set_cons_succ, Out.bind, Out.at, SOut.then, SOut.out, Prog.wld, gc_same, copV, bop_add, bop_sub, Nat.reduceAdd, Nat.reduceLT, Nat.zero_add, if_true, if_false, Bool.not_true, Bool.not_false, tail_draw, c__law_draw, hd_ix2 hp, hd_ix4 hp, hd_ix3 hp, hb0, decide_false, biv_int, hd_set4 hp, Out.calm, Int.lt_irrefl, m1, m2, m3, m4, m5, m6, m7, m8, mod_pos h0]
def head_draw : Mini.S := match c__law_draw.body with
  | .cons s _ => s
  | _ => .pass
theorem draw_eq : c__law_draw.body = .cons head_draw tail_draw := rfl
/-- _law_draw: a number below many; the hand goes on -/
theorem sp_draw (d : Nat) (hd : 1 ≤ d) {M : Store} {p c : Nat} (h : Hand M p c) {many : Int} (h0 : 0 < many) (h1 : many < 1073741824) :
    ∃ v ob, 0 ≤ v ∧ v < many ∧ Hand (M.set p ob) p c ∧ Pg.call d "_law_draw" [.loc p, .int many] M = .ok (.int v) (M.set p ob) := by
  obtain ⟨d, rfl⟩ : ∃ n, d = n + 1 := ⟨d - 1, by omega⟩
  obtain ⟨a, b, s, n, cs, hM, hc, hpc, ha, hb, hcs⟩ := h.ex
  have hp : p < M.length := Rel.lt hM
  have fin : ∀ {a' b' s' n' : Int}, 0 ≤ a' → 0 ≤ b' → Hand (M.set p (hdo c a' b' s' n')) p c := fun {a' b' s' n'} ha' hb' => ⟨a', b', s', n', cs, hd_at hp, hd_cells hpc hc, hpc, ha', hb', hcs⟩
  rw [callS fn__law_draw rfl, st__law_draw]
  have key : ∃ a' b' s' n' o2, 0 ≤ a' ∧ 0 ≤ b' ∧ denSs (Pg.wld d) c__law_draw.body [some (.loc p), some (.int many), none, none, none] M = denSs (Pg.wld d) tail_draw [some (.loc p), some (.int many), o2, none, none] (M.set p (hdo c a' b' s' n')) := by
    rw [← set_self hM, draw_eq]
    by_cases hb0 : b = 0
    · subst hb0
      by_cases hac : a < cs.length
      · obtain ⟨z, hz, ez⟩ := hd_cell (M := M) (p := p) (a := a) (b := 0) (s := s) (n := n) hpc hc ha hac
        have hz0 := hcs z hz
        have m1 : ∀ M, bopV .mul (.int s) (.int 69621) M = .ok (.int (s * 69621)) M := fun M => mul_ok (.inr (by decide)) M
        have m2 : ∀ M, bopV .mul (.int z) (.int 40692) M = .ok (.int (z * 40692)) M := fun M => mul_ok (.inr (by decide)) M
        have m3 : ∀ x M, bopV .mod (.int x) (.int 2147483629) M = .ok (.int (x % 2147483629)) M := fun x M => mod_pos (by decide) M
        by_cases hz2 : z ≥ 1000000000000000000
        · refine ⟨a + 1, z, (s * 69621 + z * 40692 + 37) % 2147483629, n, some (.int z), by omega, by omega, ?_⟩
          simp only [denSs, denS, denE, denEs, denT, denTs, List.map_cons, List.map_nil, List.length_cons, List.length_nil, List.cons_append, List.nil_append, List.getElem?_cons_zero, List.getElem?_cons_succ, List.set_cons_zero, List.set_cons_succ, Out.bind, Out.at, SOut.then, SOut.out, Prog.wld, gc_same, copV, bop_add, bop_sub, Nat.reduceAdd, Nat.reduceLT, Nat.zero_add, if_true, if_false, Bool.not_true, Bool.not_false, head_draw, c__law_draw, hd_ix2 hp, hd_ix1 hp, hd_ix0 hp, hd_ix3 hp, hd_len hpc hc, eqD_int, ez, hac, decide_true, hd_set1 hp, hd_set2 hp, hd_set3 hp, Out.calm, m1, m2, m3, biv_int, pow18, hz2, opt, List.set_set]
        · refine ⟨a + 1, 0, (s * 69621 + z * 40692 + 37) % 2147483629, n, some (.int z), by omega, by omega, ?_⟩
          simp only [denSs, denS, denE, denEs, denT, denTs, List.map_cons, List.map_nil, List.length_cons, List.length_nil, List.cons_append, List.nil_append, List.getElem?_cons_zero, List.getElem?_cons_succ, List.set_cons_zero, List.set_cons_succ, Out.bind, Out.at, SOut.then, SOut.out, Prog.wld, gc_same, copV, bop_add, bop_sub, Nat.reduceAdd, Nat.reduceLT, Nat.zero_add, if_true, if_false, Bool.not_true, Bool.not_false, head_draw, c__law_draw, hd_ix2 hp, hd_ix1 hp, hd_ix0 hp, hd_ix3 hp, hd_len hpc hc, eqD_int, ez, hac, decide_true, decide_false, hd_set1 hp, hd_set2 hp, hd_set3 hp, Out.calm, m1, m2, m3, biv_int, pow18, hz2, opt, List.set_set]
      · refine ⟨a, 0, s, n, none, ha, Int.le_refl _, ?_⟩
        simp only [denSs, denS, denE, denEs, denT, denTs, List.map_cons, List.map_nil, List.length_cons, List.length_nil, List.cons_append, List.nil_append, List.getElem?_cons_zero, List.getElem?_cons_succ, List.set_cons_zero, List.set_cons_succ, Out.bind, Out.at, SOut.then, SOut.out, Prog.wld, gc_same, copV, bop_add, bop_sub, Nat.reduceAdd, Nat.reduceLT, Nat.zero_add, if_true, if_false, Bool.not_true, Bool.not_false, head_draw, c__law_draw, hd_ix2 hp, hd_ix1 hp, hd_ix0 hp, hd_len hpc hc, eqD_int, hac, decide_true, decide_false, opt, List.set_set]
    · refine ⟨a, b, s, n, none, ha, hb, ?_⟩
      simp only [denSs, denS, denE, denEs, denT, denTs, List.map_cons, List.map_nil, List.length_cons, List.length_nil, List.cons_append, List.nil_append, List.getElem?_cons_zero, List.getElem?_cons_succ, List.set_cons_zero, List.set_cons_succ, Out.bind, Out.at, SOut.then, SOut.out, Prog.wld, gc_same, copV, bop_add, bop_sub, Nat.reduceAdd, Nat.reduceLT, Nat.zero_add, if_true, if_false, Bool.not_true, Bool.not_false, head_draw, c__law_draw, hd_ix2 hp, eqD_int, hb0, decide_false, opt, List.set_set]
  obtain ⟨a', b', s', n', o2, ha', hb', e⟩ := key
  obtain ⟨v, b2, n2, hv0, hv1, hb2, e2⟩ := draw_tail (w := Pg.wld d) (M := M) (p := p) (c := c) (a := a') (b := b') (s := s') (n := n') (many := many) (o2 := o2) hp hb' h0 h1
  exact ⟨v, _, hv0, hv1, fin ha' hb2, by rw [e, e2]; rfl⟩

theorem Hand.lt {M : Store} {p c : Nat} (h : Hand M p c) : p < M.length := by
  obtain ⟨_, _, _, _, _, e, _⟩ := h.ex
  exact Rel.lt e
theorem fn__law_any : Pg.fn "_law_any" = some c__law_any := by rfl
/-- some[..]: one of a tuple's things -/
theorem sp_anyT (d : Nat) (hd : 2 ≤ d) {M : Store} {p c : Nat} (h : Hand M p c) {xs : List PV} (h0 : xs ≠ []) (h1 : xs.length < 1073741824) :
    ∃ v ob, v ∈ xs ∧ Hand (M.set p ob) p c ∧ Pg.call d "_law_any" [.loc p, .tup xs] M = .ok v (M.set p ob) := by
  obtain ⟨d, rfl⟩ : ∃ n, d = n + 1 := ⟨d - 1, by omega⟩
  have hl : 0 < xs.length := List.length_pos_iff.mpr h0
  obtain ⟨i, ob, i0, i1, hH, e⟩ := sp_draw d (by omega) h (many := xs.length) (by omega) (by omega)
  have hi : i.toNat < xs.length := by omega
  refine ⟨xs[i.toNat], ob, List.getElem_mem hi, hH, ?_⟩
  rw [callS fn__law_any rfl]
  have e2 : atI xs i = some xs[i.toNat] := by
    unfold atI ixN
    rw [if_pos i0, if_pos i1]
    exact List.getElem?_eq_getElem hi
  have e3 : gc M (.ok (.int i) (M.set p ob)) = .ok (.int i) (M.set p ob) := gc_short (by rw [List.length_set]; exact Nat.le_refl _)
  simp only [denSs, denS, denE, denEs, denT, denTs, List.map_cons, List.map_nil, List.length_cons, List.length_nil, List.cons_append, List.nil_append, List.getElem?_cons_zero, List.getElem?_cons_succ, List.set_cons_zero, List.set_cons_succ, Out.bind, Out.at, SOut.then, SOut.out, Prog.wld, gc_same, copV, bop_add, bop_sub, Nat.reduceAdd, Nat.reduceLT, Nat.zero_add, if_true, if_false, Bool.not_true, Bool.not_false, c__law_any, startE, biv_lenT, e, e3, ixV, e2, opt]
/-- .. of a list's -/
theorem sp_anyL (d : Nat) (hd : 2 ≤ d) {M : Store} {p c q : Nat} (h : Hand M p c) {xs : List PV} (hq : M[q]? = some (.lst xs)) (hpq : p ≠ q) (h0 : xs ≠ []) (h1 : xs.length < 1073741824) :
    ∃ v ob, v ∈ xs ∧ Hand (M.set p ob) p c ∧ Pg.call d "_law_any" [.loc p, .loc q] M = .ok v (M.set p ob) := by
  obtain ⟨d, rfl⟩ : ∃ n, d = n + 1 := ⟨d - 1, by omega⟩
  have hl : 0 < xs.length := List.length_pos_iff.mpr h0
  obtain ⟨i, ob, i0, i1, hH, e⟩ := sp_draw d (by omega) h (many := xs.length) (by omega) (by omega)
  have hi : i.toNat < xs.length := by omega
  refine ⟨xs[i.toNat], ob, List.getElem_mem hi, hH, ?_⟩
  rw [callS fn__law_any rfl]
  have e2 : atI xs i = some xs[i.toNat] := by
    unfold atI ixN
    rw [if_pos i0, if_pos i1]
    exact List.getElem?_eq_getElem hi
  have e3 : gc M (.ok (.int i) (M.set p ob)) = .ok (.int i) (M.set p ob) := gc_short (by rw [List.length_set]; exact Nat.le_refl _)
  have e4 : biV .len [.loc q] M = .ok (.int xs.length) M := by
    unfold biV
    dsimp only
    rw [hq]
  have e5 : ixV (.loc q) (.int i) (M.set p ob) = .ok xs[i.toNat] (M.set p ob) := by
    unfold ixV
    dsimp only
    rw [List.getElem?_set_ne hpq, hq]
    dsimp only
    rw [e2]; rfl
  simp only [denSs, denS, denE, denEs, denT, denTs, List.map_cons, List.map_nil, List.length_cons, List.length_nil, List.cons_append, List.nil_append, List.getElem?_cons_zero, List.getElem?_cons_succ, List.set_cons_zero, List.set_cons_succ, Out.bind, Out.at, SOut.then, SOut.out, Prog.wld, gc_same, copV, bop_add, bop_sub, Nat.reduceAdd, Nat.reduceLT, Nat.zero_add, if_true, if_false, Bool.not_true, Bool.not_false, c__law_any, startE, e4, e, e3, e5]

end Lawk05

namespace Lawk05
open PySem Mini
/-! ### stores that grow; only the hand is written -/
structure Ext (p c : Nat) (M M' : Store) : Prop where
  len : M.length ≤ M'.length
  same : ∀ i, i < M.length → i ≠ p → M'[i]? = M[i]?
  hand : Hand M' p c
theorem Ext.refl {p c : Nat} {M : Store} (h : Hand M p c) : Ext p c M M := ⟨Nat.le_refl _, fun _ _ _ => rfl, h⟩
theorem Ext.trans {p c : Nat} {M M1 M2 : Store} (a : Ext p c M M1) (b : Ext p c M1 M2) : Ext p c M M2 :=
  ⟨Nat.le_trans a.len b.len, fun i h hp => (b.same i (Nat.lt_of_lt_of_le h a.len) hp).trans (a.same i h hp), b.hand⟩
theorem Ext.set {p c : Nat} {M : Store} {ob : PO} (h : Hand (M.set p ob) p c) : Ext p c M (M.set p ob) :=
  ⟨by rw [List.length_set]; exact Nat.le_refl _, fun i _ hp => List.getElem?_set_ne (Ne.symm hp), h⟩
theorem Ext.at {p c : Nat} {M M' : Store} (e : Ext p c M M') {i : Nat} {o : PO} (h : M[i]? = some o) (hp : i ≠ p) : M'[i]? = some o := (e.same i (Rel.lt h) hp).trans h
theorem Hand.keep {M M' : Store} {p c : Nat} (h : Hand M p c) (k : ∀ i, i < M.length → M'[i]? = M[i]?) : Hand M' p c := by
  obtain ⟨a, b, s, n, cs, e1, e2, r⟩ := h.ex
  exact ⟨a, b, s, n, cs, (k _ (Rel.lt e1)).trans e1, (k _ (Rel.lt e2)).trans e2, r⟩
theorem Hand.set_other {M : Store} {p c q : Nat} {o' : PO} (h : Hand M p c) (hqp : q ≠ p) (hqc : q ≠ c) : Hand (M.set q o') p c := by
  obtain ⟨a, b, s, n, cs, e1, e2, r⟩ := h.ex
  exact ⟨a, b, s, n, cs, by rw [List.getElem?_set_ne hqp]; exact e1, by rw [List.getElem?_set_ne hqc]; exact e2, r⟩
theorem Hand.cl {M : Store} {p c : Nat} (h : Hand M p c) : c < M.length := by
  obtain ⟨_, _, _, _, _, _, e, _⟩ := h.ex
  exact Rel.lt e
theorem Ext.push {p c : Nat} {M : Store} (h : Hand M p c) (N : Store) : Ext p c M (M ++ N) :=
  ⟨by rw [List.length_append]; exact Nat.le_add_right _ _, fun i hi _ => List.getElem?_append_left hi, h.keep fun i hi => List.getElem?_append_left hi⟩
/-- a list handed back, behind gc -/
theorem gc_list {M M' : Store} {q : Nat} {ob : PO} (hq : M'[q]? = some ob) (hge : M.length ≤ q) : ∃ q2 M2, gc M (.ok (.loc q) M') = .ok (.loc q2) M2 ∧ M2[q2]? = some ob ∧ M.length ≤ q2 ∧ M.length ≤ M2.length ∧ ∀ i, i < M.length → M2[i]? = M'[i]? := by
  have hlt := Rel.lt hq
  have hl : M.length ≤ M'.length := Nat.le_of_lt (Nat.lt_of_le_of_lt hge hlt)
  unfold gc
  dsimp only
  rw [if_neg (by omega)]
  by_cases c1 : M'.take M.length = M ∨ Store.under M.length (M'.take M.length) = true
  case neg => rw [if_neg c1]; exact ⟨q, M', rfl, hq, hge, hl, fun _ _ => rfl⟩
  rw [if_pos c1, if_neg (show ¬ PV.under M.length (.loc q) = true from by show ¬ decide (q < M.length) = true; simp; omega), hq]
  dsimp only
  by_cases c2 : PO.under M.length ob = true
  case neg => rw [if_neg c2]; exact ⟨q, M', rfl, hq, hge, hl, fun _ _ => rfl⟩
  rw [if_pos c2]
  have hn : (M'.take M.length).length = M.length := by rw [List.length_take]; exact Nat.min_eq_left hl
  refine ⟨M.length, _, rfl, ?_, Nat.le_refl _, by rw [List.length_append, hn]; exact Nat.le_add_right _ _, fun i hi => ?_⟩
  · rw [List.getElem?_append_right (by rw [hn]; exact Nat.le_refl _), hn, Nat.sub_self]; rfl
  · rw [List.getElem?_append_left (by rw [hn]; exact hi), List.getElem?_take_of_lt hi]
/-- a value without places, behind gc -/
theorem gc_val {M M' : Store} {v : PV} (hl : M.length ≤ M'.length) (hv : PV.under M.length v = true) : ∃ M2, gc M (.ok v M') = .ok v M2 ∧ M.length ≤ M2.length ∧ ∀ i, i < M.length → M2[i]? = M'[i]? := by
  unfold gc
  dsimp only
  by_cases c0 : M'.length ≤ M.length
  · rw [if_pos c0]; exact ⟨M', rfl, hl, fun _ _ => rfl⟩
  rw [if_neg c0]
  by_cases c1 : M'.take M.length = M ∨ Store.under M.length (M'.take M.length) = true
  case neg => rw [if_neg c1]; exact ⟨M', by cases v <;> rfl, hl, fun _ _ => rfl⟩
  rw [if_pos c1, if_pos hv]
  have hn : (M'.take M.length).length = M.length := by rw [List.length_take]; exact Nat.min_eq_left hl
  exact ⟨_, rfl, by rw [hn]; exact Nat.le_refl _, fun i hi => List.getElem?_take_of_lt hi⟩
theorem Ext.gc {p c : Nat} {M M' M2 : Store} (e : Ext p c M M') (hl : M.length ≤ M2.length) (k : ∀ i, i < M.length → M2[i]? = M'[i]?) (hh : Hand M p c) : Ext p c M M2 := by
  refine ⟨hl, fun i hi hp => (k i hi).trans (e.same i hi hp), ?_⟩
  obtain ⟨a, b, s, n, cs, e1, e2, r⟩ := e.hand.ex
  exact ⟨a, b, s, n, cs, (k _ hh.lt).trans e1, (k _ hh.cl).trans e2, r⟩
theorem fn__law_mixed : Pg.fn "_law_mixed" = some c__law_mixed := by rfl
theorem biv_lenL {M : Store} {q : Nat} {xs : List PV} (h : M[q]? = some (.lst xs)) : biV .len [.loc q] M = .ok (.int xs.length) M := by
  unfold biV
  dsimp only
  rw [h]
theorem mt_append {M : Store} {q : Nat} {xs : List PV} {v : PV} (h : M[q]? = some (.lst xs)) (hl : xs.length < cap) : mtV .append (.loc q) [v] M = .ok .non (M.set q (.lst (xs ++ [v]))) := by
  unfold mtV
  dsimp only
  rw [h]
  dsimp only
  rw [if_pos hl]
theorem mt_popAt {M : Store} {q : Nat} {xs : List PV} {i : Nat} (h : M[q]? = some (.lst xs)) (hi : i < xs.length) : mtV .popAt (.loc q) [.int i] M = .ok xs[i] (M.set q (.lst (xs.eraseIdx i))) := by
  unfold mtV
  dsimp only
  rw [h]
  dsimp only
  have e : ixN xs.length (i : Int) = some i := by
    unfold ixN
    rw [if_pos (Int.natCast_nonneg _), if_pos (by omega), Int.toNat_natCast]
  rw [e]
  dsimp only
  rw [List.getElem?_eq_getElem hi]
theorem mtOk_lst {M : Store} {q : Nat} {xs : List PV} (h : M[q]? = some (.lst xs)) : mtOk .append (.loc q) M = true ∧ mtOk .popAt (.loc q) M = true ∧ mtOk .extend (.loc q) M = true ∧ mtOk .pop (.loc q) M = true := by
  unfold mtOk
  dsimp only
  rw [h]
  exact ⟨rfl, rfl, rfl, rfl⟩
theorem gc_set {M M' : Store} {v : PV} (h : M'.length = M.length) : gc M (.ok v M') = .ok v M' := gc_short (Nat.le_of_eq h)
theorem perm_erase {α : Type} : ∀ {xs : List α} {i : Nat} (h : i < xs.length), (xs[i] :: xs.eraseIdx i).Perm xs
  | x :: xs, 0, _ => .refl _
  | x :: xs, i + 1, h => by
    have hi : i < xs.length := by simpa using h
    have ih := perm_erase hi
    show (xs[i] :: x :: xs.eraseIdx i).Perm (x :: xs)
    exact (List.Perm.swap x _ _).trans (ih.cons x)
theorem whl_step {c : Mini.Env → Store → Out PV} {b : Mini.Env → Store → SOut} {n : Nat} {σ σ2 : Mini.Env} {M M1 M2 : Store} (h1 : c σ M = .ok (.bl true) M1) (h2 : b σ M1 = .nx σ2 M2) : whlGo c b (n + 1) σ M = whlGo c b n σ2 M2 := by
  rw [whlGo, h1]
  show (match b σ M1 with
      | .nx σ M => whlGo c b n σ M
      | .ct σ M => whlGo c b n σ M
      | .bk σ M => .nx σ M
      | o => o) = _
  rw [h2]
theorem whl_done {c : Mini.Env → Store → Out PV} {b : Mini.Env → Store → SOut} {n : Nat} {σ : Mini.Env} {M M1 : Store} (h1 : c σ M = .ok (.bl false) M1) : whlGo c b (n + 1) σ M = .nx σ M1 := by
  rw [whlGo, h1]; rfl
/-- the loop of _law_mixed -/
theorem mixed_loop {d : Nat} (hd : 1 ≤ d) {p c l f : Nat} (hlf : l ≠ f) (hlp : l ≠ p) (hlc : l ≠ c) (hfp : f ≠ p) (hfc : f ≠ c) (x : PV) : ∀ (n : Nat) (left found : List PV) (M : Store), left.length < n → found.length + left.length ≤ 1000000 → Hand M p c → M[l]? = some (.lst left) → M[f]? = some (.lst found) →
    ∃ M' ys, whlGo (denE (Pg.wld d) (.cmp .gt (.bi .len (.cons (.var 2) .nil)) (.cst (.int 0)))) (denSs (Pg.wld d) (.cons (.expr (.mt .append (.var 3) (.cons (.mt .popAt (.var 2) (.cons (.call "_law_draw" (.cons (.var 0) (.cons (.bi .len (.cons (.var 2) .nil)) .nil))) .nil)) .nil))) .nil)) n [some (.loc p), some x, some (.loc l), some (.loc f)] M
      = .nx [some (.loc p), some x, some (.loc l), some (.loc f)] M' ∧ M'[f]? = some (.lst (found ++ ys)) ∧ ys.Perm left ∧ M'.length = M.length ∧ (∀ i, i ≠ p → i ≠ l → i ≠ f → M'[i]? = M[i]?) ∧ Hand M' p c := by
  intro n
  induction n with
  | zero => intro left found M h; exact absurd h (Nat.not_lt_zero _)
  | succ n ih =>
    intro left found M hn hm hh h1 h2
    have e1 : denE (Pg.wld d) (.cmp .gt (.bi .len (.cons (.var 2) .nil)) (.cst (.int 0))) [some (.loc p), some x, some (.loc l), some (.loc f)] M = .ok (.bl (decide (0 < (left.length : Int)))) M := by
      simp only [denSs, denS, denE, denEs, denT, denTs, List.map_cons, List.map_nil, List.length_cons, List.length_nil, List.cons_append, List.nil_append, List.getElem?_cons_zero, List.getElem?_cons_succ, List.set_cons_zero, List.set_cons_succ, Out.bind, Out.at, SOut.then, SOut.out, Prog.wld, gc_same, copV, bop_add, bop_sub, Nat.reduceAdd, Nat.reduceLT, Nat.zero_add, if_true, if_false, Bool.not_true, Bool.not_false, biv_lenL h1]
    cases left with
    | nil =>
      refine ⟨M, [], ?_, by rw [List.append_nil]; exact h2, .refl _, rfl, fun _ _ _ _ => rfl, hh⟩
      exact whl_done e1
    | cons y ys =>
      obtain ⟨i, ob, i0, i1, hH, e⟩ := sp_draw d hd hh (many := ((y :: ys).length : Int)) (by rw [List.length_cons]; omega) (by simp at hm ⊢; omega)
      have hi : i.toNat < (y :: ys).length := by omega
      have ei : i = (i.toNat : Int) := (Int.toNat_of_nonneg i0).symm
      have hl2 : (M.set p ob)[l]? = some (.lst (y :: ys)) := by rw [List.getElem?_set_ne (Ne.symm hlp)]; exact h1
      have hf2 : (M.set p ob)[f]? = some (.lst found) := by rw [List.getElem?_set_ne (Ne.symm hfp)]; exact h2
      have hf3 : ((M.set p ob).set l (.lst ((y :: ys).eraseIdx i.toNat)))[f]? = some (.lst found) := by rw [List.getElem?_set_ne hlf]; exact hf2
      have hl4 : (((M.set p ob).set l (.lst ((y :: ys).eraseIdx i.toNat))).set f (.lst (found ++ [(y :: ys)[i.toNat]])))[l]? = some (.lst ((y :: ys).eraseIdx i.toNat)) := by
        rw [List.getElem?_set_ne (Ne.symm hlf), List.getElem?_set_self (by rw [List.length_set]; exact Rel.lt h1)]
      have hf4 : (((M.set p ob).set l (.lst ((y :: ys).eraseIdx i.toNat))).set f (.lst (found ++ [(y :: ys)[i.toNat]])))[f]? = some (.lst (found ++ [(y :: ys)[i.toNat]])) :=
        List.getElem?_set_self (by rw [List.length_set, List.length_set]; exact Rel.lt h2)
      have eb : denSs (Pg.wld d) (.cons (.expr (.mt .append (.var 3) (.cons (.mt .popAt (.var 2) (.cons (.call "_law_draw" (.cons (.var 0) (.cons (.bi .len (.cons (.var 2) .nil)) .nil))) .nil)) .nil))) .nil) [some (.loc p), some x, some (.loc l), some (.loc f)] M =
          .nx [some (.loc p), some x, some (.loc l), some (.loc f)] (((M.set p ob).set l (.lst ((y :: ys).eraseIdx i.toNat))).set f (.lst (found ++ [(y :: ys)[i.toNat]]))) := by
        rw [ei] at e
        have g1 : gc M (.ok (.int (i.toNat : Int)) (M.set p ob)) = .ok (.int (i.toNat : Int)) (M.set p ob) := gc_set (by simp)
        have g2 : gc M (.ok (y :: ys)[i.toNat] ((M.set p ob).set l (.lst ((y :: ys).eraseIdx i.toNat)))) = .ok (y :: ys)[i.toNat] ((M.set p ob).set l (.lst ((y :: ys).eraseIdx i.toNat))) := gc_set (by simp)
        have g3 : gc M (.ok PV.non (((M.set p ob).set l (.lst ((y :: ys).eraseIdx i.toNat))).set f (.lst (found ++ [(y :: ys)[i.toNat]])))) = .ok .non (((M.set p ob).set l (.lst ((y :: ys).eraseIdx i.toNat))).set f (.lst (found ++ [(y :: ys)[i.toNat]]))) := gc_set (by simp)
        have eL : biV .len [.loc l] M = .ok (.int ((y :: ys).length : Int)) M := biv_lenL h1
        have m1 := mt_popAt hl2 hi
        have m2 := mt_append (v := (y :: ys)[i.toNat]) hf3 (by simp at hm; unfold cap; omega)
        simp only [denSs, denS, denE, denEs, List.getElem?_cons_zero, List.getElem?_cons_succ, Out.bind, Out.at, SOut.then, Prog.wld, (mtOk_lst h2).1, (mtOk_lst h1).2.1, if_true, eL, gc_same, e, g1, m1, g2, m2, g3]
      have hlen : ((y :: ys).eraseIdx i.toNat).length = ys.length := by rw [List.length_eraseIdx_of_lt hi]; rfl
      obtain ⟨M', zs, r1, r2, r3, r4, r5, r6⟩ := ih _ (found ++ [(y :: ys)[i.toNat]]) _ (by rw [hlen]; simp at hn; omega) (by rw [hlen]; simp at hm ⊢; omega) ((hH.set_other hlp hlc).set_other hfp hfc) hl4 hf4
      refine ⟨M', (y :: ys)[i.toNat] :: zs, ?_, by rw [r2, List.append_assoc]; rfl, ?_, by rw [r4]; simp, fun j j1 j2 j3 => ?_, r6⟩
      · have t : decide (0 < ((y :: ys).length : Int)) = true := decide_eq_true (by rw [List.length_cons]; omega)
        rw [t] at e1
        rw [whl_step e1 eb]
        exact r1
      · refine List.Perm.trans (.cons _ r3) ?_
        exact perm_erase hi
      · rw [r5 j j1 j2 j3, List.getElem?_set_ne (Ne.symm j3), List.getElem?_set_ne (Ne.symm j2), List.getElem?_set_ne (Ne.symm j1)]

/-- _law_mixed of a list: its things in another order, in a new list -/
theorem sp_mixed (d : Nat) (hd : 2 ≤ d) {M : Store} {p c q : Nat} (h : Hand M p c) {xs : List PV} (hq : M[q]? = some (.lst xs)) (h1 : xs.length ≤ 1000000) :
    ∃ r M' ys, Pg.call d "_law_mixed" [.loc p, .loc q] M = .ok (.loc r) M' ∧ M'[r]? = some (.lst ys) ∧ ys.Perm xs ∧ M.length ≤ r ∧ Ext p c M M' := by
  obtain ⟨d, rfl⟩ : ∃ n, d = n + 1 := ⟨d - 1, by omega⟩
  have hpl := h.lt
  have hcl := h.cl
  have hM1 : Hand (M ++ [.lst xs] ++ [.lst []]) p c := by
    rw [List.append_assoc]
    exact (Ext.push h _).hand
  have l1 : (M ++ [PO.lst xs]).length = M.length + 1 := by simp
  have e1 : (M ++ [PO.lst xs] ++ [PO.lst []])[M.length]? = some (.lst xs) := by rw [List.append_assoc]; exact at_new
  have e2 : (M ++ [PO.lst xs] ++ [PO.lst []])[M.length + 1]? = some (.lst []) := by rw [← l1]; exact at_new
  obtain ⟨M', ys, r1, r2, r3, r4, r5, r6⟩ := mixed_loop (d := d) (by omega) (p := p) (c := c) (l := M.length) (f := M.length + 1) (by omega) (by omega) (by omega) (by omega) (by omega) (.loc q) turns xs [] _ (by unfold turns; omega) (by simpa using h1) hM1 e1 e2
  refine ⟨M.length + 1, M', ys, ?_, by rw [r2]; rfl, r3, Nat.le_succ _, ⟨by rw [r4]; simp, fun i hi hp => ?_, r6⟩⟩
  · rw [callS fn__law_mixed rfl]
    have b1 : biV .list [.loc q] M = .ok (.loc M.length) (M ++ [.lst xs]) := by
      unfold biV
      dsimp only
      rw [hq]
    have l2 : (M ++ [PO.lst xs] ++ [PO.lst []]).length = M.length + 2 := by simp
    simp only [c__law_mixed, startE, denSs, denS, denE, denEs, List.map_cons, List.map_nil, List.length_cons, List.length_nil, List.cons_append, List.nil_append, List.replicate, List.getElem?_cons_zero, List.getElem?_cons_succ, Out.bind, Out.at, SOut.then, b1, gc_lst, if_true, setMany, List.set_cons_succ, List.set_cons_zero, l1] at r1 ⊢
    rw [r1]
    rfl
  · rw [r5 i hp (by omega) (by omega), List.append_assoc, List.getElem?_append_left hi]

theorem fn__law_hand : Pg.fn "_law_hand" = some c__law_hand := by rfl
theorem sp_hand (d : Nat) (hd : 1 ≤ d) (ns : List Int) (hn : ns.length ≤ 63) :
    ∃ M, Pg.call d "_law_hand" [.loc 0] [.frz (ns.map .int)] = .ok (.loc 2) M ∧ Hand M 2 1 ∧ M.length = 3 := by
  obtain ⟨d, rfl⟩ : ∃ n, d = n + 1 := ⟨d - 1, by omega⟩
  have ht : (ns.map PV.int).take 63 = ns.map .int := List.take_of_length_le (by rw [List.length_map]; exact hn)
  have s1 : slV (.loc 0) none (some 63) [.frz (ns.map .int)] = .ok (.loc 1) [.frz (ns.map .int), .lst (ns.map .int)] := by
    unfold slV
    show Out.ok _ ([.frz (ns.map .int)] ++ [PO.lst (cutL (ns.map PV.int) 0 (sIx (ns.map PV.int).length _ (some 63)))]) = _
    have e : cutL (ns.map PV.int) 0 (sIx (ns.map PV.int).length (ns.map PV.int).length (some 63)) = ns.map .int := by
      unfold cutL
      refine List.take_of_length_le ?_
      rw [List.drop_zero, List.length_map]
      show ns.length ≤ min 63 ns.length - 0
      omega
    rw [e]
    rfl
  have it : denIt (Pg.wld d) (.seq (.slH (.var 0) (.cst (.int 63)))) [some (.loc 0), none, none, none] [.frz (ns.map .int)] = .ok (ns.map .int, [(1, ns.map .int)]) [.frz (ns.map .int), .lst (ns.map .int)] := by
    simp only [denIt, denE, List.getElem?_cons_zero, Out.bind, intV, opt, s1]
    rfl
  have lc : denE (Pg.wld d) (.lc [2, 3] (.nm 3) (.seq (.slH (.var 0) (.cst (.int 63)))) (.cst (.bl true)) (.bi .abs (.cons (.bi .int (.cons (.var 3) .nil)) .nil))) [some (.loc 0), none, none, none] [.frz (ns.map .int)] = .ok (.loc 1) [.frz (ns.map .int), .lst (ns.map fun i => .int (if i < 0 then -i else i))] := by
    rw [lc_map1 (f := fun v => .int (if intOf v < 0 then -intOf v else intOf v)) it (still_lst rfl) (by rw [List.length_map]; unfold cap; omega) fun x hx => ?_]
    · rw [List.map_map]
      exact gc_at (M := [_]) (N := [_, _]) (k := 2) (Nat.le_succ 1) rfl (unders_map (fun _ => rfl) _)
    · obtain ⟨i, _, rfl⟩ := List.mem_map.mp hx
      refine ⟨[some (.loc 0), none, none, some (.int i)], rfl, ?_⟩
      simp only [denE, denEs, List.getElem?_cons_zero, List.getElem?_cons_succ, Out.bind, biv_int, gc_same]
      exact gc_same
  have ln : biV .len [.loc 1] [.frz (ns.map .int), .lst (ns.map fun i => .int (if i < 0 then -i else i))] = .ok (.int ns.length) [.frz (ns.map .int), .lst (ns.map fun i => .int (if i < 0 then -i else i))] := by
    rw [biv_lenL (xs := ns.map fun i => .int (if i < 0 then -i else i)) rfl, List.length_map]
  have ml : ∀ M, bopV .mul (.int 5) (.int (ns.length : Int)) M = .ok (.int (5 * (ns.length : Int))) M := fun M => mul_ok (.inl (by decide)) M
  refine ⟨[.frz (ns.map .int), .lst (ns.map fun i => .int (if i < 0 then -i else i)), hdo 1 0 0 (67 + 5 * ns.length) 0], ?_, ⟨0, 0, 67 + 5 * ns.length, 0, ns.map fun i => if i < 0 then -i else i, rfl, ?_, by decide, Int.le_refl _, Int.le_refl _, fun z hz => ?_⟩, rfl⟩
  · rw [callS fn__law_hand rfl]
    have st : startE c__law_hand [PV.loc 0] = [some (.loc 0), none, none, none] := rfl
    rw [st]
    unfold c__law_hand
    simp only [denSs, denS, lc, Out.at, denT, List.length_cons, List.length_nil, Nat.reduceAdd, Nat.reduceLT, if_true, SOut.then, List.set_cons_succ, List.set_cons_zero]
    simp only [denSs, denS, denE, denEs, denT, denTs, List.map_cons, List.map_nil, List.length_cons, List.length_nil, List.cons_append, List.nil_append, List.getElem?_cons_zero, List.getElem?_cons_succ, List.set_cons_zero, List.set_cons_succ, Out.bind, Out.at, SOut.then, SOut.out, Prog.wld, gc_same, copV, bop_add, bop_sub, Nat.reduceAdd, Nat.reduceLT, Nat.zero_add, if_true, if_false, Bool.not_true, Bool.not_false, ln, ml]
    rfl
  · show some (PO.lst _) = _
    rw [List.map_map]
    rfl
  · obtain ⟨i, _, rfl⟩ := List.mem_map.mp hz
    split <;> omega

end Lawk05

namespace Lawk05
open PySem Mini
/-! ### yards and stackings -/
def iv (xs : List Int) : PV := .tup (xs.map .int)
def sv (st : List (List Int)) : PV := .tup (st.map iv)
structure Fits (hs : List Int) (st : List (List Int)) : Prop where
  n0 : hs ≠ []
  n8 : hs.length ≤ 8
  h : ∀ h ∈ hs, 1 ≤ h ∧ h ≤ 9
  len : st.length = hs.length
  fit : ∀ (i : Nat) b h, st[i]? = some b → hs[i]? = some h → (b.length : Int) ≤ h
  th : ∀ b ∈ st, ∀ t ∈ b, (0 : Int) ≤ t ∧ t ≤ 99
theorem atI_nat {α : Type} (xs : List α) (i : Nat) : atI xs (i : Int) = xs[i]? := by
  unfold atI ixN
  rw [if_pos (Int.natCast_nonneg _)]
  by_cases h : (i : Int) < xs.length
  · rw [if_pos h]; show xs[(i : Int).toNat]? = _; rw [Int.toNat_natCast]
  · rw [if_neg h, List.getElem?_eq_none (by omega)]; rfl
theorem ix_nat {xs : List PV} {i : Nat} {v : PV} {M : Store} (h : xs[i]? = some v) : ixV (.tup xs) (.int (i : Int)) M = .ok v M := by
  unfold ixV
  dsimp only
  rw [atI_nat, h]; rfl
theorem ix_sv {st : List (List Int)} {i : Nat} {b : List Int} {M : Store} (h : st[i]? = some b) : ixV (sv st) (.int (i : Int)) M = .ok (iv b) M := ix_nat (by rw [List.getElem?_map, h]; rfl)
theorem ix_iv {hs : List Int} {i : Nat} {x : Int} {M : Store} (h : hs[i]? = some x) : ixV (iv hs) (.int (i : Int)) M = .ok (.int x) M := ix_nat (by rw [List.getElem?_map, h]; rfl)
theorem len_iv {b : List Int} {M : Store} : biV .len [iv b] M = .ok (.int b.length) M := by
  unfold iv
  rw [biv_lenT, List.length_map]
theorem len_sv {b : List (List Int)} {M : Store} : biV .len [sv b] M = .ok (.int b.length) M := by
  unfold sv
  rw [biv_lenT, List.length_map]
theorem var_iv {σ : Mini.Env} {i : Nat} {b : List Int} {M : Store} {w : Wld} (h : σ[i]? = some (some (iv b))) : denE w (.var i) σ M = .ok (iv b) M := by
  unfold denE
  rw [h]; rfl
theorem fn_is_integer : Pg.fn "is_integer" = some c_is_integer := by rfl
theorem fn_is_within : Pg.fn "is_within" = some c_is_within := by rfl
theorem fn_is_stack : Pg.fn "is_stack" = some c_is_stack := by rfl
theorem fn_goes : Pg.fn "goes" = some c_goes := by rfl
theorem fn_is_pile : Pg.fn "is_pile" = some c_is_pile := by rfl
theorem fn_stands : Pg.fn "stands" = some c_stands := by rfl
theorem fn_check_yard : Pg.fn "check_yard" = some c_check_yard := by rfl
theorem fn_check_stacking : Pg.fn "check_stacking" = some c_check_stacking := by rfl
theorem sp_is_integer (d : Nat) (hd : 1 ≤ d) (i : Int) (M : Store) : Pg.call d "is_integer" [.int i] M = .ok (.bl true) M := by
  obtain ⟨d, rfl⟩ : ∃ n, d = n + 1 := ⟨d - 1, by omega⟩
  rw [callS fn_is_integer rfl]
  rfl
theorem sp_is_within (d : Nat) (hd : 2 ≤ d) (i a b : Int) (M : Store) : Pg.call d "is_within" [.int i, .int a, .int b] M = .ok (.bl (decide (a ≤ i ∧ i ≤ b))) M := by
  obtain ⟨d, rfl⟩ : ∃ n, d = n + 1 := ⟨d - 1, by omega⟩
  rw [callS fn_is_within rfl]
  have h := sp_is_integer d (by omega) i M
  simp only [denSs, denS, denE, denEs, denT, denTs, List.map_cons, List.map_nil, List.length_cons, List.length_nil, List.cons_append, List.nil_append, List.getElem?_cons_zero, List.getElem?_cons_succ, List.set_cons_zero, List.set_cons_succ, Out.bind, Out.at, SOut.then, SOut.out, Prog.wld, gc_same, copV, bop_add, bop_sub, Nat.reduceAdd, Nat.reduceLT, Nat.zero_add, if_true, if_false, Bool.not_true, Bool.not_false, c_is_within, startE, h]
  by_cases h1 : a ≤ i <;> by_cases h2 : i ≤ b <;> simp [h1, h2, SOut.out]
theorem sp_is_stack (d : Nat) (hd : 3 ≤ d) (hs : List Int) (i : Int) (M : Store) : Pg.call d "is_stack" [iv hs, .int i] M = .ok (.bl (decide (0 ≤ i ∧ i ≤ (hs.length : Int) - 1))) M := by
  obtain ⟨d, rfl⟩ : ∃ n, d = n + 1 := ⟨d - 1, by omega⟩
  rw [callS fn_is_stack rfl]
  have h := sp_is_within d (by omega) i 0 ((hs.length : Int) - 1) M
  have v : ∀ w, denE w (.var 0) [some (iv hs), some (PV.int i)] M = .ok (iv hs) M := fun w => rfl
  simp only [c_is_stack, denSs, denS, denEs, startE, List.map_cons, List.map_nil, List.length_cons, List.length_nil, List.cons_append, List.nil_append]
  simp only [denSs, denS, denE, denEs, denT, denTs, List.map_cons, List.map_nil, List.length_cons, List.length_nil, List.cons_append, List.nil_append, List.getElem?_cons_zero, List.getElem?_cons_succ, List.set_cons_zero, List.set_cons_succ, Out.bind, Out.at, SOut.then, SOut.out, Prog.wld, gc_same, copV, bop_add, bop_sub, Nat.reduceAdd, Nat.reduceLT, Nat.zero_add, if_true, if_false, Bool.not_true, Bool.not_false, len_iv, h, iv, biv_lenT, List.length_map]
theorem sp_goes (d : Nat) (hd : 4 ≤ d) {hs : List Int} {st : List (List Int)} {i j : Nat} {bi bj : List Int} {hj : Int} (hl : st.length = hs.length) (h1 : st[i]? = some bi) (h2 : st[j]? = some bj) (h3 : hs[j]? = some hj) (M : Store) :
    Pg.call d "goes" [iv hs, sv st, .tup [.int i, .int j]] M = .ok (.bl (decide (i ≠ j ∧ 0 < bi.length ∧ (bj.length : Int) < hj))) M := by
  obtain ⟨d, rfl⟩ : ∃ n, d = n + 1 := ⟨d - 1, by omega⟩
  have hi : i < hs.length := by rw [← hl]; exact (List.getElem?_eq_some_iff.mp h1).1
  have hj' : j < hs.length := (List.getElem?_eq_some_iff.mp h3).1
  rw [callS fn_goes rfl]
  have al : ∀ r : List (Option PV), denE (Pg.wld d) (.bi .all (.cons (.lc [5, 6] (.nm 6) (.seq (.var 2)) (.cst (.bl true)) (.call "is_stack" (.cons (.var 0) (.cons (.var 6) .nil)))) .nil)) [some (iv hs), some (sv st), some (.tup [.int i, .int j]), none, none, none, none] M = .ok (.bl true) M := fun r => by
    rw [all_lc (k := ([.int i, .int j], [])) (p := fun v => decide (0 ≤ intOf v ∧ intOf v ≤ (hs.length : Int) - 1)) (by rfl) rfl (by show 2 ≤ cap; unfold cap; omega) fun x hx => ?_]
    · have a1 : decide ((0 : Int) ≤ intOf (.int i) ∧ intOf (.int (i : Int)) ≤ (hs.length : Int) - 1) = true := decide_eq_true (by show (0 : Int) ≤ (i : Int) ∧ (i : Int) ≤ _; omega)
      have a2 : decide ((0 : Int) ≤ intOf (.int j) ∧ intOf (.int (j : Int)) ≤ (hs.length : Int) - 1) = true := decide_eq_true (by show (0 : Int) ≤ (j : Int) ∧ (j : Int) ≤ _; omega)
      show Out.ok (PV.bl ([PV.int (i : Int), .int (j : Int)].all fun v => decide (0 ≤ intOf v ∧ intOf v ≤ (hs.length : Int) - 1))) M = _
      rw [List.all_cons, List.all_cons, List.all_nil, a1, a2]; rfl
    · have : ∃ z : Int, x = .int z := by
        rcases List.mem_cons.mp hx with e | e
        · exact ⟨_, e⟩
        · exact ⟨_, List.mem_singleton.mp e⟩
      obtain ⟨z, rfl⟩ := this
      refine ⟨[some (iv hs), some (sv st), some (.tup [.int i, .int j]), none, none, none, some (.int z)], rfl, ?_⟩
      have h := sp_is_stack d (by omega) hs z M
      show gc M (Out.bind (Out.ok [iv hs, PV.int z] M) fun vs M => (Pg.wld d).call "is_stack" vs M) = _
      show gc M (Pg.call d "is_stack" [iv hs, .int z] M) = _
      rw [h, gc_same]; rfl
  have al := al []
  have body : c_goes.body = .cons (.ife (.or (.not (.isi (.var 2) ["Yard"] [.tuple])) (.or (.cmp .ne (.bi .len (.cons (.var 2) .nil)) (.cst (.int (2)))) (.not (.bi .all (.cons (.lc [5, 6] (.nm 6) (.seq (.var 2)) (.cst (.bl true)) (.call "is_stack" (.cons (.var 0) (.cons (.var 6) .nil)))) .nil))))) (.cons (.ret (.cst (.bl false))) .nil) .nil) (.cons (.asg (.tup (.cons (.nm 3) (.cons (.nm 4) .nil))) (.var 2)) (.cons (.ret (.and (.cmp .ne (.var 3) (.var 4)) (.and (.cmp .gt (.bi .len (.cons (.ix (.var 1) (.var 3)) .nil)) (.cst (.int (0)))) (.cmp .lt (.bi .len (.cons (.ix (.var 1) (.var 4)) .nil)) (.ix (.var 0) (.var 4)))))) .nil)) := rfl
  have s0 : startE c_goes [iv hs, sv st, .tup [.int i, .int j]] = [some (iv hs), some (sv st), some (.tup [.int i, .int j]), none, none, none, none] := rfl
  rw [body, s0]
  have v0 : ∀ w (x y : Option PV), denE w (.var 0) [some (iv hs), some (sv st), some (.tup [.int i, .int j]), x, y, none, none] M = .ok (iv hs) M := fun w x y => rfl
  have v1 : ∀ w (x y : Option PV), denE w (.var 1) [some (iv hs), some (sv st), some (.tup [.int i, .int j]), x, y, none, none] M = .ok (sv st) M := fun w x y => rfl
  have c1 : denE (Pg.wld d) (.or (.not (.isi (.var 2) ["Yard"] [.tuple])) (.or (.cmp .ne (.bi .len (.cons (.var 2) .nil)) (.cst (.int (2)))) (.not (.bi .all (.cons (.lc [5, 6] (.nm 6) (.seq (.var 2)) (.cst (.bl true)) (.call "is_stack" (.cons (.var 0) (.cons (.var 6) .nil)))) .nil))))) [some (iv hs), some (sv st), some (.tup [.int i, .int j]), none, none, none, none] M = .ok (.bl false) M := by
    have e1 : denE (Pg.wld d) (.isi (.var 2) ["Yard"] [.tuple]) [some (iv hs), some (sv st), some (.tup [.int i, .int j]), none, none, none, none] M = .ok (.bl true) M := rfl
    have e2 : denE (Pg.wld d) (.cmp .ne (.bi .len (.cons (.var 2) .nil)) (.cst (.int (2)))) [some (iv hs), some (sv st), some (.tup [.int i, .int j]), none, none, none, none] M = .ok (.bl false) M := by
      simp only [denSs, denS, denE, denEs, denT, denTs, List.map_cons, List.map_nil, List.length_cons, List.length_nil, List.cons_append, List.nil_append, List.getElem?_cons_zero, List.getElem?_cons_succ, List.set_cons_zero, List.set_cons_succ, Out.bind, Out.at, SOut.then, SOut.out, Prog.wld, gc_same, copV, bop_add, bop_sub, Nat.reduceAdd, Nat.reduceLT, Nat.zero_add, if_true, if_false, Bool.not_true, Bool.not_false, biv_lenT, eqD_int, opt]
      rfl
    rw [denE, denE, e1]
    show Out.bind (Out.ok (PV.bl false) M) _ = _
    show denE (Pg.wld d) (.or (.cmp .ne (.bi .len (.cons (.var 2) .nil)) (.cst (.int (2)))) _) _ M = _
    rw [denE, e2]
    show denE (Pg.wld d) (.not _) _ M = _
    rw [denE, al]; rfl
  have r1 : denE (Pg.wld d) (.and (.cmp .ne (.var 3) (.var 4)) (.and (.cmp .gt (.bi .len (.cons (.ix (.var 1) (.var 3)) .nil)) (.cst (.int (0)))) (.cmp .lt (.bi .len (.cons (.ix (.var 1) (.var 4)) .nil)) (.ix (.var 0) (.var 4))))) [some (iv hs), some (sv st), some (.tup [.int i, .int j]), some (.int i), some (.int j), none, none] M = .ok (.bl (decide (i ≠ j ∧ 0 < bi.length ∧ (bj.length : Int) < hj))) M := by
    refine (e_and (e_ne (m := i) (n := j) rfl rfl) fun _ => e_and (e_gt (e_bi (es_cons (e_ix (v1 _ _ _) rfl (ix_sv h1)) es_nil) len_iv) rfl) fun _ => e_lt (e_bi (es_cons (e_ix (v1 _ _ _) rfl (ix_sv h2)) es_nil) len_iv) (e_ix (v0 _ _ _) rfl (ix_iv h3))).trans ?_
    congr 2
    rw [Bool.eq_iff_iff]
    simp only [Bool.and_eq_true, Bool.not_eq_true', decide_eq_false_iff_not, decide_eq_true_eq]
    omega
  simp only [denSs, denS, c1, Out.at, SOut.then]
  have t1 : denT (Pg.wld d) (.tup (.cons (.nm 3) (.cons (.nm 4) .nil))) (.tup [.int i, .int j]) [some (iv hs), some (sv st), some (.tup [.int i, .int j]), none, none, none, none] M = .ok [some (iv hs), some (sv st), some (.tup [.int i, .int j]), some (.int i), some (.int j), none, none] M := rfl
  have v2 : denE (Pg.wld d) (.var 2) [some (iv hs), some (sv st), some (.tup [.int i, .int j]), none, none, none, none] M = .ok (.tup [.int i, .int j]) M := rfl
  rw [v2]
  simp only [t1, r1, SOut.out]

theorem glo_thing : Pg.glo "MOST_THING" = some (.int 99) := by rfl
theorem glo_height : Pg.glo "MOST_HEIGHT" = some (.int 9) := by rfl
theorem glo_stacks : Pg.glo "MOST_STACKS" = some (.int 8) := by rfl
theorem e_glo {d : Nat} {x : Str} {v : PV} {σ : Mini.Env} {M : Store} (h : Pg.glo x = some v) : denE (Pg.wld d) (.glo x) σ M = .ok v M := by
  unfold denE
  show opt M (Pg.glo x) = _
  rw [h]; rfl
theorem sp_is_pile (d : Nat) (hd : 3 ≤ d) {b : List Int} {h : Int} (hl : (b.length : Int) ≤ h) (hb : ∀ t ∈ b, (0 : Int) ≤ t ∧ t ≤ 99) (hc : h ≤ 9) (M : Store) : Pg.call d "is_pile" [iv b, .int h] M = .ok (.bl true) M := by
  obtain ⟨d, rfl⟩ : ∃ n, d = n + 1 := ⟨d - 1, by omega⟩
  rw [callS fn_is_pile rfl]
  have s0 : startE c_is_pile [iv b, .int h] = [some (iv b), some (.int h), none, none] := rfl
  have v0 : ∀ w, denE w (.var 0) [some (iv b), some (.int h), none, none] M = .ok (iv b) M := fun w => rfl
  rw [s0]
  have c1 := e_or (e_not (x := true) (show denE (Pg.wld d) (.isi (.var 0) ["Yard"] [.tuple]) [some (iv b), some (.int h), none, none] M = _ from rfl)) fun _ => e_gt (e_bi (es_cons (v0 _) es_nil) len_iv) (show denE (Pg.wld d) (.var 1) _ M = .ok (.int h) M from rfl)
  have r1 : denE (Pg.wld d) (.bi .all (.cons (.lc [2, 3] (.nm 3) (.seq (.var 0)) (.cst (.bl true)) (.call "is_within" (.cons (.var 3) (.cons (.cst (.int (0))) (.cons (.glo "MOST_THING") .nil))))) .nil)) [some (iv b), some (.int h), none, none] M = .ok (.bl true) M := by
    rw [all_lc (k := (b.map .int, [])) (p := fun v => decide ((0 : Int) ≤ intOf v ∧ intOf v ≤ 99)) rfl rfl (by rw [List.length_map]; unfold cap; omega) fun x hx => ?_]
    · congr 2
      rw [List.all_map, List.all_eq_true]
      exact fun t ht => decide_eq_true (hb t ht)
    · obtain ⟨t, _, rfl⟩ := List.mem_map.mp hx
      exact ⟨[some (iv b), some (.int h), none, some (.int t)], rfl, e_call (es_cons rfl (es_cons rfl (es_cons (e_glo glo_thing) es_nil))) (sp_is_within d (by omega) t 0 99 M)⟩
  have z : (!true || decide (h < (b.length : Int))) = false := by
    rw [Bool.not_true, Bool.false_or, decide_eq_false_iff_not]; omega
  rw [z] at c1
  have e : denSs (Pg.wld d) c_is_pile.body [some (iv b), some (.int h), none, none] M = .rt (.bl true) M := (ss_cons ((s_if c1).trans (if_neg Bool.false_ne_true))).trans (ss_rt (s_ret r1))
  rw [e]; rfl
theorem sp_stands (d : Nat) (hd : 4 ≤ d) {hs : List Int} {st : List (List Int)} (f : Fits hs st) (M : Store) : Pg.call d "stands" [iv hs, sv st] M = .ok (.bl true) M := by
  obtain ⟨d, rfl⟩ : ∃ n, d = n + 1 := ⟨d - 1, by omega⟩
  rw [callS fn_stands rfl]
  have s0 : startE c_stands [iv hs, sv st] = [some (iv hs), some (sv st), none, none, none] := rfl
  have v0 : ∀ w, denE w (.var 0) [some (iv hs), some (sv st), none, none, none] M = .ok (iv hs) M := fun w => rfl
  have v1 : ∀ w, denE w (.var 1) [some (iv hs), some (sv st), none, none, none] M = .ok (sv st) M := fun w => rfl
  rw [s0]
  have c1 := e_or (e_not (x := true) (show denE (Pg.wld d) (.isi (.var 1) ["Yard"] [.tuple]) [some (iv hs), some (sv st), none, none, none] M = _ from rfl)) fun _ => e_ne (e_bi (es_cons (v1 _) es_nil) len_sv) (e_bi (es_cons (v0 (Pg.wld d)) es_nil) len_iv)
  have r1 : denE (Pg.wld d) (.bi .all (.cons (.lc [2, 3, 4] (.tup (.cons (.nm 3) (.cons (.nm 4) .nil))) (.zip (.var 1) (.var 0)) (.cst (.bl true)) (.call "is_pile" (.cons (.var 3) (.cons (.var 4) .nil)))) .nil)) [some (iv hs), some (sv st), none, none, none] M = .ok (.bl true) M := by
    rw [all_lc (k := (zipL (st.map iv) (hs.map .int), [])) (p := fun _ => true) rfl rfl (by rw [zipL_len, List.length_map, List.length_map]; have := f.n8; unfold cap; omega) fun x hx => ?_]
    · congr 2
      rw [List.all_eq_true]
      exact fun _ _ => rfl
    · obtain ⟨i, hi⟩ := List.mem_iff_getElem?.mp hx
      obtain ⟨y, z, e1, e2, rfl⟩ := zipL_get _ _ _ _ hi
      rw [List.getElem?_map] at e1 e2
      cases q1 : st[i]? with
      | none => rw [q1] at e1; cases e1
      | some b =>
        cases q2 : hs[i]? with
        | none => rw [q2] at e2; cases e2
        | some h =>
          rw [q1] at e1
          rw [q2] at e2
          cases e1
          cases e2
          exact ⟨[some (iv hs), some (sv st), none, some (iv b), some (.int h)], rfl, e_call (es_cons rfl (es_cons rfl es_nil)) (sp_is_pile d (by omega) (f.fit i b h q1 q2) (f.th b (List.mem_of_getElem? q1)) (f.h h (List.mem_of_getElem? q2)).2 M)⟩
  have z : (!true || !decide ((st.length : Int) = hs.length)) = false := by
    rw [Bool.not_true, Bool.false_or, Bool.not_eq_false', decide_eq_true_eq, f.len]
  rw [z] at c1
  have e : denSs (Pg.wld d) c_stands.body [some (iv hs), some (sv st), none, none, none] M = .rt (.bl true) M := (ss_cons ((s_if c1).trans (if_neg Bool.false_ne_true))).trans (ss_rt (s_ret r1))
  rw [e]; rfl
/-- a yard lies at y -/
def yardO (hs : List Int) : PO := .ins "Yard" [("heights", iv hs)]
theorem sp_check_yard (d : Nat) (hd : 1 ≤ d) {hs : List Int} {M : Store} {y : Nat} (hy : M[y]? = some (yardO hs)) : Pg.call d "check_yard" [.loc y] M = .ok .non M := by
  obtain ⟨d, rfl⟩ : ∃ n, d = n + 1 := ⟨d - 1, by omega⟩
  rw [callS fn_check_yard rfl]
  have s0 : startE c_check_yard [PV.loc y] = [some (.loc y)] := rfl
  rw [s0]
  have i1 : denE (Pg.wld d) (.isi (.var 0) ["Yard"] [.cls "Yard"]) [some (.loc y)] M = .ok (.bl true) M := by
    rw [e_isi rfl (known_ins hy (List.mem_singleton.mpr rfl)), List.any_cons, tyIs_cls hy]
    rfl
  have e : denSs (Pg.wld d) c_check_yard.body [some (.loc y)] M = .nx [some (.loc y)] M := ss_cons ((s_if (e_not i1)).trans (if_neg Bool.false_ne_true))
  rw [e]; rfl
theorem e_heights {w : Wld} {hs : List Int} {M : Store} {y : Nat} {a : E} {σ : Mini.Env} (hy : M[y]? = some (yardO hs)) (h : denE w a σ M = .ok (.loc y) M) : denE w (.fld a ["Yard"] "heights") σ M = .ok (iv hs) M := by
  unfold denE
  rw [h]
  show fldV ["Yard"] (.loc y) "heights" M = _
  unfold fldV
  dsimp only
  rw [hy]
  rfl
theorem sp_check_stacking (d : Nat) (hd : 5 ≤ d) {hs : List Int} {st : List (List Int)} (f : Fits hs st) {M : Store} {y : Nat} (hy : M[y]? = some (yardO hs)) : Pg.call d "check_stacking" [.loc y, sv st] M = .ok .non M := by
  obtain ⟨d, rfl⟩ : ∃ n, d = n + 1 := ⟨d - 1, by omega⟩
  rw [callS fn_check_stacking rfl]
  have s0 : startE c_check_stacking [PV.loc y, sv st] = [some (.loc y), some (sv st)] := rfl
  rw [s0]
  have i1 : denE (Pg.wld d) (.call "check_yard" (.cons (.var 0) .nil)) [some (.loc y), some (sv st)] M = .ok .non M := e_call (es_cons rfl es_nil) (sp_check_yard d (by omega) hy)
  have i2 : denE (Pg.wld d) (.call "stands" (.cons (.fld (.var 0) ["Yard"] "heights") (.cons (.var 1) .nil))) [some (.loc y), some (sv st)] M = .ok (.bl true) M := e_call (es_cons (e_heights hy rfl) (es_cons rfl es_nil)) (sp_stands d (by omega) f M)
  have e : denSs (Pg.wld d) c_check_stacking.body [some (.loc y), some (sv st)] M = .nx [some (.loc y), some (sv st)] M := (ss_cons (s_expr i1)).trans (ss_cons ((s_if (e_not i2)).trans (if_neg Bool.false_ne_true)))
  rw [e]; rfl
theorem fn_is_lift : Pg.fn "is_lift" = some c_is_lift := by rfl
theorem sp_is_lift (d : Nat) (hd : 6 ≤ d) {hs : List Int} {st : List (List Int)} (f : Fits hs st) {M : Store} {y : Nat} (hy : M[y]? = some (yardO hs)) {i j : Nat} {bi bj : List Int} {hj : Int} (h1 : st[i]? = some bi) (h2 : st[j]? = some bj) (h3 : hs[j]? = some hj) :
    Pg.call d "is_lift" [.loc y, sv st, .tup [.int i, .int j]] M = .ok (.bl (decide (i ≠ j ∧ 0 < bi.length ∧ (bj.length : Int) < hj))) M := by
  obtain ⟨d, rfl⟩ : ∃ n, d = n + 1 := ⟨d - 1, by omega⟩
  rw [callS fn_is_lift rfl]
  have s0 : startE c_is_lift [PV.loc y, sv st, .tup [.int i, .int j]] = [some (.loc y), some (sv st), some (.tup [.int i, .int j])] := rfl
  rw [s0]
  have i1 : denE (Pg.wld d) (.call "check_stacking" (.cons (.var 0) (.cons (.var 1) .nil))) [some (.loc y), some (sv st), some (.tup [.int i, .int j])] M = .ok .non M := e_call (es_cons rfl (es_cons rfl es_nil)) (sp_check_stacking d (by omega) f hy)
  have i2 := e_call (w := Pg.wld d) (es_cons (e_heights hy (show denE (Pg.wld d) (.var 0) [some (.loc y), some (sv st), some (.tup [.int i, .int j])] M = _ from rfl)) (es_cons (a := .var 1) rfl (es_cons (a := .var 2) rfl es_nil))) (sp_goes d (by omega) f.len h1 h2 h3 M)
  have e : denSs (Pg.wld d) c_is_lift.body [some (.loc y), some (sv st), some (.tup [.int i, .int j])] M = _ := (ss_cons (s_expr i1)).trans (ss_rt (s_ret i2))
  rw [e]; rfl

/-! ### a lift's end -/
def bh (st : List (List Int)) (i j : Nat) (bi bj : List Int) : List (List Int) := (st.set j (bj ++ bi.drop (bi.length - 1))).set i (bi.take (bi.length - 1))
theorem sl_last {xs : List PV} (h : 0 < xs.length) (M : Store) : slV (.tup xs) (some (-1)) none M = .ok (.tup (xs.drop (xs.length - 1))) M := by
  unfold slV
  dsimp only
  have e1 : sIx xs.length 0 (some (-1)) = xs.length - 1 := by
    show (if (-1 : Int) < 0 then ((-1 : Int) + (xs.length : Int)).toNat else min (-1 : Int).toNat xs.length) = _
    rw [if_pos (by decide)]; omega
  have e2 : sIx xs.length xs.length none = xs.length := rfl
  rw [e1, e2]
  congr 2
  unfold cutL
  exact List.take_of_length_le (by rw [List.length_drop]; exact Nat.le_refl _)
theorem sl_init {xs : List PV} (h : 0 < xs.length) (M : Store) : slV (.tup xs) none (some (-1)) M = .ok (.tup (xs.take (xs.length - 1))) M := by
  unfold slV
  dsimp only
  have e1 : sIx xs.length xs.length (some (-1)) = xs.length - 1 := by
    show (if (-1 : Int) < 0 then ((-1 : Int) + (xs.length : Int)).toNat else min (-1 : Int).toNat xs.length) = _
    rw [if_pos (by decide)]; omega
  have e2 : sIx xs.length 0 none = 0 := rfl
  rw [e1, e2]
  congr 2
theorem sl_last_iv {b : List Int} (h : 0 < b.length) (M : Store) : slV (iv b) (some (-1)) none M = .ok (iv (b.drop (b.length - 1))) M := by
  unfold iv
  rw [sl_last (by rw [List.length_map]; exact h), List.length_map, List.map_drop]
theorem sl_init_iv {b : List Int} (h : 0 < b.length) (M : Store) : slV (iv b) none (some (-1)) M = .ok (iv (b.take (b.length - 1))) M := by
  unfold iv
  rw [sl_init (by rw [List.length_map]; exact h), List.length_map, List.map_take]
theorem add_iv {a b : List Int} (h : a.length + b.length ≤ cap) (M : Store) : bopV .add (iv a) (iv b) M = .ok (iv (a ++ b)) M := by
  unfold bopV iv
  dsimp only
  rw [List.length_map, List.length_map, if_pos h, List.map_append]
theorem setV_new {M N : Store} {xs : List PV} {j : Nat} {v : PV} (hj : j < xs.length) : setV (.loc M.length) (.int (j : Int)) v (M ++ .lst xs :: N) = .ok () (M ++ .lst (xs.set j v) :: N) := by
  unfold setV
  dsimp only
  rw [at_new]
  dsimp only
  have e : ixN xs.length (j : Int) = some j := by
    unfold ixN
    rw [if_pos (Int.natCast_nonneg _), if_pos (by omega), Int.toNat_natCast]
  rw [e]
  dsimp only
  rw [List.set_append_right _ _ (Nat.le_refl _), Nat.sub_self]
  rfl
theorem fn_behind : Pg.fn "behind" = some c_behind := by rfl
/-- e[a] = v of a list new in this def -/
theorem s_setnew {w : Wld} {M : Store} {xs : List PV} {k m : Nat} {j : Nat} {v : PV} {a : E} {σ : Mini.Env} (hk : σ[k]? = some (some (.loc M.length))) (hm : σ[m]? = some (some (.int (j : Int)))) (hj : j < xs.length) (ha : denE w a σ (M ++ [.lst xs]) = .ok v (M ++ [.lst xs])) :
    denS w (.asg (.ix (.var k) (.var m)) a) σ (M ++ [.lst xs]) = .nx σ (M ++ [.lst (xs.set j v)]) := by
  refine s_asgT ha ?_
  unfold denT denE
  rw [hk, hm]
  show Out.calm ((setV (.loc M.length) (.int (j : Int)) v (M ++ [.lst xs])).bind fun _ M => Out.ok σ M) = _
  rw [setV_new hj]
  rfl
theorem e_slL {w : Wld} {a lo : E} {σ : Mini.Env} {M : Store} {u t : PV} {i : Int} (h1 : denE w a σ M = .ok u M) (h2 : denE w lo σ M = .ok (.int i) M) (h : slV u (some i) none M = .ok t M) : denE w (.slL a lo) σ M = .ok t M := by
  unfold denE
  rw [h1]
  show ((denE w lo σ M).bind fun y M => opt M (intV y)).bind _ = _
  rw [h2]
  exact h
theorem e_slH {w : Wld} {a lo : E} {σ : Mini.Env} {M : Store} {u t : PV} {i : Int} (h1 : denE w a σ M = .ok u M) (h2 : denE w lo σ M = .ok (.int i) M) (h : slV u none (some i) M = .ok t M) : denE w (.slH a lo) σ M = .ok t M := by
  unfold denE
  rw [h1]
  show ((denE w lo σ M).bind fun y M => opt M (intV y)).bind _ = _
  rw [h2]
  exact h
theorem sp_behind (d : Nat) (hd : 1 ≤ d) {st : List (List Int)} {i j : Nat} {bi bj : List Int} (h1 : st[i]? = some bi) (h2 : st[j]? = some bj) (h0 : 0 < bi.length) (hc : bi.length + bj.length ≤ 1000) (M : Store) :
    ∃ N, Pg.call d "behind" [sv st, .tup [.int i, .int j]] M = .ok (sv (bh st i j bi bj)) (M ++ N) := by
  obtain ⟨d, rfl⟩ : ∃ n, d = n + 1 := ⟨d - 1, by omega⟩
  have hi : i < st.length := (List.getElem?_eq_some_iff.mp h1).1
  have hj : j < st.length := (List.getElem?_eq_some_iff.mp h2).1
  rw [callS fn_behind rfl]
  have s0 : startE c_behind [sv st, .tup [.int i, .int j]] = [some (sv st), some (.tup [.int i, .int j]), none, none, none] := rfl
  rw [s0]
  have t1 : denS (Pg.wld d) (.asg (.tup (.cons (.nm 2) (.cons (.nm 3) .nil))) (.var 1)) [some (sv st), some (.tup [.int i, .int j]), none, none, none] M = .nx [some (sv st), some (.tup [.int i, .int j]), some (.int i), some (.int j), none] M := rfl
  have t2 : denS (Pg.wld d) (.asg (.nm 4) (.bi .list (.cons (.var 0) .nil))) [some (sv st), some (.tup [.int i, .int j]), some (.int i), some (.int j), none] M = .nx [some (sv st), some (.tup [.int i, .int j]), some (.int i), some (.int j), some (.loc M.length)] (M ++ [.lst (st.map iv)]) := by
    refine s_asg ?_ (Nat.lt_succ_self 4)
    show gc M (.ok (.loc M.length) (M ++ [.lst (st.map iv)])) = _
    exact gc_lst
  generalize hσ : [some (sv st), some (PV.tup [.int i, .int j]), some (.int i), some (.int j), some (.loc M.length)] = σ at t2
  have v0 : ∀ M', denE (Pg.wld d) (.var 0) σ M' = .ok (sv st) M' := fun M' => by subst hσ; rfl
  have v2 : ∀ M', denE (Pg.wld d) (.var 2) σ M' = .ok (.int i) M' := fun M' => by subst hσ; rfl
  have v3 : ∀ M', denE (Pg.wld d) (.var 3) σ M' = .ok (.int j) M' := fun M' => by subst hσ; rfl
  have m1 : ∀ M', denE (Pg.wld d) (.neg (.cst (.int 1))) σ M' = .ok (.int (-1)) M' := fun M' => rfl
  have t3 := s_setnew (w := Pg.wld d) (M := M) (xs := st.map iv) (k := 4) (m := 3) (j := j) (σ := σ) (by subst hσ; rfl) (by subst hσ; rfl) (by rw [List.length_map]; exact hj)
    (e_bin (e_ix (v0 _) (v3 _) (ix_sv h2)) (e_slL (e_ix (v0 _) (v2 _) (ix_sv h1)) (m1 _) (sl_last_iv h0 _)) (add_iv (by rw [List.length_drop]; unfold cap; omega) _))
  have t4 := s_setnew (w := Pg.wld d) (M := M) (xs := (st.map iv).set j (iv (bj ++ bi.drop (bi.length - 1)))) (k := 4) (m := 2) (j := i) (σ := σ) (by subst hσ; rfl) (by subst hσ; rfl) (by rw [List.length_set, List.length_map]; exact hi)
    (e_slH (e_ix (v0 _) (v2 _) (ix_sv h1)) (m1 _) (sl_init_iv h0 _))
  have r : denE (Pg.wld d) (.bi .tuple (.cons (.var 4) .nil)) σ (M ++ [.lst (((st.map iv).set j (iv (bj ++ bi.drop (bi.length - 1)))).set i (iv (bi.take (bi.length - 1))))]) = .ok (sv (bh st i j bi bj)) (M ++ [.lst (((st.map iv).set j (iv (bj ++ bi.drop (bi.length - 1)))).set i (iv (bi.take (bi.length - 1))))]) := by
    refine e_bi (es_cons (u := .loc M.length) (by subst hσ; rfl) es_nil) ?_
    show (match seqL (.loc M.length) _ with | some xs => Out.ok (PV.tup xs) _ | none => .fail) = _
    rw [seqL_new]
    unfold sv bh
    rw [List.map_set, List.map_set]
  have e : denSs (Pg.wld d) c_behind.body [some (sv st), some (.tup [.int i, .int j]), none, none, none] M = _ := (ss_cons t1).trans ((ss_cons t2).trans ((ss_cons t3).trans ((ss_cons t4).trans (ss_rt (s_ret r)))))
  rw [e]
  exact ⟨_, rfl⟩
theorem under_iv {n : Nat} (b : List Int) : PV.under n (iv b) = true := unders_map (fun _ => rfl) b
theorem under_sv {n : Nat} (st : List (List Int)) : PV.under n (sv st) = true := unders_map (fun b => under_iv b) st
theorem fn_lifted : Pg.fn "lifted" = some c_lifted := by rfl
theorem sp_lifted (d : Nat) (hd : 6 ≤ d) {hs : List Int} {st : List (List Int)} (f : Fits hs st) {M : Store} {y : Nat} (hy : M[y]? = some (yardO hs)) {i j : Nat} {bi bj : List Int} {hj : Int} (h1 : st[i]? = some bi) (h2 : st[j]? = some bj) (h3 : hs[j]? = some hj) :
    Pg.call d "lifted" [.loc y, sv st, .tup [.int i, .int j]] M = if i ≠ j ∧ 0 < bi.length ∧ (bj.length : Int) < hj then .ok (sv (bh st i j bi bj)) M else .exc "BadLift" [] M := by
  obtain ⟨d, rfl⟩ : ∃ n, d = n + 1 := ⟨d - 1, by omega⟩
  rw [callS fn_lifted rfl]
  have s0 : startE c_lifted [PV.loc y, sv st, .tup [.int i, .int j]] = [some (.loc y), some (sv st), some (.tup [.int i, .int j])] := rfl
  rw [s0]
  have i1 : denE (Pg.wld d) (.call "check_stacking" (.cons (.var 0) (.cons (.var 1) .nil))) [some (.loc y), some (sv st), some (.tup [.int i, .int j])] M = .ok .non M := e_call (es_cons rfl (es_cons rfl es_nil)) (sp_check_stacking d (by omega) f hy)
  have i2 := e_call (w := Pg.wld d) (es_cons (e_heights hy (show denE (Pg.wld d) (.var 0) [some (.loc y), some (sv st), some (.tup [.int i, .int j])] M = _ from rfl)) (es_cons (a := .var 1) rfl (es_cons (a := .var 2) rfl es_nil))) (sp_goes d (by omega) f.len h1 h2 h3 M)
  by_cases g : i ≠ j ∧ 0 < bi.length ∧ (bj.length : Int) < hj
  · rw [if_pos g]
    rw [decide_eq_true g] at i2
    have hl1 := f.fit i bi _ h1 (List.getElem?_eq_getElem (by rw [← f.len]; exact (List.getElem?_eq_some_iff.mp h1).1))
    have hl2 := (f.h _ (List.getElem_mem (l := hs) (n := i) (by rw [← f.len]; exact (List.getElem?_eq_some_iff.mp h1).1))).2
    have hl3 := (f.h _ (List.mem_of_getElem? h3)).2
    have i3 : denE (Pg.wld d) (.call "behind" (.cons (.var 1) (.cons (.var 2) .nil))) [some (.loc y), some (sv st), some (.tup [.int i, .int j])] M = .ok (sv (bh st i j bi bj)) M := by
      obtain ⟨N, e⟩ := sp_behind d (by omega) h1 h2 g.2.1 (by omega) M
      show gc M (Pg.call d "behind" [sv st, .tup [.int i, .int j]] M) = _
      rw [e]
      exact gc_drop (under_sv _)
    have e : denSs (Pg.wld d) c_lifted.body [some (.loc y), some (sv st), some (.tup [.int i, .int j])] M = _ := (ss_cons (s_expr i1)).trans ((ss_cons ((s_if (e_not i2)).trans (if_neg (show ¬ ((!true) = true) from by decide)))).trans (ss_rt (s_ret i3)))
    rw [e]; rfl
  · rw [if_neg g]
    rw [decide_eq_false g] at i2
    have e : denSs (Pg.wld d) c_lifted.body [some (.loc y), some (sv st), some (.tup [.int i, .int j])] M = _ := (ss_cons (s_expr i1)).trans (ss_exc ((s_if (e_not i2)).trans (if_pos (show (!false) = true from rfl))))
    rw [e]; rfl

end Lawk05

namespace Lawk05
open PySem Mini
/-! ### all lifts -/
def goB (hs : List Int) (st : List (List Int)) (i j : Nat) : Bool := decide (i ≠ j ∧ 0 < (st.getD i []).length ∧ ((st.getD j []).length : Int) < hs.getD j 0)
def prI (hs : List Int) (st : List (List Int)) (n i : Nat) : List PV := ((List.range n).filter (goB hs st i)).map fun j => PV.tup [.int (i : Nat), .int (j : Nat)]
def prs (hs : List Int) (st : List (List Int)) : List PV := (List.range hs.length).flatMap (prI hs st hs.length)
theorem prI_len (hs : List Int) (st : List (List Int)) (n i : Nat) : (prI hs st n i).length ≤ n := by
  unfold prI
  rw [List.length_map]
  exact Nat.le_trans (List.length_filter_le _ _) (by rw [List.length_range]; exact Nat.le_refl _)
theorem flat_len {α β : Type} {f : α → List β} {n : Nat} : ∀ xs : List α, (∀ x ∈ xs, (f x).length ≤ n) → (xs.flatMap f).length ≤ xs.length * n
  | [], _ => by simp
  | x :: xs, h => by
    rw [List.flatMap_cons, List.length_append, List.length_cons, Nat.add_mul, Nat.one_mul]
    have h1 := h x List.mem_cons_self
    have h2 := flat_len xs fun y hy => h y (List.mem_cons_of_mem _ hy)
    omega
theorem prs_len {hs : List Int} (st : List (List Int)) (h8 : hs.length ≤ 8) : (prs hs st).length ≤ 64 := by
  unfold prs
  have h := flat_len (f := prI hs st hs.length) (n := hs.length) (List.range hs.length) fun x _ => prI_len _ _ _ _
  rw [List.length_range] at h
  exact Nat.le_trans h (Nat.mul_le_mul h8 h8)
theorem getD_at {α : Type} {xs : List α} {i : Nat} {x d : α} (h : xs[i]? = some x) : xs.getD i d = x := by
  rw [List.getD_eq_getElem?_getD, h]; rfl
theorem fn_all_going : Pg.fn "all_going" = some c_all_going := by rfl
theorem sp_all_going (d : Nat) (hd : 5 ≤ d) {hs : List Int} {st : List (List Int)} (hl : st.length = hs.length) (h8 : hs.length ≤ 8) (M : Store) :
    Pg.call d "all_going" [iv hs, sv st] M = .ok (.loc M.length) (M ++ [.lst (prs hs st)]) := by
  obtain ⟨d, rfl⟩ : ∃ n, d = n + 1 := ⟨d - 1, by omega⟩
  rw [callS fn_all_going rfl]
  have s0 : startE c_all_going [iv hs, sv st] = [some (iv hs), some (sv st), none, none, none, none] := rfl
  rw [s0]
  have t1 : denS (Pg.wld d) (.asg (.nm 2) (.bi .len (.cons (.var 0) .nil))) [some (iv hs), some (sv st), none, none, none, none] M = .nx [some (iv hs), some (sv st), some (.int hs.length), none, none, none] M :=
    s_asg (e_bi (es_cons (show denE _ (.var 0) _ M = .ok (iv hs) M from rfl) es_nil) len_iv) (by show 2 < 6; decide)
  have r : denE (Pg.wld d) (.lc2 [3, 4, 5] (.nm 4) (.rng (.var 2)) (.cst (.bl true)) [5] (.nm 5) (.rng (.var 2)) (.call "goes" (.cons (.var 0) (.cons (.var 1) (.cons (.tup (.cons (.var 4) (.cons (.var 5) .nil))) .nil)))) (.tup (.cons (.var 4) (.cons (.var 5) .nil))))
      [some (iv hs), some (sv st), some (.int hs.length), none, none, none] M = .ok (.loc M.length) (M ++ [.lst (prs hs st)]) := by
    rw [lc2_pure (k := ((List.range hs.length).map (fun (k : Nat) => PV.int (k : Int)), [])) (g := fun v => prI hs st hs.length (intOf v).toNat) (L := 64) (e_rng rfl (by omega)) rfl ?_ ?_]
    · congr 3
      show PO.lst (((List.range hs.length).map (fun (k : Nat) => PV.int (k : Int))).flatMap fun v => prI hs st hs.length (intOf v).toNat) = _
      rw [List.flatMap_map]
      rfl
    · rw [List.flatMap_map]
      exact prs_len st h8
    · intro x hx
      obtain ⟨i, hi, rfl⟩ := List.mem_map.mp hx
      have hi := List.mem_range.mp hi
      refine ⟨[some (iv hs), some (sv st), some (.int hs.length), none, some (.int i), none], ((List.range hs.length).map (fun (k : Nat) => PV.int (k : Int)), []), rfl, e_rng rfl (by omega), rfl, by rw [List.length_map, List.length_range]; unfold cap; omega, fun v => goB hs st i (intOf v).toNat, fun v => .tup [.int (i : Nat), v], ?_, fun y hy => ?_⟩
      · unfold prI
        rw [List.filter_map, List.map_map]
        rfl
      · obtain ⟨j, hj, rfl⟩ := List.mem_map.mp hy
        have hj := List.mem_range.mp hj
        have h1 : st[i]? = some (st[i]'(by omega)) := List.getElem?_eq_getElem _
        have h2 : st[j]? = some (st[j]'(by omega)) := List.getElem?_eq_getElem _
        have h3 : hs[j]? = some (hs[j]'(by omega)) := List.getElem?_eq_getElem _
        refine ⟨[some (iv hs), some (sv st), some (.int hs.length), none, some (.int i), some (.int j)], rfl, ?_, fun _ => rfl⟩
        refine (e_call (es_cons rfl (es_cons rfl (es_cons rfl es_nil))) (sp_goes d (by omega) hl h1 h2 h3 M)).trans ?_
        show Out.ok _ M = Out.ok (PV.bl (goB hs st i (j : Int).toNat)) M
        unfold goB
        rw [Int.toNat_natCast, getD_at h1, getD_at h2, getD_at h3]
  have e : denSs (Pg.wld d) c_all_going.body [some (iv hs), some (sv st), none, none, none, none] M = _ := (ss_cons t1).trans (ss_rt (s_ret r))
  rw [e]; rfl
theorem fn_lifts : Pg.fn "lifts" = some c_lifts := by rfl
theorem sp_lifts (d : Nat) (hd : 6 ≤ d) {hs : List Int} {st : List (List Int)} (f : Fits hs st) {M : Store} {y : Nat} (hy : M[y]? = some (yardO hs)) : Pg.call d "lifts" [.loc y, sv st] M = .ok (.loc M.length) (M ++ [.lst (prs hs st)]) := by
  obtain ⟨d, rfl⟩ : ∃ n, d = n + 1 := ⟨d - 1, by omega⟩
  rw [callS fn_lifts rfl]
  have s0 : startE c_lifts [PV.loc y, sv st] = [some (.loc y), some (sv st)] := rfl
  rw [s0]
  have i1 : denE (Pg.wld d) (.call "check_stacking" (.cons (.var 0) (.cons (.var 1) .nil))) [some (.loc y), some (sv st)] M = .ok .non M := e_call (es_cons rfl (es_cons rfl es_nil)) (sp_check_stacking d (by omega) f hy)
  have i2 : denE (Pg.wld d) (.call "all_going" (.cons (.fld (.var 0) ["Yard"] "heights") (.cons (.var 1) .nil))) [some (.loc y), some (sv st)] M = .ok (.loc M.length) (M ++ [.lst (prs hs st)]) := by
    unfold denE
    rw [es_cons (e_heights hy rfl) (es_cons (a := .var 1) (u := sv st) rfl es_nil)]
    show gc M (Pg.call d "all_going" [iv hs, sv st] M) = _
    rw [sp_all_going d (by omega) f.len f.n8 M, gc_lst]
  have e : denSs (Pg.wld d) c_lifts.body [some (.loc y), some (sv st)] M = _ := (ss_cons (s_expr i1)).trans (ss_rt (s_ret i2))
  rw [e]; rfl
/-! ### a yard -/
theorem fn_yard : Pg.fn "Yard.__init__" = some c_Yard___init__ := by rfl
theorem sp_yard (d : Nat) (hd : 3 ≤ d) {hs : List Int} (h0 : hs ≠ []) (h8 : hs.length ≤ 8) (h9 : ∀ h ∈ hs, 1 ≤ h ∧ h ≤ 9) (M : Store) :
    Pg.call d "Yard.__init__" [.loc M.length, iv hs] (M ++ [.ins "Yard" []]) = .ok .non (M ++ [yardO hs]) := by
  obtain ⟨d, rfl⟩ : ∃ n, d = n + 1 := ⟨d - 1, by omega⟩
  rw [callS fn_yard rfl]
  have s0 : startE c_Yard___init__ [PV.loc M.length, iv hs] = [some (.loc M.length), some (iv hs), none, none] := rfl
  rw [s0]
  generalize hM1 : M ++ [PO.ins "Yard" []] = M1
  have c1 := e_or (e_not (x := true) (show denE (Pg.wld d) (.isi (.var 1) ["Yard"] [.tuple]) [some (.loc M.length), some (iv hs), none, none] M1 = _ from rfl)) fun _ => e_eq (e_bi (es_cons (show denE (Pg.wld d) (.var 1) [some (.loc M.length), some (iv hs), none, none] M1 = .ok (iv hs) M1 from rfl) es_nil) len_iv) (show denE (Pg.wld d) (.cst (.int 0)) [some (.loc M.length), some (iv hs), none, none] M1 = .ok (.int 0) M1 from rfl)
  have z : (!true || decide ((hs.length : Int) = 0)) = false := by
    have := List.length_pos_iff.mpr h0
    rw [Bool.not_true, Bool.false_or, decide_eq_false_iff_not]; omega
  rw [z] at c1
  obtain ⟨σ', M', e2, ⟨v2, v3, hσ, hM'⟩⟩ := s_for (w := Pg.wld d) (t := .tup (.cons (.nm 2) (.cons (.nm 3) .nil))) (it := .enm (.var 1)) (b := .cons (.ife (.or (.cmp .ge (.var 2) (.glo "MOST_STACKS")) (.not (.call "is_within" (.cons (.var 3) (.cons (.cst (.int (1))) (.cons (.glo "MOST_HEIGHT") .nil)))))) (.cons (.expr .bad) .nil) .nil) .nil)
    (σ := [some (.loc M.length), some (iv hs), none, none]) (M := M1) (k := (enmL 0 (hs.map .int), [])) (fun i σ M' => ∃ v2 v3, σ = [some (.loc M.length), some (iv hs), v2, v3] ∧ M' = M1) rfl ⟨none, none, rfl, rfl⟩ (fun _ _ _ _ => rfl) fun i x σ M' hx hI => by
      obtain ⟨v2, v3, rfl, hM'⟩ := hI
      rw [enmL_at, List.getElem?_map] at hx
      cases q : hs[i]? with
      | none => rw [q] at hx; cases hx
      | some h =>
        rw [q] at hx
        cases hx
        have hi : i < hs.length := (List.getElem?_eq_some_iff.mp q).1
        have hh := h9 h (List.mem_of_getElem? q)
        refine ⟨[some (.loc M.length), some (iv hs), some (.int ((0 + i : Nat) : Int)), some (.int h)], M', [some (.loc M.length), some (iv hs), some (.int ((0 + i : Nat) : Int)), some (.int h)], M', rfl, ?_, _, _, rfl, hM'⟩
        have c := e_or (e_ge (show denE (Pg.wld d) (.var 2) [some (.loc M.length), some (iv hs), some (.int ((0 + i : Nat) : Int)), some (.int h)] M' = .ok (.int ((0 + i : Nat) : Int)) M' from rfl) (e_glo glo_stacks)) fun _ => e_not (e_call (es_cons (show denE (Pg.wld d) (.var 3) [some (.loc M.length), some (iv hs), some (.int ((0 + i : Nat) : Int)), some (.int h)] M' = .ok (.int h) M' from rfl) (es_cons (show denE (Pg.wld d) (.cst (.int 1)) [some (.loc M.length), some (iv hs), some (.int ((0 + i : Nat) : Int)), some (.int h)] M' = .ok (.int 1) M' from rfl) (es_cons (e_glo glo_height) es_nil))) (sp_is_within d (by omega) h 1 9 M'))
        have z : (decide ((8 : Int) ≤ ((0 + i : Nat) : Int)) || !decide (1 ≤ h ∧ h ≤ 9)) = false := by
          rw [Bool.or_eq_false_iff, Bool.not_eq_false']
          exact ⟨decide_eq_false (by omega), decide_eq_true hh⟩
        rw [z] at c
        exact ss_cons ((s_if c).trans (if_neg Bool.false_ne_true))
  rw [hσ, hM'] at e2
  have e3 : denS (Pg.wld d) (.asg (.fl (.var 0) ["Yard"] "heights") (.var 1)) [some (.loc M.length), some (iv hs), v2, v3] M1 = .nx [some (.loc M.length), some (iv hs), v2, v3] (M ++ [yardO hs]) := by
    refine s_asgT (u := iv hs) rfl ?_
    have g : fldS ["Yard"] (.loc M.length) "heights" (iv hs) M1 = .ok () (M ++ [yardO hs]) := by
      unfold fldS
      dsimp only
      have q : M1[M.length]? = some (PO.ins "Yard" []) := by rw [← hM1]; exact at_new
      rw [q]
      show (if _ then Out.ok () (M1.set M.length (yardO hs)) else .fail) = _
      rw [if_pos ⟨List.mem_singleton.mpr rfl, by decide⟩, ← hM1, set_new]
    have v : denE (Pg.wld d) (.var 0) [some (.loc M.length), some (iv hs), v2, v3] M1 = .ok (.loc M.length) M1 := rfl
    rw [denT, v, Out.bind, g]; rfl
  have e : denSs (Pg.wld d) c_Yard___init__.body [some (.loc M.length), some (iv hs), none, none] M1 = _ := (ss_cons ((s_if c1).trans (if_neg Bool.false_ne_true))).trans ((ss_cons e2).trans (ss_cons e3))
  rw [e]; rfl

end Lawk05

namespace Lawk05
open PySem Mini
/-! ### the same, by _law_same -/
def Sm (M : Store) : Nat → PV → PV → Prop
  | 0, _, _ => False
  | n + 1, x, y => match y with
    | .tup ys => ∃ xs, x = .tup xs ∧ xs.length = ys.length ∧ ys.length ≤ cap ∧ ∀ (i : Nat) a b, xs[i]? = some a → ys[i]? = some b → Sm M n a b
    | .loc q => ∃ p xs ys, x = .loc p ∧ M[p]? = some (.lst xs) ∧ M[q]? = some (.lst ys) ∧ xs.length = ys.length ∧ ys.length ≤ cap ∧ ∀ (i : Nat) a b, xs[i]? = some a → ys[i]? = some b → Sm M n a b
    | .int j => x = .int j
    | .str s => x = .str s ∧ strOk s = true
    | .bl b => x = .bl b
    | .non => x = .non
    | _ => False
theorem fn__law_same : Pg.fn "_law_same" = some c__law_same := by rfl
theorem Sm.ne {M : Store} {n : Nat} {x y : PV} (h : Sm M n x y) : isExn x = false ∧ isExn y = false := by
  cases n with
  | zero => exact absurd h id
  | succ n =>
    cases y with
    | tup ys => obtain ⟨_, rfl, _⟩ := h; exact ⟨rfl, rfl⟩
    | loc q => obtain ⟨_, _, _, rfl, _⟩ := h; exact ⟨rfl, rfl⟩
    | int j => obtain rfl : x = .int j := h; exact ⟨rfl, rfl⟩
    | str z => obtain ⟨rfl, _⟩ := h; exact ⟨rfl, rfl⟩
    | bl b => obtain rfl : x = .bl b := h; exact ⟨rfl, rfl⟩
    | non => obtain rfl : x = .non := h; exact ⟨rfl, rfl⟩
    | exn _ _ => exact absurd h id
def zipC : E := .bi .all (.cons (.lc [2, 3, 4] (.tup (.cons (.nm 3) (.cons (.nm 4) .nil))) (.zip (.var 0) (.var 1)) (.cst (.bl true)) (.call "_law_same" (.cons (.var 3) (.cons (.var 4) .nil)))) .nil)
theorem same_zip {d : Nat} {M : Store} {n : Nat} {x y : PV} {xs ys : List PV} {ws : List (Nat × List PV)} (hi : denIt (Pg.wld d) (.zip (.var 0) (.var 1)) [some x, some y, none, none, none] M = .ok (zipL xs ys, ws) M) (hs : still ws M = true) (hl : xs.length = ys.length) (hc : ys.length ≤ cap)
    (h : ∀ (i : Nat) a b, xs[i]? = some a → ys[i]? = some b → Sm M n a b) (ih : ∀ a b, Sm M n a b → Pg.call d "_law_same" [a, b] M = .ok (.bl true) M) : denE (Pg.wld d) zipC [some x, some y, none, none, none] M = .ok (.bl true) M := by
  unfold zipC
  rw [all_lc (p := fun _ => true) hi hs (by rw [zipL_len]; omega) fun z hz => ?_]
  · congr 2
    rw [List.all_eq_true]
    exact fun _ _ => rfl
  · obtain ⟨i, hi⟩ := List.mem_iff_getElem?.mp hz
    obtain ⟨a, b, e1, e2, rfl⟩ := zipL_get _ _ _ _ hi
    exact ⟨[some x, some y, none, some a, some b], rfl, e_call (es_cons (e_var rfl (h i a b e1 e2).ne.1) (es_cons (e_var rfl (h i a b e1 e2).ne.2) es_nil)) (ih a b (h i a b e1 e2))⟩
theorem eqD_str {z : Str} {M : Store} (hz : strOk z = true) : eqD (.str z) (.str z) M = some true := by
  unfold eqD
  rw [if_pos ⟨hz, hz⟩]
  show some (z == z) = _
  rw [beq_self_eq_true]
def sameC1 : E := .isi (.var 1) ["Yard"] [.tuple, .list]
def sameC2 : E := (.or (.isi (.var 1) ["Yard"] [.bool]) (.or (.isi (.var 0) ["Yard"] [.bool]) (.or (.cmp .is (.var 1) (.cst .non)) (.cmp .is (.var 0) (.cst .non)))))
theorem same_int {d : Nat} {M : Store} {x : PV} {t : Bool} (hx : isExn x = false) (h1 : denE (Pg.wld d) sameC1 [some x, some x, none, none, none] M = .ok (.bl false) M) (h2 : denE (Pg.wld d) sameC2 [some x, some x, none, none, none] M = .ok (.bl false) M)
    (h3 : eqD x x M = some true) (h4 : denE (Pg.wld d) (.isi (.var 0) ["Yard"] [.str]) [some x, some x, none, none, none] M = .ok (.bl t) M) (h5 : denE (Pg.wld d) (.isi (.var 1) ["Yard"] [.str]) [some x, some x, none, none, none] M = .ok (.bl t) M)
    (h6 : denE (Pg.wld d) (.isi (.var 0) ["Yard"] [.int, .str]) [some x, some x, none, none, none] M = .ok (.bl true) M) :
    (denSs (Pg.wld d) c__law_same.body [some x, some x, none, none, none] M).out = .ok (.bl true) M := by
  have v0 : denE (Pg.wld d) (.var 0) [some x, some x, none, none, none] M = .ok x M := e_var rfl hx
  have v1 : denE (Pg.wld d) (.var 1) [some x, some x, none, none, none] M = .ok x M := e_var rfl hx
  have r := e_and (e_eqD h4 h5 eqD_bl) fun _ => e_and h6 fun _ => e_eqD v0 v1 h3
  rw [decide_eq_true rfl] at r
  have e : denSs (Pg.wld d) c__law_same.body [some x, some x, none, none, none] M = .rt (.bl true) M :=
    (ss_cons ((s_if h1).trans (if_neg Bool.false_ne_true))).trans ((ss_cons ((s_if h2).trans (if_neg Bool.false_ne_true))).trans (ss_rt (s_ret r)))
  rw [e]; rfl
theorem same_flag {d : Nat} {M : Store} {x : PV} {t u : Bool} (hx : isExn x = false) (h1 : denE (Pg.wld d) sameC1 [some x, some x, none, none, none] M = .ok (.bl false) M) (h2 : denE (Pg.wld d) sameC2 [some x, some x, none, none, none] M = .ok (.bl true) M)
    (h3 : eqD x x M = some true) (h4 : denE (Pg.wld d) (.isi (.var 0) ["Yard"] [.bool]) [some x, some x, none, none, none] M = .ok (.bl t) M) (h5 : denE (Pg.wld d) (.isi (.var 1) ["Yard"] [.bool]) [some x, some x, none, none, none] M = .ok (.bl t) M)
    (h6 : denE (Pg.wld d) (.cmp .is (.var 0) (.cst .non)) [some x, some x, none, none, none] M = .ok (.bl u) M) (h7 : denE (Pg.wld d) (.cmp .is (.var 1) (.cst .non)) [some x, some x, none, none, none] M = .ok (.bl u) M) :
    (denSs (Pg.wld d) c__law_same.body [some x, some x, none, none, none] M).out = .ok (.bl true) M := by
  have v0 : denE (Pg.wld d) (.var 0) [some x, some x, none, none, none] M = .ok x M := e_var rfl hx
  have v1 : denE (Pg.wld d) (.var 1) [some x, some x, none, none, none] M = .ok x M := e_var rfl hx
  have r := e_and (e_eqD h4 h5 eqD_bl) fun _ => e_and (e_eqD h6 h7 eqD_bl) fun _ => e_eqD v0 v1 h3
  rw [decide_eq_true rfl, decide_eq_true rfl] at r
  have e : denSs (Pg.wld d) c__law_same.body [some x, some x, none, none, none] M = .rt (.bl true) M :=
    (ss_cons ((s_if h1).trans (if_neg Bool.false_ne_true))).trans (ss_rt ((s_if h2).trans ((if_pos rfl).trans (ss_rt (s_ret r)))))
  rw [e]; rfl
theorem sp_same (M : Store) : ∀ (n d : Nat), n ≤ d → ∀ x y, Sm M n x y → Pg.call d "_law_same" [x, y] M = .ok (.bl true) M := by
  intro n
  induction n with
  | zero => intro d _ x y h; exact absurd h id
  | succ n ih =>
    intro d hd x y h
    obtain ⟨d, rfl⟩ : ∃ n, d = n + 1 := ⟨d - 1, by omega⟩
    rw [callS fn__law_same rfl]
    have s0 : startE c__law_same [x, y] = [some x, some y, none, none, none] := rfl
    rw [s0]
    have ih := ih d (by omega)
    cases y with
    | tup ys =>
      obtain ⟨xs, rfl, hl, hc, h⟩ := h
      have z := same_zip (d := d) (M := M) (x := .tup xs) (y := .tup ys) (ws := []) rfl rfl hl hc h ih
      have c1 : denE (Pg.wld d) (.isi (.var 1) ["Yard"] [.tuple, .list]) [some (.tup xs), some (.tup ys), none, none, none] M = .ok (.bl true) M := rfl
      have c2 : denE (Pg.wld d) (.or (.cmp .ne (.isi (.var 0) ["Yard"] [.tuple]) (.isi (.var 1) ["Yard"] [.tuple])) (.not (.isi (.var 0) ["Yard"] [.tuple, .list]))) [some (.tup xs), some (.tup ys), none, none, none] M = .ok (.bl false) M :=
        e_or (x := false) (e_neD (u := .bl true) (v := .bl true) (x := true) rfl rfl eqD_bl) fun _ => rfl
      have c3 := e_and (e_eq (e_bi (es_cons (show denE (Pg.wld d) (.var 0) [some (.tup xs), some (.tup ys), none, none, none] M = .ok (.tup xs) M from rfl) es_nil) biv_lenT) (e_bi (es_cons (show denE (Pg.wld d) (.var 1) [some (.tup xs), some (.tup ys), none, none, none] M = .ok (.tup ys) M from rfl) es_nil) biv_lenT)) fun _ => z
      have z2 : (decide ((xs.length : Int) = ys.length) && true) = true := by rw [Bool.and_true, decide_eq_true_eq, hl]
      rw [z2] at c3
      have e : denSs (Pg.wld d) c__law_same.body [some (.tup xs), some (.tup ys), none, none, none] M = .rt (.bl true) M :=
        ss_rt ((s_if c1).trans ((if_pos rfl).trans ((ss_cons ((s_if c2).trans (if_neg Bool.false_ne_true))).trans (ss_rt (s_ret c3)))))
      rw [e]; rfl
    | loc q =>
      obtain ⟨p, xs, ys, rfl, hp, hq, hl, hc, h⟩ := h
      have z := same_zip (d := d) (M := M) (x := .loc p) (y := .loc q) (xs := xs) (ys := ys) (ws := [(p, xs), (q, ys)]) (by
        rw [denIt, show denE (Pg.wld d) (.var 0) [some (.loc p), some (.loc q), none, none, none] M = .ok (.loc p) M from rfl, Out.bind, show denE (Pg.wld d) (.var 1) [some (.loc p), some (.loc q), none, none, none] M = .ok (.loc q) M from rfl, Out.bind, seqW_lst hp]; show (opt M (seqW (.loc q) M)).bind _ = _; rw [seqW_lst hq]; rfl) (by
        have a := still_lst hp
        have b := still_lst hq
        unfold still at a b ⊢
        rw [List.all_cons, List.all_nil, Bool.and_true] at a b
        rw [List.all_cons, List.all_cons, List.all_nil, a, b]; rfl) hl hc h ih
      have ip : denE (Pg.wld d) (.isi (.var 0) ["Yard"] [.tuple]) [some (.loc p), some (.loc q), none, none, none] M = .ok (.bl false) M := e_isi rfl (known_lst hp)
      have iq : denE (Pg.wld d) (.isi (.var 1) ["Yard"] [.tuple]) [some (.loc p), some (.loc q), none, none, none] M = .ok (.bl false) M := e_isi rfl (known_lst hq)
      have ip2 : denE (Pg.wld d) (.isi (.var 0) ["Yard"] [.tuple, .list]) [some (.loc p), some (.loc q), none, none, none] M = .ok (.bl true) M := by
        rw [e_isi rfl (known_lst hp), List.any_cons, List.any_cons, tyIs_lst hp]; rfl
      have c1 : denE (Pg.wld d) (.isi (.var 1) ["Yard"] [.tuple, .list]) [some (.loc p), some (.loc q), none, none, none] M = .ok (.bl true) M := by
        rw [e_isi rfl (known_lst hq), List.any_cons, List.any_cons, tyIs_lst hq]; rfl
      have c2 : denE (Pg.wld d) (.or (.cmp .ne (.isi (.var 0) ["Yard"] [.tuple]) (.isi (.var 1) ["Yard"] [.tuple])) (.not (.isi (.var 0) ["Yard"] [.tuple, .list]))) [some (.loc p), some (.loc q), none, none, none] M = .ok (.bl false) M :=
        e_or (x := false) (e_neD (u := .bl false) (v := .bl false) (x := true) ip iq eqD_bl) fun _ => e_not (x := true) ip2
      have c3 := e_and (e_eq (e_bi (es_cons (show denE (Pg.wld d) (.var 0) [some (.loc p), some (.loc q), none, none, none] M = .ok (.loc p) M from rfl) es_nil) (biv_lenL hp)) (e_bi (es_cons (show denE (Pg.wld d) (.var 1) [some (.loc p), some (.loc q), none, none, none] M = .ok (.loc q) M from rfl) es_nil) (biv_lenL hq))) fun _ => z
      have z2 : (decide ((xs.length : Int) = ys.length) && true) = true := by rw [Bool.and_true, decide_eq_true_eq, hl]
      rw [z2] at c3
      have e : denSs (Pg.wld d) c__law_same.body [some (.loc p), some (.loc q), none, none, none] M = .rt (.bl true) M :=
        ss_rt ((s_if c1).trans ((if_pos rfl).trans ((ss_cons ((s_if c2).trans (if_neg Bool.false_ne_true))).trans (ss_rt (s_ret c3)))))
      rw [e]; rfl
    | int j =>
      obtain rfl : x = .int j := h
      exact same_int (t := false) rfl rfl rfl (eqD_int.trans (congrArg some (decide_eq_true rfl))) rfl rfl rfl
    | str z =>
      obtain ⟨rfl, hz⟩ : x = .str z ∧ _ := h
      exact same_int (t := true) rfl rfl rfl (eqD_str hz) rfl rfl rfl
    | bl b =>
      obtain rfl : x = .bl b := h
      exact same_flag (t := true) (u := false) rfl rfl rfl (eqD_bl.trans (congrArg some (decide_eq_true rfl))) rfl rfl rfl rfl
    | non =>
      obtain rfl : x = .non := h
      exact same_flag (t := false) (u := true) rfl rfl rfl rfl rfl rfl rfl rfl
    | exn _ _ => exact absurd h id

end Lawk05

namespace Lawk05
open PySem Mini
/-! ### the law's own list of lifts -/
theorem fn__law_lifts : Pg.fn "_law_lifts" = some c__law_lifts := by rfl
def fstI (v : PV) : Nat := match v with
  | .tup (x :: _) => (intOf x).toNat
  | _ => 0
theorem enm_fst : ∀ (xs : List PV) (k : Nat), (enmL k xs).map fstI = (List.range xs.length).map (k + ·) := by
  intro xs k
  refine List.ext_getElem? fun i => ?_
  rw [List.getElem?_map, enmL_at, List.getElem?_map]
  cases h : xs[i]? with
  | none =>
    rw [List.getElem?_eq_none (by rw [List.length_range]; exact List.getElem?_eq_none_iff.mp h)]; rfl
  | some x =>
    have hi := (List.getElem?_eq_some_iff.mp h).1
    rw [List.getElem?_range hi]
    show some (fstI (.tup [.int ((k + i : Nat) : Int), x])) = some (k + i)
    show some (((k + i : Nat) : Int).toNat) = _
    rw [Int.toNat_natCast]
theorem enm_fst0 (xs : List PV) : (enmL 0 xs).map fstI = List.range xs.length := by
  rw [enm_fst]
  exact (List.map_congr_left fun i _ => Nat.zero_add i).trans (List.map_id _)
theorem mt_extend {M : Store} {q r : Nat} {xs ys : List PV} (h : M[q]? = some (.lst xs)) (h2 : M[r]? = some (.lst ys)) (hl : xs.length + ys.length ≤ cap) (hn : r ≠ q) : mtV .extend (.loc q) [.loc r] M = .ok .non (M.set q (.lst (xs ++ ys))) := by
  unfold mtV
  dsimp only
  rw [h]
  dsimp only
  unfold seqX
  dsimp only
  rw [h2]
  dsimp only
  rw [if_pos ⟨hl, fun e => hn (by injection e)⟩]
/-- the lifts from the first stacks -/
def prU (hs : List Int) (st : List (List Int)) (i : Nat) : List PV := (List.range i).flatMap (prI hs st hs.length)
theorem prU_len {hs : List Int} (st : List (List Int)) (h8 : hs.length ≤ 8) {i : Nat} (hi : i ≤ hs.length) : (prU hs st i).length ≤ 64 := by
  unfold prU
  have h := flat_len (f := prI hs st hs.length) (n := hs.length) (List.range i) fun x _ => prI_len _ _ _ _
  rw [List.length_range] at h
  exact Nat.le_trans h (Nat.mul_le_mul (Nat.le_trans hi h8) h8)
theorem prU_succ (hs : List Int) (st : List (List Int)) (i : Nat) : prU hs st (i + 1) = prU hs st i ++ prI hs st hs.length i := by
  unfold prU
  rw [List.range_succ, List.flatMap_append, List.flatMap_singleton]
theorem sp__law_lifts (d : Nat) (hd : 1 ≤ d) {hs : List Int} {st : List (List Int)} (hl : st.length = hs.length) (h8 : hs.length ≤ 8) (M : Store) : ∃ N, Pg.call d "_law_lifts" [iv hs, sv st] M = .ok (.loc M.length) (M ++ .lst (prs hs st) :: N) := by
  obtain ⟨d, rfl⟩ : ∃ n, d = n + 1 := ⟨d - 1, by omega⟩
  rw [callS fn__law_lifts rfl]
  have s0 : startE c__law_lifts [iv hs, sv st] = [some (iv hs), some (sv st), none, none, none, none, none, none] := rfl
  rw [s0]
  have t1 : denS (Pg.wld d) (.asg (.nm 2) (.lst .nil)) [some (iv hs), some (sv st), none, none, none, none, none, none] M = .nx [some (iv hs), some (sv st), some (.loc M.length), none, none, none, none, none] (M ++ [.lst []]) := s_asg rfl (by show 2 < 8; decide)
  obtain ⟨σ', M', e2, ⟨v3, v4, N, hσ, hM'⟩⟩ := s_for (w := Pg.wld d) (t := .tup (.cons (.nm 3) (.cons (.nm 4) .nil))) (it := .enm (.var 1)) (b := (.cons (.ife (.cmp .gt (.bi .len (.cons (.var 4) .nil)) (.cst (.int (0)))) (.cons (.expr (.mt .extend (.var 2) (.cons (.lc [5, 6, 7] (.tup (.cons (.nm 6) (.cons (.nm 7) .nil))) (.enm (.var 1)) (.and (.cmp .ne (.var 6) (.var 3)) (.cmp .lt (.bi .len (.cons (.var 7) .nil)) (.ix (.var 0) (.var 6)))) (.tup (.cons (.var 3) (.cons (.var 6) .nil)))) .nil))) .nil) .nil) .nil))
    (σ := [some (iv hs), some (sv st), some (.loc M.length), none, none, none, none, none]) (M := M ++ [.lst []]) (k := (enmL 0 (st.map iv), [])) (fun i σ M' => ∃ v3 v4 N, σ = [some (iv hs), some (sv st), some (.loc M.length), v3, v4, none, none, none] ∧ M' = M ++ .lst (prU hs st i) :: N) rfl ⟨none, none, [], rfl, rfl⟩ (fun _ _ _ _ => rfl) fun i x σ M' hx hI => by
      obtain ⟨v3, v4, N, rfl, hM'⟩ := hI
      rw [enmL_at, List.getElem?_map] at hx
      cases q : st[i]? with
      | none => rw [q] at hx; cases hx
      | some b =>
        rw [q] at hx
        cases hx
        have hi : i < st.length := (List.getElem?_eq_some_iff.mp q).1
        have c1 := e_gt (e_bi (es_cons (show denE (Pg.wld d) (.var 4) [some (iv hs), some (sv st), some (.loc M.length), some (.int ((0 + i : Nat) : Int)), some (iv b), none, none, none] M' = .ok (iv b) M' from rfl) es_nil) len_iv) (show denE (Pg.wld d) (.cst (.int 0)) [some (iv hs), some (sv st), some (.loc M.length), some (.int ((0 + i : Nat) : Int)), some (iv b), none, none, none] M' = .ok (.int 0) M' from rfl)
        by_cases hb : 0 < b.length
        · have r : denE (Pg.wld d) (.lc [5, 6, 7] (.tup (.cons (.nm 6) (.cons (.nm 7) .nil))) (.enm (.var 1)) (.and (.cmp .ne (.var 6) (.var 3)) (.cmp .lt (.bi .len (.cons (.var 7) .nil)) (.ix (.var 0) (.var 6)))) (.tup (.cons (.var 3) (.cons (.var 6) .nil))))
              [some (iv hs), some (sv st), some (.loc M.length), some (.int ((0 + i : Nat) : Int)), some (iv b), none, none, none] M' = .ok (.loc M'.length) (M' ++ [.lst (prI hs st hs.length i)]) := by
            rw [lc_pure (k := (enmL 0 (st.map iv), [])) (p := fun v => goB hs st i (fstI v)) (f := fun v => .tup [.int (i : Nat), .int (fstI v : Nat)]) rfl rfl (by rw [enmL_len, List.length_map]; unfold cap; omega) fun z hz => ?_]
            · have e : ((enmL 0 (st.map iv)).filter fun v => goB hs st i (fstI v)).map (fun v => PV.tup [.int (i : Nat), .int (fstI v : Nat)]) = prI hs st hs.length i := by
                unfold prI
                rw [← hl, ← List.length_map (f := iv), ← enm_fst0, List.filter_map, List.map_map]
                rfl
              rw [e, gc_lst]
            · obtain ⟨j, hj⟩ := List.mem_iff_getElem?.mp hz
              rw [enmL_at, List.getElem?_map] at hj
              cases q2 : st[j]? with
              | none => rw [q2] at hj; cases hj
              | some b2 =>
                rw [q2] at hj
                cases hj
                have hj : j < st.length := (List.getElem?_eq_some_iff.mp q2).1
                have q3 : hs[j]? = some (hs[j]'(by omega)) := List.getElem?_eq_getElem _
                have q3' : hs[0 + j]? = some (hs[j]'(by omega)) := by rw [Nat.zero_add]; exact q3
                refine ⟨[some (iv hs), some (sv st), some (.loc M.length), some (.int ((0 + i : Nat) : Int)), some (iv b), none, some (.int ((0 + j : Nat) : Int)), some (iv b2)], rfl, ?_, fun _ => ?_⟩
                · refine (e_and (e_ne (m := ((0 + j : Nat) : Int)) (n := ((0 + i : Nat) : Int)) rfl rfl) fun _ => e_lt (e_bi (es_cons rfl es_nil) (len_iv (b := b2))) (e_ix (u := iv hs) rfl rfl (ix_iv q3'))).trans ?_
                  congr 2
                  show _ = goB hs st i (((0 + j : Nat) : Int).toNat)
                  unfold goB
                  rw [Int.toNat_natCast, Bool.eq_iff_iff]
                  simp only [Bool.and_eq_true, Bool.not_eq_true', decide_eq_false_iff_not, decide_eq_true_eq, Nat.zero_add, getD_at q, getD_at q2, getD_at q3]
                  omega
                · show Out.ok (PV.tup [.int ((0 + i : Nat) : Int), .int ((0 + j : Nat) : Int)]) M' = Out.ok (PV.tup [.int (i : Nat), .int ((((0 + j : Nat) : Int).toNat : Nat) : Int)]) M'
                  rw [Int.toNat_natCast, Nat.zero_add]
          have h2 : M'[M.length]? = some (.lst (prU hs st i)) := by rw [hM']; exact at_new
          have h2' : (M' ++ [PO.lst (prI hs st hs.length i)])[M.length]? = some (.lst (prU hs st i)) := by rw [List.getElem?_append_left (Rel.lt h2)]; exact h2
          have m := mt_extend (M := M' ++ [PO.lst (prI hs st hs.length i)]) (q := M.length) (r := M'.length) h2' at_new (by have h1 := prU_len st h8 (i := i) (by omega); have h2 := prI_len hs st hs.length i; unfold cap; omega) (by have := Rel.lt h2; omega)
          rw [← prU_succ] at m
          obtain ⟨N', g⟩ := gc_keep (M := M') (M' := (M' ++ [PO.lst (prI hs st hs.length i)]).set M.length (.lst (prU hs st (i + 1)))) (v := .non) (by rw [List.length_set, List.length_append]; exact Nat.le_add_right _ _) rfl
          have mt : denE (Pg.wld d) (.mt .extend (.var 2) (.cons (.lc [5, 6, 7] (.tup (.cons (.nm 6) (.cons (.nm 7) .nil))) (.enm (.var 1)) (.and (.cmp .ne (.var 6) (.var 3)) (.cmp .lt (.bi .len (.cons (.var 7) .nil)) (.ix (.var 0) (.var 6)))) (.tup (.cons (.var 3) (.cons (.var 6) .nil)))) .nil))
              [some (iv hs), some (sv st), some (.loc M.length), some (.int ((0 + i : Nat) : Int)), some (iv b), none, none, none] M' = .ok .non (M'.set M.length (.lst (prU hs st (i + 1))) ++ N') := by
            rw [denE, show denE (Pg.wld d) (.var 2) [some (iv hs), some (sv st), some (.loc M.length), some (.int ((0 + i : Nat) : Int)), some (iv b), none, none, none] M' = .ok (.loc M.length) M' from rfl, Out.bind, if_pos (mtOk_lst h2).2.2.1, denEs, r]
            show gc M' (mtV .extend (.loc M.length) [.loc M'.length] (M' ++ [.lst (prI hs st hs.length i)])) = _
            rw [m, g, List.set_append_left _ _ (Rel.lt h2), List.take_append_of_le_length (by rw [List.length_set]; exact Nat.le_refl _), List.take_of_length_le (by rw [List.length_set]; exact Nat.le_refl _)]
          refine ⟨_, M', _, M'.set M.length (.lst (prU hs st (i + 1))) ++ N', rfl, ss_cons ((s_if c1).trans ((if_pos (decide_eq_true (by omega))).trans (ss_cons (s_expr mt)))), _, _, N ++ N', rfl, ?_⟩
          rw [hM', List.set_append_right _ _ (Nat.le_refl _), Nat.sub_self, List.append_assoc]; rfl
        · refine ⟨_, M', _, M', rfl, ss_cons ((s_if c1).trans (if_neg (by rw [decide_eq_true_eq]; omega))), _, _, N, rfl, ?_⟩
          have e : prI hs st hs.length i = [] := by
            unfold prI
            rw [List.filter_eq_nil_iff.mpr fun j _ => ?_]; rfl
            unfold goB
            rw [decide_eq_true_eq, getD_at q]
            exact fun h => hb h.2.1
          rw [hM', prU_succ, e, List.append_nil]
  rw [hσ, hM'] at e2
  have e : denSs (Pg.wld d) c__law_lifts.body [some (iv hs), some (sv st), none, none, none, none, none, none] M = _ := (ss_cons t1).trans ((ss_cons e2).trans (ss_rt (s_ret (show denE (Pg.wld d) (.var 2) [some (iv hs), some (sv st), some (.loc M.length), v3, v4, none, none, none] _ = .ok (.loc M.length) _ from rfl))))
  refine ⟨N, ?_⟩
  rw [e]
  show Out.ok _ (M ++ .lst (prU hs st (enmL 0 (st.map iv)).length) :: N) = _
  rw [enmL_len, List.length_map, hl]; rfl

end Lawk05

namespace Lawk05
open PySem Mini
/-! ### what lies behind, by the law -/
theorem fn__law_behind : Pg.fn "_law_behind" = some c__law_behind := by rfl
def lo (b : List Int) : PO := .lst (b.map .int)
/-- bags in a row, and the list of them -/
def bagS (M : Store) (B : List (List Int)) : Store := M ++ (B.map lo ++ [.lst (lcs M.length B.length)])
theorem bagS_at {M : Store} {B : List (List Int)} {i : Nat} {b : List Int} (h : B[i]? = some b) : (bagS M B)[M.length + i]? = some (lo b) := by
  unfold bagS
  rw [List.getElem?_append_right (Nat.le_add_right _ _), Nat.add_sub_cancel_left, List.getElem?_append_left (by rw [List.length_map]; exact (List.getElem?_eq_some_iff.mp h).1), List.getElem?_map, h]; rfl
theorem bagS_hd {M : Store} {B : List (List Int)} : (bagS M B)[M.length + B.length]? = some (.lst (lcs M.length B.length)) := by
  unfold bagS
  rw [List.getElem?_append_right (Nat.le_add_right _ _), Nat.add_sub_cancel_left, List.getElem?_append_right (by rw [List.length_map]; exact Nat.le_refl _), List.length_map, Nat.sub_self]; rfl
theorem bagS_set {M : Store} {B : List (List Int)} {i : Nat} {b : List Int} (hi : i < B.length) : (bagS M B).set (M.length + i) (lo b) = bagS M (B.set i b) := by
  unfold bagS
  rw [List.set_append_right _ _ (Nat.le_add_right _ _), Nat.add_sub_cancel_left, List.set_append_left _ _ (by rw [List.length_map]; exact hi), ← List.map_set, List.length_set]
theorem mt_pop {M : Store} {q : Nat} {b : List Int} (h : M[q]? = some (lo b)) (hb : 0 < b.length) : mtV .pop (.loc q) [] M = .ok (.int (b.getD (b.length - 1) 0)) (M.set q (lo (b.take (b.length - 1)))) := by
  unfold mtV
  dsimp only
  rw [h]
  unfold lo
  dsimp only
  rw [List.getLast?_eq_getElem?, List.length_map, List.getElem?_map, List.getElem?_eq_getElem (by omega)]
  show Out.ok (PV.int _) _ = _
  rw [List.dropLast_eq_take, List.length_map, ← List.map_take, getD_at (List.getElem?_eq_getElem (by omega))]
theorem drop_last {b : List Int} (hb : 0 < b.length) : b.drop (b.length - 1) = [b.getD (b.length - 1) 0] := by
  have h : b.length - 1 < b.length := by omega
  rw [List.drop_eq_getElem_cons h, show b.length - 1 + 1 = b.length by omega, List.drop_length, getD_at (List.getElem?_eq_getElem h)]
theorem ix_lst {M : Store} {q i : Nat} {xs : List PV} {v : PV} (h : M[q]? = some (.lst xs)) (h2 : xs[i]? = some v) : ixV (.loc q) (.int (i : Int)) M = .ok v M := by
  unfold ixV
  dsimp only
  rw [h]
  dsimp only
  rw [atI_nat, h2]; rfl
theorem sp__law_behind (d : Nat) (hd : 1 ≤ d) {st : List (List Int)} {i j : Nat} {bi bj : List Int} (h1 : st[i]? = some bi) (h2 : st[j]? = some bj) (h0 : 0 < bi.length) (hij : i ≠ j) (hc : ∀ b ∈ st, b.length ≤ 9) (hs : st.length ≤ 8) (M : Store) :
    ∃ N, Pg.call d "_law_behind" [sv st, .tup [.int i, .int j]] M = .ok (sv (bh st i j bi bj)) (M ++ N) := by
  obtain ⟨d, rfl⟩ : ∃ n, d = n + 1 := ⟨d - 1, by omega⟩
  have hi : i < st.length := (List.getElem?_eq_some_iff.mp h1).1
  have hj : j < st.length := (List.getElem?_eq_some_iff.mp h2).1
  rw [callS fn__law_behind rfl]
  have s0 : startE c__law_behind [sv st, .tup [.int i, .int j]] = [some (sv st), some (.tup [.int i, .int j]), none, none, none, none] := rfl
  rw [s0]
  have e1 : denE (Pg.wld d) (.lc [4, 5] (.nm 5) (.seq (.var 0)) (.cst (.bl true)) (.bi .list (.cons (.var 5) .nil))) [some (sv st), some (.tup [.int i, .int j]), none, none, none, none] M = .ok (.loc (M.length + st.length)) (bagS M st) := by
    rw [lc_alloc (k := (st.map iv, [])) (ob := fun v => match v with
        | .tup xs => .lst xs
        | _ => .lst []) rfl rfl (by rw [List.length_map]; unfold cap; omega) (fun e => by have e := congrArg List.length e; rw [List.length_map] at e; simp at e; subst e; exact absurd hi (Nat.not_lt_zero _)) fun x hx N => ?_]
    · rw [List.length_map, List.map_map]; rfl
    · obtain ⟨b, _, rfl⟩ := List.mem_map.mp hx
      refine ⟨[some (sv st), some (.tup [.int i, .int j]), none, none, none, some (iv b)], rfl, ?_⟩
      show gc (M ++ N) (.ok (.loc (M ++ N).length) (M ++ N ++ [lo b])) = _
      unfold lo
      rw [gc_lst, List.length_append, List.append_assoc]; rfl
  have t1 : denS (Pg.wld d) (.asg (.nm 2) _) _ M = _ := s_asg e1 (by show 2 < 6; decide)
  have l2 : st.length = (st.set i (bi.take (bi.length - 1))).length := (List.length_set ..).symm
  have g1 : denE (Pg.wld d) (.ix (.var 2) (.ix (.var 1) (.cst (.int 0)))) [some (sv st), some (.tup [.int i, .int j]), some (.loc (M.length + st.length)), none, none, none] (bagS M st) = .ok (.loc (M.length + i)) (bagS M st) :=
    e_ix (v := .int (i : Int)) rfl (e_ix rfl rfl rfl) (ix_lst bagS_hd (lcs_at hi))
  have p1 : denE (Pg.wld d) (.mt .pop (.ix (.var 2) (.ix (.var 1) (.cst (.int 0)))) .nil) [some (sv st), some (.tup [.int i, .int j]), some (.loc (M.length + st.length)), none, none, none] (bagS M st) = .ok (.int (bi.getD (bi.length - 1) 0)) (bagS M (st.set i (bi.take (bi.length - 1)))) := by
    rw [denE, g1, Out.bind, if_pos (mtOk_lst (bagS_at h1)).2.2.2, denEs, Out.bind, mt_pop (bagS_at h1) h0, bagS_set hi, gc_set]
    unfold bagS
    simp
  have t2 : denS (Pg.wld d) (.asg (.nm 3) _) _ _ = _ := s_asg p1 (by show 3 < 6; decide)
  have h2' : (st.set i (bi.take (bi.length - 1)))[j]? = some bj := by rw [List.getElem?_set_ne hij]; exact h2
  have g2 : denE (Pg.wld d) (.ix (.var 2) (.ix (.var 1) (.cst (.int 1)))) [some (sv st), some (.tup [.int i, .int j]), some (.loc (M.length + st.length)), some (.int (bi.getD (bi.length - 1) 0)), none, none] (bagS M (st.set i (bi.take (bi.length - 1)))) = .ok (.loc (M.length + j)) (bagS M (st.set i (bi.take (bi.length - 1)))) :=
    e_ix (v := .int (j : Int)) rfl (e_ix rfl rfl rfl) (ix_lst (by rw [l2]; exact bagS_hd) (lcs_at (by rw [List.length_set]; exact hj)))
  have p2 : denE (Pg.wld d) (.mt .append (.ix (.var 2) (.ix (.var 1) (.cst (.int 1)))) (.cons (.var 3) .nil)) [some (sv st), some (.tup [.int i, .int j]), some (.loc (M.length + st.length)), some (.int (bi.getD (bi.length - 1) 0)), none, none] (bagS M (st.set i (bi.take (bi.length - 1))))
      = .ok .non (bagS M ((st.set i (bi.take (bi.length - 1))).set j (bj ++ bi.drop (bi.length - 1)))) := by
    rw [denE, g2, Out.bind, if_pos (mtOk_lst (bagS_at h2')).1]
    show gc _ (mtV .append (.loc (M.length + j)) [.int (bi.getD (bi.length - 1) 0)] _) = _
    rw [mt_append (bagS_at h2') (by rw [List.length_map]; have := hc bj (List.mem_of_getElem? h2); unfold cap; omega)]
    have e : PO.lst (bj.map PV.int ++ [.int (bi.getD (bi.length - 1) 0)]) = lo (bj ++ bi.drop (bi.length - 1)) := by
      unfold lo
      rw [drop_last h0, List.map_append]; rfl
    rw [e, bagS_set (by rw [List.length_set]; exact hj), gc_set]
    unfold bagS
    simp
  generalize hB : (st.set i (bi.take (bi.length - 1))).set j (bj ++ bi.drop (bi.length - 1)) = B at p2
  have lB : B.length = st.length := by rw [← hB, List.length_set, List.length_set]
  have p3 : denE (Pg.wld d) (.bi .tuple (.cons (.lc [4, 5] (.nm 5) (.seq (.var 2)) (.cst (.bl true)) (.bi .tuple (.cons (.var 5) .nil))) .nil)) [some (sv st), some (.tup [.int i, .int j]), some (.loc (M.length + st.length)), some (.int (bi.getD (bi.length - 1) 0)), none, none] (bagS M B) = .ok (sv B) (bagS M B) := by
    have hq : (bagS M B)[M.length + st.length]? = some (.lst (lcs M.length st.length)) := by rw [← lB]; exact bagS_hd
    have a : denE (Pg.wld d) (.lc [4, 5] (.nm 5) (.seq (.var 2)) (.cst (.bl true)) (.bi .tuple (.cons (.var 5) .nil))) [some (sv st), some (.tup [.int i, .int j]), some (.loc (M.length + st.length)), some (.int (bi.getD (bi.length - 1) 0)), none, none] (bagS M B) = .ok (.loc (bagS M B).length) (bagS M B ++ [.lst (B.map iv)]) := by
      rw [lc_map (k := (lcs M.length st.length, [(M.length + st.length, lcs M.length st.length)])) (f := fun v => match v with
          | .loc q => (match (bagS M B)[q]? with
            | some (.lst xs) => .tup xs
            | _ => .non)
          | _ => .non) ?_ (still_lst hq) (by rw [lcs_len]; unfold cap; omega) fun x hx => ?_]
      · rw [gc_lst]
        congr 3
        refine congrArg PO.lst ?_
        refine List.ext_getElem? fun k => ?_
        rw [List.getElem?_map, List.getElem?_map]
        by_cases hk : k < st.length
        · rw [lcs_at hk, List.getElem?_eq_getElem (by omega)]
          show some _ = some _
          dsimp only
          rw [bagS_at (List.getElem?_eq_getElem (by omega))]
          rfl
        · rw [List.getElem?_eq_none (by rw [lcs_len]; omega), List.getElem?_eq_none (by omega)]; rfl
      · rw [denIt, show denE (Pg.wld d) (.var 2) [some (sv st), some (.tup [.int i, .int j]), some (.loc (M.length + st.length)), some (.int (bi.getD (bi.length - 1) 0)), none, none] (bagS M B) = .ok (.loc (M.length + st.length)) (bagS M B) from rfl, Out.bind, seqW_lst hq]; rfl
      · obtain ⟨k, hk⟩ := List.mem_iff_getElem?.mp hx
        have hk' := (List.getElem?_eq_some_iff.mp hk).1
        rw [lcs_len] at hk'
        rw [lcs_at hk'] at hk
        cases hk
        refine ⟨[some (sv st), some (.tup [.int i, .int j]), some (.loc (M.length + st.length)), some (.int (bi.getD (bi.length - 1) 0)), none, some (.loc (M.length + k))], rfl, ?_⟩
        have q := bagS_at (M := M) (List.getElem?_eq_getElem (l := B) (i := k) (by omega))
        refine e_bi (es_cons (u := .loc (M.length + k)) rfl es_nil) ?_
        dsimp only
        rw [q]
        unfold biV
        dsimp only
        rw [seqL_lst q]
        rfl
    unfold denE
    rw [denEs, a]
    show gc (bagS M B) (biV .tuple [.loc (bagS M B).length] (bagS M B ++ [.lst (B.map iv)])) = _
    unfold biV
    dsimp only
    rw [seqL_new]
    exact gc_drop (under_sv B)
  have e : denSs (Pg.wld d) c__law_behind.body [some (sv st), some (.tup [.int i, .int j]), none, none, none, none] M = .rt (sv B) (bagS M B) :=
    (ss_cons t1).trans ((ss_cons t2).trans ((ss_cons (s_expr p2)).trans (ss_rt (s_ret p3))))
  refine ⟨B.map lo ++ [.lst (lcs M.length B.length)], ?_⟩
  rw [e]
  show Out.ok (sv B) _ = _
  congr 2
  rw [← hB]
  unfold bh
  exact List.set_comm _ _ hij

end Lawk05

namespace Lawk05
open PySem Mini
/-! ### told -/
theorem fn__law_told : Pg.fn "_law_told" = some c__law_told := by rfl
def toldV (hs : List Int) (st : List (List Int)) (i j : Nat) : PV := if goB hs st i j = true then .tup [.str "told", sv (bh st i j (st.getD i []) (st.getD j []))] else .tup [.str "refused", .bl true]
theorem sp__law_told (d : Nat) (hd : 7 ≤ d) {hs : List Int} {st : List (List Int)} (f : Fits hs st) {M : Store} {y : Nat} (hy : M[y]? = some (yardO hs)) {i j : Nat} (hi : i < hs.length) (hj : j < hs.length) :
    Pg.call d "_law_told" [.loc y, sv st, .tup [.int i, .int j]] M = .ok (toldV hs st i j) M := by
  obtain ⟨d, rfl⟩ : ∃ n, d = n + 1 := ⟨d - 1, by omega⟩
  have hl := f.len
  have h1 : st[i]? = some (st[i]'(by omega)) := List.getElem?_eq_getElem _
  have h2 : st[j]? = some (st[j]'(by omega)) := List.getElem?_eq_getElem _
  have h3 : hs[j]? = some (hs[j]'(by omega)) := List.getElem?_eq_getElem _
  rw [callS fn__law_told rfl]
  have s0 : startE c__law_told [PV.loc y, sv st, .tup [.int i, .int j]] = [some (.loc y), some (sv st), some (.tup [.int i, .int j]), none, none] := rfl
  rw [s0]
  have t1 : denS (Pg.wld d) (.asg (.nm 3) (.cst .non)) [some (.loc y), some (sv st), some (.tup [.int i, .int j]), none, none] M = .nx [some (.loc y), some (sv st), some (.tup [.int i, .int j]), some .non, none] M := s_asg rfl (by show 3 < 5; decide)
  have q := sp_lifted d (by omega) f hy h1 h2 h3
  have es : denEs (Pg.wld d) (.cons (.var 0) (.cons (.var 1) (.cons (.var 2) .nil))) [some (.loc y), some (sv st), some (.tup [.int i, .int j]), some .non, none] M = .ok [.loc y, sv st, .tup [.int i, .int j]] M := es_cons rfl (es_cons rfl (es_cons rfl es_nil))
  have g : goB hs st i j = decide (i ≠ j ∧ 0 < (st[i]'(by omega)).length ∧ ((st[j]'(by omega)).length : Int) < hs[j]'(by omega)) := by
    unfold goB
    rw [getD_at h1, getD_at h2, getD_at h3]
  unfold toldV
  rw [getD_at h1, getD_at h2]
  by_cases c : i ≠ j ∧ 0 < (st[i]'(by omega)).length ∧ ((st[j]'(by omega)).length : Int) < hs[j]'(by omega)
  · rw [if_pos c] at q
    rw [g, if_pos (decide_eq_true c)]
    have b1 : denS (Pg.wld d) (.asg (.nm 3) (.tup (.cons (.cst (.str "told")) (.cons (.call "lifted" (.cons (.var 0) (.cons (.var 1) (.cons (.var 2) .nil)))) .nil)))) [some (.loc y), some (sv st), some (.tup [.int i, .int j]), some .non, none] M = _ :=
      s_asg (e_tup (es_cons rfl (es_cons (e_call es q) es_nil))) (by show 3 < 5; decide)
    have b2 := ss_cons (ss := .nil) b1
    have e : denSs (Pg.wld d) c__law_told.body [some (.loc y), some (sv st), some (.tup [.int i, .int j]), none, none] M = _ := (ss_cons t1).trans ((ss_cons (by unfold denS; rw [b2]; rfl)).trans (ss_rt (s_ret rfl)))
    rw [e]; rfl
  · rw [if_neg c] at q
    rw [g, if_neg (by rw [decide_eq_true_eq]; exact c)]
    have x : denE (Pg.wld d) (.call "lifted" (.cons (.var 0) (.cons (.var 1) (.cons (.var 2) .nil)))) [some (.loc y), some (sv st), some (.tup [.int i, .int j]), some .non, none] M = .exc "BadLift" [] M := by
      unfold denE
      rw [es]
      show gc M (Pg.call d "lifted" [.loc y, sv st, .tup [.int i, .int j]] M) = _
      rw [q]
      exact gc_exc rfl
    have b1 : denSs (Pg.wld d) (.cons (.asg (.nm 3) (.tup (.cons (.cst (.str "told")) (.cons (.call "lifted" (.cons (.var 0) (.cons (.var 1) (.cons (.var 2) .nil)))) .nil)))) .nil) [some (.loc y), some (sv st), some (.tup [.int i, .int j]), some .non, none] M = .exc "BadLift" [] [some (.loc y), some (sv st), some (.tup [.int i, .int j]), some .non, none] M := by
      refine ss_exc ?_
      unfold denS denE denEs
      rw [denE, Out.bind, denEs, x]; rfl
    have e : denSs (Pg.wld d) c__law_told.body [some (.loc y), some (sv st), some (.tup [.int i, .int j]), none, none] M = .rt (.tup [.str "refused", .bl true]) M := (ss_cons t1).trans ((ss_cons (by unfold denS; rw [b1]; rfl)).trans (ss_rt (s_ret rfl)))
    rw [e]; rfl

end Lawk05

namespace Lawk05
open PySem Mini
/-! ### plain laws -/
theorem goB_iff {hs : List Int} {st : List (List Int)} {i j : Nat} {bi bj : List Int} {hj : Int} (h1 : st[i]? = some bi) (h2 : st[j]? = some bj) (h3 : hs[j]? = some hj) : goB hs st i j = true ↔ i ≠ j ∧ 0 < bi.length ∧ (bj.length : Int) < hj := by
  unfold goB
  rw [getD_at h1, getD_at h2, getD_at h3, decide_eq_true_eq]
/-- where the stacks of a lift's end are found -/
theorem bh_at {st : List (List Int)} {i j : Nat} {bi bj : List Int} (hi : i < st.length) (hj : j < st.length) (hij : i ≠ j) (k : Nat) :
    (bh st i j bi bj)[k]? = if k = i then some (bi.take (bi.length - 1)) else if k = j then some (bj ++ bi.drop (bi.length - 1)) else st[k]? := by
  unfold bh
  by_cases a : k = i
  · subst a
    rw [if_pos rfl, List.getElem?_set_self (by rw [List.length_set]; exact hi)]
  · rw [if_neg a, List.getElem?_set_ne (Ne.symm a)]
    by_cases b : k = j
    · subst b
      rw [if_pos rfl, List.getElem?_set_self hj]
    · rw [if_neg b, List.getElem?_set_ne (Ne.symm b)]
theorem bh_fits {hs : List Int} {st : List (List Int)} (f : Fits hs st) {i j : Nat} {bi bj : List Int} {hj : Int} (h1 : st[i]? = some bi) (h2 : st[j]? = some bj) (h3 : hs[j]? = some hj) (g : i ≠ j ∧ 0 < bi.length ∧ (bj.length : Int) < hj) : Fits hs (bh st i j bi bj) := by
  have hi' : i < st.length := (List.getElem?_eq_some_iff.mp h1).1
  have hj' : j < st.length := (List.getElem?_eq_some_iff.mp h2).1
  have at' := bh_at (bi := bi) (bj := bj) hi' hj' g.1
  refine ⟨f.n0, f.n8, f.h, by unfold bh; rw [List.length_set, List.length_set]; exact f.len, fun k b h e1 e2 => ?_, fun b hb t ht => ?_⟩
  · rw [at' k] at e1
    by_cases a : k = i
    · subst a
      rw [if_pos rfl] at e1
      cases e1
      have := f.fit k bi h h1 e2
      rw [List.length_take]; omega
    · rw [if_neg a] at e1
      by_cases c : k = j
      · subst c
        rw [if_pos rfl] at e1
        cases e1
        rw [h3] at e2
        cases e2
        rw [List.length_append, List.length_drop]; omega
      · rw [if_neg c] at e1
        exact f.fit k b h e1 e2
  · obtain ⟨k, hk⟩ := List.mem_iff_getElem?.mp hb
    rw [at' k] at hk
    by_cases a : k = i
    · rw [if_pos a] at hk
      cases hk
      exact f.th bi (List.mem_of_getElem? h1) t (List.mem_of_mem_take ht)
    · rw [if_neg a] at hk
      by_cases c : k = j
      · rw [if_pos c] at hk
        cases hk
        rcases List.mem_append.mp ht with h | h
        · exact f.th bj (List.mem_of_getElem? h2) t h
        · exact f.th bi (List.mem_of_getElem? h1) t (List.mem_of_mem_drop h)
      · rw [if_neg c] at hk
        exact f.th b (List.mem_of_getElem? hk) t ht
theorem bh_back {st : List (List Int)} {i j : Nat} {bi bj : List Int} (h1 : st[i]? = some bi) (h2 : st[j]? = some bj) (hij : i ≠ j) (h0 : 0 < bi.length) :
    bh (bh st i j bi bj) j i (bj ++ bi.drop (bi.length - 1)) (bi.take (bi.length - 1)) = st := by
  have hi' : i < st.length := (List.getElem?_eq_some_iff.mp h1).1
  have hj' : j < st.length := (List.getElem?_eq_some_iff.mp h2).1
  have hl : (bh st i j bi bj).length = st.length := by unfold bh; rw [List.length_set, List.length_set]
  have e : (bj ++ bi.drop (bi.length - 1)).length - 1 = bj.length := by rw [List.length_append, List.length_drop]; omega
  refine List.ext_getElem? fun k => ?_
  rw [bh_at (by rw [hl]; exact hj') (by rw [hl]; exact hi') (Ne.symm hij), bh_at hi' hj' hij, e, List.take_left' rfl, List.drop_left' rfl, List.take_append_drop]
  by_cases a : k = j
  · subst a; rw [if_pos rfl, h2]
  · rw [if_neg a]
    by_cases b : k = i
    · subst b; rw [if_pos rfl, h1]
    · rw [if_neg b, if_neg b, if_neg a]
theorem mem_prs {hs : List Int} {st : List (List Int)} {v : PV} : v ∈ prs hs st ↔ ∃ i j : Nat, i < hs.length ∧ j < hs.length ∧ goB hs st i j = true ∧ v = .tup [.int i, .int j] := by
  unfold prs prI
  constructor
  · intro h
    obtain ⟨i, hi, h⟩ := List.mem_flatMap.mp h
    obtain ⟨j, hj, rfl⟩ := List.mem_map.mp h
    obtain ⟨hj, g⟩ := List.mem_filter.mp hj
    exact ⟨i, j, List.mem_range.mp hi, List.mem_range.mp hj, g, rfl⟩
  · rintro ⟨i, j, hi, hj, g, rfl⟩
    exact List.mem_flatMap.mpr ⟨i, List.mem_range.mpr hi, List.mem_map.mpr ⟨j, List.mem_filter.mpr ⟨List.mem_range.mpr hj, g⟩, rfl⟩⟩
theorem inD_prs {hs : List Int} {st : List (List Int)} {i j : Nat} (hi : i < hs.length) (hj : j < hs.length) : inD (.tup [.int i, .int j]) (prs hs st) = some (goB hs st i j) := by
  have hf : PV.flats 60 (prs hs st) = true := by
    unfold PV.flats
    rw [List.all_eq_true]
    intro v hv
    obtain ⟨a, b, _, _, _, rfl⟩ := mem_prs.mp hv
    rfl
  unfold inD
  rw [if_pos ⟨rfl, hf⟩]
  congr 1
  rw [Bool.eq_iff_iff, List.any_eq_true]
  constructor
  · rintro ⟨v, hv, e⟩
    obtain ⟨a, b, _, _, g, rfl⟩ := mem_prs.mp hv
    have e : ((a : Int) == (i : Int) && ((b : Int) == (j : Int) && true)) = true := e
    simp only [Bool.and_true, Bool.and_eq_true, beq_iff_eq, Int.natCast_inj] at e
    rw [← e.1, ← e.2]
    exact g
  · intro g
    refine ⟨_, mem_prs.mpr ⟨i, j, hi, hj, g, rfl⟩, ?_⟩
    show ((i : Int) == (i : Int) && ((j : Int) == (j : Int) && true)) = true
    simp
def pl : Nat → PV → Bool
  | n + 1, .tup xs => decide (xs.length ≤ cap) && xs.all (pl n)
  | _ + 1, .str z => strOk z
  | _ + 1, .int _ => true
  | _ + 1, .bl _ => true
  | _ + 1, .non => true
  | _, _ => false
theorem Sm_refl (M : Store) : ∀ (n : Nat) (v : PV), pl n v = true → Sm M n v v
  | 0, v, h => by cases v <;> cases h
  | n + 1, .tup xs, h => by
    have h : (decide (xs.length ≤ cap) && xs.all (pl n)) = true := h
    rw [Bool.and_eq_true, decide_eq_true_eq, List.all_eq_true] at h
    refine ⟨xs, rfl, rfl, h.1, fun i a b e1 e2 => ?_⟩
    rw [e1] at e2
    cases e2
    exact Sm_refl M n a (h.2 a (List.mem_of_getElem? e1))
  | n + 1, .str z, h => ⟨rfl, h⟩
  | n + 1, .int _, _ => rfl
  | n + 1, .bl _, _ => rfl
  | n + 1, .non, _ => rfl
  | n + 1, .loc _, h => by cases h
  | n + 1, .exn _ _, h => by cases h
theorem Sm_list {M : Store} {n a b : Nat} {xs : List PV} (h1 : M[a]? = some (.lst xs)) (h2 : M[b]? = some (.lst xs)) (hl : xs.length ≤ cap) (h : ∀ x ∈ xs, pl n x = true) : Sm M (n + 1) (.loc a) (.loc b) :=
  ⟨a, xs, xs, rfl, h1, h2, rfl, hl, fun i x y e1 e2 => by
    rw [e1] at e2
    cases e2
    exact Sm_refl M n x (h x (List.mem_of_getElem? e1))⟩
theorem pl_iv {b : List Int} (h : b.length ≤ cap) : pl 2 (iv b) = true := by
  show (decide ((b.map PV.int).length ≤ cap) && (b.map PV.int).all (pl 1)) = true
  rw [List.length_map, decide_eq_true h, Bool.true_and, List.all_map, List.all_eq_true]
  exact fun _ _ => rfl
theorem pl_sv {st : List (List Int)} (h : st.length ≤ cap) (hb : ∀ b ∈ st, b.length ≤ cap) : pl 3 (sv st) = true := by
  show (decide ((st.map iv).length ≤ cap) && (st.map iv).all (pl 2)) = true
  rw [List.length_map, decide_eq_true h, Bool.true_and, List.all_map, List.all_eq_true]
  exact fun b hm => pl_iv (hb b hm)
theorem Fits.b9 {hs : List Int} {st : List (List Int)} (f : Fits hs st) : ∀ b ∈ st, b.length ≤ 9 := by
  intro b hb
  obtain ⟨k, hk⟩ := List.mem_iff_getElem?.mp hb
  have hk' := (List.getElem?_eq_some_iff.mp hk).1
  have q : hs[k]? = some (hs[k]'(by rw [← f.len]; exact hk')) := List.getElem?_eq_getElem _
  have h1 := f.fit k b _ hk q
  have h2 := f.h _ (List.mem_of_getElem? q)
  omega
theorem Fits.pl {hs : List Int} {st : List (List Int)} (f : Fits hs st) : pl 3 (sv st) = true := by
  refine pl_sv (by have := f.len; have := f.n8; unfold cap; omega) fun b hb => by have := f.b9 b hb; unfold cap; omega
theorem pl_prs {hs : List Int} {st : List (List Int)} : ∀ v ∈ prs hs st, PV.under 0 v = true ∧ pl 2 v = true := by
  intro v hv
  obtain ⟨a, b, _, _, _, rfl⟩ := mem_prs.mp hv
  exact ⟨rfl, rfl⟩
theorem unders_all {n : Nat} : ∀ {xs : List PV}, (∀ x ∈ xs, PV.under n x = true) → PV.unders n xs = true
  | [], _ => rfl
  | x :: xs, h => by
    show (PV.under n x && PV.unders n xs) = true
    rw [h x List.mem_cons_self, unders_all fun y hy => h y (List.mem_cons_of_mem _ hy)]; rfl
theorem under_prs (n : Nat) {hs : List Int} {st : List (List Int)} : PO.under n (.lst (prs hs st)) = true :=
  unders_all fun v hv => by
    obtain ⟨a, b, _, _, _, rfl⟩ := mem_prs.mp hv
    rfl
theorem pl_told {hs : List Int} {st : List (List Int)} (f : Fits hs st) {i j : Nat} (hi : i < hs.length) (hj : j < hs.length) : Mini.PV.under 0 (toldV hs st i j) = true ∧ Lawk05.pl 4 (toldV hs st i j) = true := by
  have hl := f.len
  have h1 : st[i]? = some (st[i]'(by omega)) := List.getElem?_eq_getElem _
  have h2 : st[j]? = some (st[j]'(by omega)) := List.getElem?_eq_getElem _
  have h3 : hs[j]? = some (hs[j]'(by omega)) := List.getElem?_eq_getElem _
  unfold toldV
  by_cases c : goB hs st i j = true
  · rw [if_pos c, getD_at h1, getD_at h2]
    have q := (bh_fits f h1 h2 h3 ((goB_iff h1 h2 h3).mp c)).pl
    refine ⟨?_, ?_⟩
    · show (true && (PV.under 0 (sv _) && true)) = true
      rw [under_sv]; rfl
    · show (decide (2 ≤ cap) && (true && (pl 3 (sv _) && true))) = true
      rw [q]; rfl
  · rw [if_neg c]; exact ⟨rfl, rfl⟩

end Lawk05

namespace Lawk05
open PySem Mini
/-! ### all checks of one case -/
theorem new_at1 {M : Store} {a b c : PO} : (M ++ [a] ++ [b] ++ [c])[M.length]? = some a := by simp
theorem new_at2 {M : Store} {a b c : PO} : (M ++ [a] ++ [b] ++ [c])[M.length + 1]? = some b := by simp [List.getElem?_append]
theorem new_at3 {M : Store} {a b c : PO} : (M ++ [a] ++ [b] ++ [c])[M.length + 2]? = some c := by simp [List.getElem?_append]
theorem e_new {d : Nat} (hd : 3 ≤ d) {hs : List Int} (h0 : hs ≠ []) (h8 : hs.length ≤ 8) (h9 : ∀ h ∈ hs, 1 ≤ h ∧ h ≤ 9) {a : E} {σ : Mini.Env} {M : Store} (h : denE (Pg.wld d) a σ M = .ok (iv hs) M) : denE (Pg.wld d) (.new "Yard" (.cons a .nil)) σ M = .ok (.loc M.length) (M ++ [yardO hs]) := by
  rw [denE, es_cons h es_nil, Out.bind]
  show gc M ((Pg.call d "Yard.__init__" [.loc M.length, iv hs] (M ++ [.ins "Yard" []])).bind _) = _
  rw [sp_yard d hd h0 h8 h9 M]
  show gc M (.ok (.loc M.length) (M ++ yardO hs :: [])) = _
  refine gc_new ?_
  show (PV.under M.length (iv hs) && true) = true
  rw [under_iv]; rfl
theorem e_lifts {d : Nat} (hd : 6 ≤ d) {hs : List Int} {st : List (List Int)} (f : Fits hs st) {M : Store} {y : Nat} (hy : M[y]? = some (yardO hs)) {a b : E} {σ : Mini.Env} (h1 : denE (Pg.wld d) a σ M = .ok (.loc y) M) (h2 : denE (Pg.wld d) b σ M = .ok (sv st) M) :
    denE (Pg.wld d) (.call "lifts" (.cons a (.cons b .nil))) σ M = .ok (.loc M.length) (M ++ [.lst (prs hs st)]) := by
  rw [e_callG (es_cons h1 (es_cons h2 es_nil)) (sp_lifts d hd f hy), gc_lst]
theorem e_law_lifts {d : Nat} (hd : 1 ≤ d) {hs : List Int} {st : List (List Int)} (f : Fits hs st) {M : Store} {a b : E} {σ : Mini.Env} (h1 : denE (Pg.wld d) a σ M = .ok (iv hs) M) (h2 : denE (Pg.wld d) b σ M = .ok (sv st) M) :
    denE (Pg.wld d) (.call "_law_lifts" (.cons a (.cons b .nil))) σ M = .ok (.loc M.length) (M ++ [.lst (prs hs st)]) := by
  obtain ⟨N, e⟩ := sp__law_lifts d hd f.len f.n8 M
  rw [e_callG (es_cons h1 (es_cons h2 es_nil)) e, gc_new (under_prs _)]
theorem e_law_behind {d : Nat} (hd : 1 ≤ d) {hs : List Int} {st : List (List Int)} (f : Fits hs st) {i j : Nat} {bi bj : List Int} (h1 : st[i]? = some bi) (h2 : st[j]? = some bj) (h0 : 0 < bi.length) (hij : i ≠ j) {M : Store} {a b : E} {σ : Mini.Env} (e1 : denE (Pg.wld d) a σ M = .ok (sv st) M) (e2 : denE (Pg.wld d) b σ M = .ok (.tup [.int i, .int j]) M) :
    denE (Pg.wld d) (.call "_law_behind" (.cons a (.cons b .nil))) σ M = .ok (sv (bh st i j bi bj)) M := by
  obtain ⟨N, e⟩ := sp__law_behind d hd h1 h2 h0 hij f.b9 (by rw [f.len]; exact f.n8) M
  rw [e_callG (es_cons e1 (es_cons e2 es_nil)) e, gc_drop (under_sv _)]
theorem e_same {d n : Nat} (hd : n ≤ d) {M M1 M2 : Store} {x y : PV} {a b : E} {σ : Mini.Env} (h : Sm (M ++ M2) n x y) (e1 : denE (Pg.wld d) a σ M = .ok x M1) (e2 : denE (Pg.wld d) b σ M1 = .ok y (M ++ M2)) : denE (Pg.wld d) (.call "_law_same" (.cons a (.cons b .nil))) σ M = .ok (.bl true) M := by
  rw [e_callG (es_consG e1 (es_consG e2 es_nil)) (sp_same (M ++ M2) n d hd x y h), gc_drop rfl]
theorem e_same0 {d n : Nat} (hd : n ≤ d) {M : Store} {x y : PV} {a b : E} {σ : Mini.Env} (h : Sm M n x y) (e1 : denE (Pg.wld d) a σ M = .ok x M) (e2 : denE (Pg.wld d) b σ M = .ok y M) : denE (Pg.wld d) (.call "_law_same" (.cons a (.cons b .nil))) σ M = .ok (.bl true) M :=
  e_same (M2 := []) hd (by rw [List.append_nil]; exact h) e1 (by rw [List.append_nil]; exact e2)
theorem s_ifnot {w : Wld} {a : E} {p : Ss} {σ : Mini.Env} {M : Store} (h : denE w a σ M = .ok (.bl true) M) : denS w (.ife (.not a) p .nil) σ M = .nx σ M := (s_if (e_not h)).trans (if_neg Bool.false_ne_true)
theorem fn__law_are_listed : Pg.fn "_law_are_listed" = some c__law_are_listed := by rfl
def inB : Ss := (.cons (.asg (.nm 8) (.cmp .isin (.tup (.cons (.var 6) (.cons (.var 7) .nil))) (.var 4))) (.cons (.ife (.not (.call "_law_same" (.cons (.call "is_lift" (.cons (.var 3) (.cons (.var 2) (.cons (.tup (.cons (.var 6) (.cons (.var 7) .nil))) .nil)))) (.cons (.var 8) .nil)))) (.cons (.ret (.cst (.bl false))) .nil) .nil) (.cons (.asg (.nm 9) (.ife (.var 8) (.tup (.cons (.cst (.str "told")) (.cons (.call "_law_behind" (.cons (.var 2) (.cons (.tup (.cons (.var 6) (.cons (.var 7) .nil))) .nil))) .nil))) (.tup (.cons (.cst (.str "refused")) (.cons (.cst (.bl true)) .nil))))) (.cons (.ife (.not (.call "_law_same" (.cons (.call "_law_told" (.cons (.var 3) (.cons (.var 2) (.cons (.tup (.cons (.var 6) (.cons (.var 7) .nil))) .nil)))) (.cons (.var 9) .nil)))) (.cons (.ret (.cst (.bl false))) .nil) .nil) .nil))))
theorem listed_in {d : Nat} (hd : 8 ≤ d) {hs : List Int} {st : List (List Int)} (f : Fits hs st) {M : Store} {p y u q i j : Nat} (hy : M[y]? = some (yardO hs)) (hu : M[u]? = some (.lst (prs hs st))) (hi : i < hs.length) (hj : j < hs.length) (v8 v9 : Option PV) :
    denSs (Pg.wld d) inB [some (.loc p), some (iv hs), some (sv st), some (.loc y), some (.loc u), some (.loc q), some (.int (i : Nat)), some (.int (j : Nat)), v8, v9, none, none] M = .nx [some (.loc p), some (iv hs), some (sv st), some (.loc y), some (.loc u), some (.loc q), some (.int (i : Nat)), some (.int (j : Nat)), some (.bl (goB hs st i j)), some (toldV hs st i j), none, none] M := by
  have hl := f.len
  have h1 : st[i]? = some (st[i]'(by omega)) := List.getElem?_eq_getElem _
  have h2 : st[j]? = some (st[j]'(by omega)) := List.getElem?_eq_getElem _
  have h3 : hs[j]? = some (hs[j]'(by omega)) := List.getElem?_eq_getElem _
  have g := goB_iff h1 h2 h3
  have b1 : denS (Pg.wld d) (.asg (.nm 8) (.cmp .isin (.tup (.cons (.var 6) (.cons (.var 7) .nil))) (.var 4))) [some (.loc p), some (iv hs), some (sv st), some (.loc y), some (.loc u), some (.loc q), some (.int (i : Nat)), some (.int (j : Nat)), v8, v9, none, none] M = .nx [some (.loc p), some (iv hs), some (sv st), some (.loc y), some (.loc u), some (.loc q), some (.int (i : Nat)), some (.int (j : Nat)), some (.bl (goB hs st i j)), v9, none, none] M := by
    refine s_asg (e_cmp (u := .tup [.int i, .int j]) (v := .loc u) rfl rfl ?_) (by show 8 < 12; decide)
    unfold copV copV.inV
    dsimp only
    rw [hu]
    dsimp only
    rw [inD_prs hi hj]; rfl
  have gb : goB hs st i j = decide (i ≠ j ∧ 0 < (st[i]'(by omega)).length ∧ ((st[j]'(by omega)).length : Int) < hs[j]'(by omega)) := by
    rw [Bool.eq_iff_iff, decide_eq_true_eq]; exact g
  have b2 : denE (Pg.wld d) (.call "_law_same" (.cons (.call "is_lift" (.cons (.var 3) (.cons (.var 2) (.cons (.tup (.cons (.var 6) (.cons (.var 7) .nil))) .nil)))) (.cons (.var 8) .nil))) [some (.loc p), some (iv hs), some (sv st), some (.loc y), some (.loc u), some (.loc q), some (.int (i : Nat)), some (.int (j : Nat)), some (.bl (goB hs st i j)), v9, none, none] M = .ok (.bl true) M :=
    e_same0 (n := 1) (by omega) (Sm_refl M 1 (.bl (goB hs st i j)) rfl) (e_call (es_cons rfl (es_cons rfl (es_cons rfl es_nil))) (by rw [gb]; exact sp_is_lift d (by omega) f hy h1 h2 h3)) rfl
  have b3 : denS (Pg.wld d) (.asg (.nm 9) (.ife (.var 8) (.tup (.cons (.cst (.str "told")) (.cons (.call "_law_behind" (.cons (.var 2) (.cons (.tup (.cons (.var 6) (.cons (.var 7) .nil))) .nil))) .nil))) (.tup (.cons (.cst (.str "refused")) (.cons (.cst (.bl true)) .nil))))) [some (.loc p), some (iv hs), some (sv st), some (.loc y), some (.loc u), some (.loc q), some (.int (i : Nat)), some (.int (j : Nat)), some (.bl (goB hs st i j)), v9, none, none] M
      = .nx [some (.loc p), some (iv hs), some (sv st), some (.loc y), some (.loc u), some (.loc q), some (.int (i : Nat)), some (.int (j : Nat)), some (.bl (goB hs st i j)), some (toldV hs st i j), none, none] M := by
    refine s_asg (e_ife (x := goB hs st i j) rfl (fun c => ?_) fun c => ?_) (by show 9 < 12; decide)
    · unfold toldV
      rw [if_pos c, getD_at h1, getD_at h2]
      exact e_tup (es_cons rfl (es_cons (e_law_behind (by omega) f h1 h2 (g.mp c).2.1 (g.mp c).1 rfl rfl) es_nil))
    · unfold toldV
      rw [c, if_neg Bool.false_ne_true]; rfl
  have ht := pl_told f hi hj
  have b4 : denE (Pg.wld d) (.call "_law_same" (.cons (.call "_law_told" (.cons (.var 3) (.cons (.var 2) (.cons (.tup (.cons (.var 6) (.cons (.var 7) .nil))) .nil)))) (.cons (.var 9) .nil))) [some (.loc p), some (iv hs), some (sv st), some (.loc y), some (.loc u), some (.loc q), some (.int (i : Nat)), some (.int (j : Nat)), some (.bl (goB hs st i j)), some (toldV hs st i j), none, none] M = .ok (.bl true) M :=
    e_same0 (n := 4) (by omega) (Sm_refl M 4 _ ht.2) (e_call (es_cons rfl (es_cons rfl (es_cons rfl es_nil))) (sp__law_told d (by omega) f hy hi hj)) (e_var rfl (Sm_refl M 4 _ ht.2).ne.1)
  exact (ss_cons b1).trans ((ss_cons (s_ifnot b2)).trans ((ss_cons b3).trans (ss_cons (s_ifnot b4))))

end Lawk05

namespace Lawk05
open PySem Mini
def agB : Ss := (.cons (.asg (.tup (.cons (.nm 6) (.cons (.nm 7) .nil))) (.call "_law_any" (.cons (.var 0) (.cons (.var 4) .nil)))) (.cons (.asg (.nm 11) (.call "_law_behind" (.cons (.var 2) (.cons (.tup (.cons (.var 6) (.cons (.var 7) .nil))) .nil)))) (.cons (.ife (.or (.cmp .isnt (.call "is_lift" (.cons (.var 3) (.cons (.var 11) (.cons (.tup (.cons (.var 7) (.cons (.var 6) .nil))) .nil)))) (.cst (.bl true))) (.not (.call "_law_same" (.cons (.call "lifted" (.cons (.var 3) (.cons (.var 11) (.cons (.tup (.cons (.var 7) (.cons (.var 6) .nil))) .nil)))) (.cons (.var 2) .nil))))) (.cons (.ret (.cst (.bl false))) .nil) .nil) (.cons (.ife (.not (.call "_law_same" (.cons (.call "lifts" (.cons (.var 3) (.cons (.var 11) .nil))) (.cons (.call "_law_lifts" (.cons (.var 1) (.cons (.var 11) .nil))) .nil)))) (.cons (.ret (.cst (.bl false))) .nil) .nil) .nil))))
theorem prs_cap {hs : List Int} (st : List (List Int)) (h8 : hs.length ≤ 8) : (prs hs st).length ≤ cap := Nat.le_trans (prs_len st h8) (by unfold cap; omega)
/-- one lift there and back -/
theorem listed_again {d : Nat} (hd : 8 ≤ d) {hs : List Int} {st : List (List Int)} (f : Fits hs st) {M : Store} {p c y u q : Nat} (hh : Hand M p c) (hy : M[y]? = some (yardO hs)) (hu : M[u]? = some (.lst (prs hs st))) (hpu : p ≠ u) (hpy : y ≠ p) (hne : prs hs st ≠ []) (v6 v7 v8 v9 v10 v11 : Option PV) :
    ∃ ob v6' v7' v11', Hand (M.set p ob) p c ∧ denSs (Pg.wld d) agB [some (.loc p), some (iv hs), some (sv st), some (.loc y), some (.loc u), some (.loc q), v6, v7, v8, v9, v10, v11] M = .nx [some (.loc p), some (iv hs), some (sv st), some (.loc y), some (.loc u), some (.loc q), v6', v7', v8, v9, v10, v11'] (M.set p ob) := by
  obtain ⟨v, ob, hv, hH, ea⟩ := sp_anyL d (by omega) hh hu hpu hne (Nat.lt_of_le_of_lt (prs_len st f.n8) (by omega))
  obtain ⟨i, j, hi, hj, g, rfl⟩ := mem_prs.mp hv
  have hl := f.len
  have h1 : st[i]? = some (st[i]'(by omega)) := List.getElem?_eq_getElem _
  have h2 : st[j]? = some (st[j]'(by omega)) := List.getElem?_eq_getElem _
  have h3 : hs[j]? = some (hs[j]'(by omega)) := List.getElem?_eq_getElem _
  have h4 : hs[i]? = some (hs[i]'(by omega)) := List.getElem?_eq_getElem _
  have g := (goB_iff h1 h2 h3).mp g
  have f2 := bh_fits f h1 h2 h3 g
  have hi' : i < st.length := by omega
  have hj' : j < st.length := by omega
  have hfit := f.fit i _ _ h1 h4
  generalize st[i]'(by omega) = bi at h1 g f2 hfit
  generalize st[j]'(by omega) = bj at h2 g f2
  generalize hs[j]'(by omega) = xj at h3 g
  generalize hs[i]'(by omega) = xi at h4 hfit
  have a1 : (bh st i j bi bj)[j]? = some (bj ++ bi.drop (bi.length - 1)) := by rw [bh_at hi' hj' g.1, if_neg (Ne.symm g.1), if_pos rfl]
  have a2 : (bh st i j bi bj)[i]? = some (bi.take (bi.length - 1)) := by rw [bh_at hi' hj' g.1, if_pos rfl]
  have back := bh_back h1 h2 g.1 g.2.1
  have gg : j ≠ i ∧ 0 < (bj ++ bi.drop (bi.length - 1)).length ∧ ((bi.take (bi.length - 1)).length : Int) < xi :=
    ⟨Ne.symm g.1, by rw [List.length_append, List.length_drop]; omega, by rw [List.length_take]; omega⟩
  generalize hB : bh st i j bi bj = B at f2 a1 a2 back
  have hy' : (M.set p ob)[y]? = some (yardO hs) := by rw [List.getElem?_set_ne (Ne.symm hpy)]; exact hy
  refine ⟨ob, some (.int (i : Nat)), some (.int (j : Nat)), some (sv B), hH, ?_⟩
  have b1 : denS (Pg.wld d) (.asg (.tup (.cons (.nm 6) (.cons (.nm 7) .nil))) (.call "_law_any" (.cons (.var 0) (.cons (.var 4) .nil)))) [some (.loc p), some (iv hs), some (sv st), some (.loc y), some (.loc u), some (.loc q), v6, v7, v8, v9, v10, v11] M = .nx [some (.loc p), some (iv hs), some (sv st), some (.loc y), some (.loc u), some (.loc q), some (.int (i : Nat)), some (.int (j : Nat)), v8, v9, v10, v11] (M.set p ob) :=
    s_asgT ((e_callG (es_cons rfl (es_cons rfl es_nil)) ea).trans (gc_set (by rw [List.length_set]))) rfl
  have b2 : denS (Pg.wld d) (.asg (.nm 11) (.call "_law_behind" (.cons (.var 2) (.cons (.tup (.cons (.var 6) (.cons (.var 7) .nil))) .nil)))) [some (.loc p), some (iv hs), some (sv st), some (.loc y), some (.loc u), some (.loc q), some (.int (i : Nat)), some (.int (j : Nat)), v8, v9, v10, v11] (M.set p ob) = .nx [some (.loc p), some (iv hs), some (sv st), some (.loc y), some (.loc u), some (.loc q), some (.int (i : Nat)), some (.int (j : Nat)), v8, v9, v10, some (sv B)] (M.set p ob) :=
    s_asg ((e_law_behind (by omega) f h1 h2 g.2.1 g.1 rfl rfl).trans (by rw [hB])) (by show 11 < 12; decide)
  generalize M.set p ob = M1 at hy' b1 b2
  have l1 := sp_is_lift d (by omega) f2 hy' a1 a2 h4
  rw [decide_eq_true gg] at l1
  have l2 := sp_lifted d (by omega) f2 hy' a1 a2 h4
  rw [if_pos gg, back] at l2
  have c1 := e_or (e_cmp (o := .isnt) (u := .bl true) (v := .bl true) (t := .bl false) (e_call (w := Pg.wld d) (σ := [some (.loc p), some (iv hs), some (sv st), some (.loc y), some (.loc u), some (.loc q), some (.int (i : Nat)), some (.int (j : Nat)), v8, v9, v10, some (sv B)]) (es := .cons (.var 3) (.cons (.var 11) (.cons (.tup (.cons (.var 7) (.cons (.var 6) .nil))) .nil))) (es_cons rfl (es_cons rfl (es_cons rfl es_nil))) l1) (b := .cst (.bl true)) rfl rfl) fun _ =>
    e_not (e_same0 (n := 3) (b := .var 2) (by omega) (Sm_refl M1 3 _ f.pl) (e_call (es := .cons (.var 3) (.cons (.var 11) (.cons (.tup (.cons (.var 7) (.cons (.var 6) .nil))) .nil))) (es_cons rfl (es_cons rfl (es_cons rfl es_nil))) l2) rfl)
  have c2 := e_same (d := d) (n := 3) (by omega) (M := M1) (M2 := [PO.lst (prs hs B), .lst (prs hs B)]) (Sm_list (n := 2) (xs := prs hs B) (a := M1.length) (b := M1.length + 1) at_new (by simp [List.getElem?_append]) (prs_cap B f.n8) fun v hv => (pl_prs v hv).2)
    (e_lifts (by omega) f2 hy' (a := .var 3) (b := .var 11) (σ := [some (.loc p), some (iv hs), some (sv st), some (.loc y), some (.loc u), some (.loc q), some (.int (i : Nat)), some (.int (j : Nat)), v8, v9, v10, some (sv B)]) rfl rfl)
    (by
      have e := e_law_lifts (d := d) (by omega) f2 (M := M1 ++ [.lst (prs hs B)]) (a := .var 1) (b := .var 11) (σ := [some (.loc p), some (iv hs), some (sv st), some (.loc y), some (.loc u), some (.loc q), some (.int (i : Nat)), some (.int (j : Nat)), v8, v9, v10, some (sv B)]) rfl rfl
      rw [List.length_append, List.length_singleton, List.append_assoc] at e
      exact e)
  exact (ss_cons b1).trans ((ss_cons b2).trans ((ss_cons ((s_if c1).trans (if_neg (show ¬ (false || !true) = true by decide)))).trans (ss_cons (s_ifnot c2))))
theorem sp_are_listed (d : Nat) (hd : 9 ≤ d) {hs : List Int} {st : List (List Int)} (f : Fits hs st) {M : Store} {p c : Nat} (hh : Hand M p c) : ∃ M', Pg.call d "_law_are_listed" [.loc p, iv hs, sv st] M = .ok (.bl true) M' ∧ Ext p c M M' := by
  obtain ⟨d, rfl⟩ : ∃ n, d = n + 1 := ⟨d - 1, by omega⟩
  rw [callS fn__law_are_listed rfl]
  have s0 : startE c__law_are_listed [PV.loc p, iv hs, sv st] = [some (.loc p), some (iv hs), some (sv st), none, none, none, none, none, none, none, none, none] := rfl
  rw [s0]
  have n1 := e_new (d := d) (by omega) f.n0 f.n8 f.h (a := .var 1) (σ := [some (.loc p), some (iv hs), some (sv st), none, none, none, none, none, none, none, none, none]) (M := M) rfl
  have n2 := e_law_lifts (d := d) (by omega) f (a := .var 1) (b := .var 2) (σ := [some (.loc p), some (iv hs), some (sv st), none, none, none, none, none, none, none, none, none]) (M := M ++ [yardO hs]) rfl rfl
  rw [List.length_append, List.length_singleton] at n2
  have t1 : denS (Pg.wld d) (.par [3, 4] (.cons (.new "Yard" (.cons (.var 1) .nil)) (.cons (.call "_law_lifts" (.cons (.var 1) (.cons (.var 2) .nil))) .nil))) [some (.loc p), some (iv hs), some (sv st), none, none, none, none, none, none, none, none, none] M
      = .nx [some (.loc p), some (iv hs), some (sv st), some (.loc M.length), some (.loc (M.length + 1)), none, none, none, none, none, none, none] (M ++ [yardO hs] ++ [.lst (prs hs st)]) := by
    unfold denS
    rw [es_consG n1 (es_consG n2 es_nil)]; rfl
  have y2 : (M ++ [yardO hs] ++ [PO.lst (prs hs st)])[M.length]? = some (yardO hs) := by simp
  have n3 := e_lifts (d := d) (by omega) f y2 (a := .var 3) (b := .var 2) (σ := [some (.loc p), some (iv hs), some (sv st), some (.loc M.length), some (.loc (M.length + 1)), none, none, none, none, none, none, none]) rfl rfl
  have ln : (M ++ [yardO hs] ++ [PO.lst (prs hs st)]).length = M.length + 2 := by simp
  rw [ln] at n3
  have t2 : denS (Pg.wld d) (.asg (.nm 5) (.call "lifts" (.cons (.var 3) (.cons (.var 2) .nil)))) [some (.loc p), some (iv hs), some (sv st), some (.loc M.length), some (.loc (M.length + 1)), none, none, none, none, none, none, none] (M ++ [yardO hs] ++ [.lst (prs hs st)])
      = .nx [some (.loc p), some (iv hs), some (sv st), some (.loc M.length), some (.loc (M.length + 1)), some (.loc (M.length + 2)), none, none, none, none, none, none] (M ++ [yardO hs] ++ [.lst (prs hs st)] ++ [.lst (prs hs st)]) := s_asg n3 (by show 5 < 12; decide)
  have t3 := s_ifnot (p := .cons (.ret (.cst (.bl false))) .nil) (e_same0 (d := d) (n := 3) (by omega) (a := .var 5) (b := .var 4) (σ := [some (.loc p), some (iv hs), some (sv st), some (.loc M.length), some (.loc (M.length + 1)), some (.loc (M.length + 2)), none, none, none, none, none, none]) (Sm_list (n := 2) (new_at3 (M := M) (a := yardO hs) (b := PO.lst (prs hs st)) (c := .lst (prs hs st))) new_at2 (prs_cap st f.n8) fun v hv => (pl_prs v hv).2) rfl rfl)
  have w3 : (M ++ [yardO hs] ++ [PO.lst (prs hs st)] ++ [PO.lst (prs hs st)])[M.length + 2]? = some (.lst (prs hs st)) := new_at3
  have m4 : denE (Pg.wld d) (.mt .append (.var 5) (.cons (.cst .non) .nil)) [some (.loc p), some (iv hs), some (sv st), some (.loc M.length), some (.loc (M.length + 1)), some (.loc (M.length + 2)), none, none, none, none, none, none] (M ++ [yardO hs] ++ [.lst (prs hs st)] ++ [.lst (prs hs st)])
      = .ok .non (M ++ [yardO hs] ++ [.lst (prs hs st)] ++ [.lst (prs hs st ++ [.non])]) := by
    rw [denE, show denE (Pg.wld d) (.var 5) [some (.loc p), some (iv hs), some (sv st), some (.loc M.length), some (.loc (M.length + 1)), some (.loc (M.length + 2)), none, none, none, none, none, none] (M ++ [yardO hs] ++ [.lst (prs hs st)] ++ [.lst (prs hs st)]) = .ok (.loc (M.length + 2)) (M ++ [yardO hs] ++ [.lst (prs hs st)] ++ [.lst (prs hs st)]) from rfl, Out.bind, if_pos (mtOk_lst w3).1]
    show gc _ (mtV .append (.loc (M.length + 2)) [.non] _) = _
    rw [mt_append w3 (Nat.lt_of_le_of_lt (prs_len st f.n8) (by unfold cap; omega))]
    have e := set_new (M := M ++ [yardO hs] ++ [.lst (prs hs st)]) (o := .lst (prs hs st)) (o' := .lst (prs hs st ++ [.non]))
    rw [ln] at e
    rw [e, gc_set (by simp)]
  have t4 := s_expr m4
  have hh4 : Hand (M ++ [yardO hs] ++ [.lst (prs hs st)] ++ [.lst (prs hs st ++ [.non])]) p c := hh.keep fun i hi => by rw [List.append_assoc, List.append_assoc, List.getElem?_append_left hi]
  have hy4 : (M ++ [yardO hs] ++ [PO.lst (prs hs st)] ++ [PO.lst (prs hs st ++ [.non])])[M.length]? = some (yardO hs) := new_at1
  have hu4 : (M ++ [yardO hs] ++ [PO.lst (prs hs st)] ++ [PO.lst (prs hs st ++ [.non])])[M.length + 1]? = some (.lst (prs hs st)) := new_at2
  have x4 : Ext p c M (M ++ [yardO hs] ++ [PO.lst (prs hs st)] ++ [PO.lst (prs hs st ++ [.non])]) := ⟨by simp, fun i hi _ => by rw [List.append_assoc, List.append_assoc, List.getElem?_append_left hi], hh4⟩
  generalize M ++ [yardO hs] ++ [PO.lst (prs hs st)] ++ [PO.lst (prs hs st ++ [.non])] = M4 at t4 hh4 hy4 hu4 x4
  have hpl : p < M.length := hh.lt
  have hp0 : M.length ≠ p := by omega
  have hp1 : p ≠ M.length + 1 := by omega
  have hr : ∀ v6 v7 v8 v9 M', denIt (Pg.wld d) (.rng (.bi .len (.cons (.var 1) .nil))) [some (.loc p), some (iv hs), some (sv st), some (.loc M.length), some (.loc (M.length + 1)), some (.loc (M.length + 2)), v6, v7, v8, v9, none, none] M' = .ok ((List.range hs.length).map (fun (k : Nat) => PV.int (k : Int)), []) M' := fun v6 v7 v8 v9 M' =>
    e_rng (e_bi (es_cons (u := iv hs) rfl es_nil) len_iv) (by have := f.n8; omega)
  obtain ⟨σ5, M5, t5, ⟨v6, v7, v8, v9, hσ5, hM5⟩⟩ := s_for (w := Pg.wld d) (t := .nm 6) (it := .rng (.bi .len (.cons (.var 1) .nil))) (b := .cons (.fo (.nm 7) (.rng (.bi .len (.cons (.var 1) .nil))) inB) .nil) (M := M4)
    (fun i σ M' => ∃ v6 v7 v8 v9, σ = [some (.loc p), some (iv hs), some (sv st), some (.loc M.length), some (.loc (M.length + 1)), some (.loc (M.length + 2)), v6, v7, v8, v9, none, none] ∧ M' = M4) (hr none none none none M4) ⟨none, none, none, none, rfl, rfl⟩ (fun _ _ _ _ => rfl) fun i x σ M' hx hI => by
      obtain ⟨v6, v7, v8, v9, rfl, rfl⟩ := hI
      rw [List.getElem?_map] at hx
      obtain ⟨i', hi', e⟩ := Option.map_eq_some_iff.mp hx
      subst e
      have hi := List.mem_range.mp (List.mem_of_getElem? hi')
      obtain ⟨σ6, M6, t6, ⟨v7', v8', v9', hσ6, hM6⟩⟩ := s_for (w := Pg.wld d) (t := .nm 7) (it := .rng (.bi .len (.cons (.var 1) .nil))) (b := inB) (M := M')
        (fun i σ M6 => ∃ v7 v8 v9, σ = [some (.loc p), some (iv hs), some (sv st), some (.loc M.length), some (.loc (M.length + 1)), some (.loc (M.length + 2)), some (.int (i' : Nat)), v7, v8, v9, none, none] ∧ M6 = M') (hr (some (.int (i' : Nat))) v7 v8 v9 M') ⟨v7, v8, v9, rfl, rfl⟩ (fun _ _ _ _ => rfl) fun j x σ M6 hx hI => by
          obtain ⟨v7, v8, v9, rfl, rfl⟩ := hI
          rw [List.getElem?_map] at hx
          obtain ⟨j', hj', e⟩ := Option.map_eq_some_iff.mp hx
          subst e
          have hj := List.mem_range.mp (List.mem_of_getElem? hj')
          exact ⟨_, _, _, _, rfl, listed_in (d := d) (by omega) f hy4 hu4 hi hj v8 v9, _, _, _, rfl, rfl⟩
      refine ⟨_, _, _, _, rfl, ss_cons t6, ?_⟩
      exact ⟨_, _, _, _, hσ6, hM6⟩
  rw [hσ5, hM5] at t5
  have hr2 : denIt (Pg.wld d) (.rng (.ife (.cmp .gt (.bi .len (.cons (.var 4) .nil)) (.cst (.int (0)))) (.cst (.int (4))) (.cst (.int (0))))) [some (.loc p), some (iv hs), some (sv st), some (.loc M.length), some (.loc (M.length + 1)), some (.loc (M.length + 2)), v6, v7, v8, v9, none, none] M4 = .ok ((List.range (if prs hs st = [] then 0 else 4)).map (fun (k : Nat) => PV.int (k : Int)), []) M4 := by
    refine e_rng (e_ife (e_gt (e_bi (es_cons (u := .loc (M.length + 1)) rfl es_nil) (biv_lenL hu4)) (n := 0) rfl) (fun h => ?_) fun h => ?_) (by split <;> omega)
    · rw [decide_eq_true_eq] at h
      rw [if_neg (fun e => by rw [e] at h; simp at h)]; rfl
    · rw [decide_eq_false_iff_not] at h
      rw [if_pos (List.length_eq_zero_iff.mp (by omega))]; rfl
  obtain ⟨σ7, M7, t7, ⟨v6', v7', v10', v11', hσ7, x7⟩⟩ := s_for (w := Pg.wld d) (t := .nm 10) (b := agB) (M := M4)
    (fun i σ M' => ∃ v6 v7 v10 v11, σ = [some (.loc p), some (iv hs), some (sv st), some (.loc M.length), some (.loc (M.length + 1)), some (.loc (M.length + 2)), v6, v7, v8, v9, v10, v11] ∧ Ext p c M4 M') hr2 ⟨v6, v7, none, none, rfl, .refl hh4⟩ (fun _ _ _ _ => rfl) fun i x σ M' hx hI => by
      obtain ⟨v6, v7, v10, v11, rfl, x'⟩ := hI
      have hne : prs hs st ≠ [] := fun e => by rw [if_pos e] at hx; cases hx
      obtain ⟨ob, v6', v7', v11', hH, e⟩ := listed_again (d := d) (by omega) f x'.hand (x'.at hy4 hp0) (x'.at hu4 (Ne.symm hp1)) hp1 hp0 hne v6 v7 v8 v9 (some x) v11 (q := M.length + 2)
      exact ⟨_, M', _, _, rfl, e, v6', v7', _, v11', rfl, x'.trans (.set hH)⟩
  rw [hσ7] at t7
  have hy7 := x7.at hy4 hp0
  have hu7 := x7.at hu4 (Ne.symm hp1)
  have t8 := s_ret (e_same (d := d) (n := 3) (by omega) (M := M7) (M2 := [PO.lst (prs hs st)]) (Sm_list (n := 2) (xs := prs hs st) (a := M7.length) (b := M.length + 1) at_new (by rw [List.getElem?_append_left (Rel.lt hu7)]; exact hu7) (prs_cap st f.n8) fun v hv => (pl_prs v hv).2)
    (e_lifts (by omega) f hy7 (a := .var 3) (b := .var 2) (σ := [some (.loc p), some (iv hs), some (sv st), some (.loc M.length), some (.loc (M.length + 1)), some (.loc (M.length + 2)), v6', v7', v8, v9, v10', v11']) rfl rfl) (b := .var 4) rfl)
  have e : denSs (Pg.wld d) c__law_are_listed.body [some (.loc p), some (iv hs), some (sv st), none, none, none, none, none, none, none, none, none] M = _ := (ss_cons t1).trans ((ss_cons t2).trans ((ss_cons t3).trans ((ss_cons t4).trans ((ss_cons t5).trans ((ss_cons t7).trans (ss_rt t8))))))
  rw [e]
  exact ⟨M7, rfl, x4.trans x7⟩

end Lawk05

namespace Lawk05
open PySem Mini
/-! ### a drawn case -/
theorem ext_take {p c : Nat} {M M' : Store} (e : Ext p c M M') (hh : Hand M p c) {N : Store} : ∃ M2, (∀ v, PV.under M.length v = true → gc M (.ok v (M' ++ N)) = .ok v M2) ∧ Ext p c M M2 := by
  have hl : M.length ≤ (M' ++ N).length := by rw [List.length_append]; have := e.len; omega
  have hx : Ext p c M (M' ++ N) := ⟨hl, fun i hi hp => by rw [List.getElem?_append_left (Nat.lt_of_lt_of_le hi e.len)]; exact e.same i hi hp, e.hand.keep fun i hi => List.getElem?_append_left hi⟩
  obtain ⟨M2, g, l, k⟩ := gc_val (M := M) (M' := M' ++ N) (v := .non) hl rfl
  refine ⟨M2, fun v hv => ?_, hx.gc l k hh⟩
  unfold gc at g ⊢
  dsimp only at g ⊢
  split
  · rename_i c0
    rw [if_pos c0] at g
    cases g; rfl
  · rename_i c0
    rw [if_neg c0] at g
    split
    · rename_i c1
      rw [if_pos c1, if_pos (show PV.under M.length .non = true from rfl)] at g
      cases g
      first | rfl | rw [if_pos hv]
    · rename_i c1
      rw [if_neg c1] at g
      cases g; rfl
theorem gc_at2 {p c : Nat} {M M' : Store} (e : Ext p c M M') (hh : Hand M p c) {ob : PO} : ∃ q M2, gc M (.ok (.loc M'.length) (M' ++ [ob])) = .ok (.loc q) M2 ∧ M2[q]? = some ob ∧ M.length ≤ q ∧ Ext p c M M2 := by
  obtain ⟨q, M2, g, a, b, l, k⟩ := gc_list (M := M) (M' := M' ++ [ob]) (q := M'.length) (ob := ob) at_new e.len
  have hx : Ext p c M (M' ++ [ob]) := ⟨by rw [List.length_append]; have := e.len; omega, fun i hi hp => by rw [List.getElem?_append_left (Nat.lt_of_lt_of_le hi e.len)]; exact e.same i hi hp, e.hand.keep fun i hi => List.getElem?_append_left hi⟩
  exact ⟨q, M2, g, a, b, hx.gc l k hh⟩
/-- a draw -/
theorem e_draw {d : Nat} (hd : 1 ≤ d) {M : Store} {p c : Nat} (hh : Hand M p c) {σ : Mini.Env} {a : E} {many : Int} (h0 : 0 < many) (h1 : many < 1073741824) (hp : denE (Pg.wld d) (.var 0) σ M = .ok (.loc p) M) (ha : denE (Pg.wld d) a σ M = .ok (.int many) M) :
    ∃ v ob, 0 ≤ v ∧ v < many ∧ Hand (M.set p ob) p c ∧ denE (Pg.wld d) (.call "_law_draw" (.cons (.var 0) (.cons a .nil))) σ M = .ok (.int v) (M.set p ob) := by
  obtain ⟨v, ob, v0, v1, hH, e⟩ := sp_draw d hd hh h0 h1
  exact ⟨v, ob, v0, v1, hH, (e_callG (es_cons hp (es_cons ha es_nil)) e).trans (gc_set (by rw [List.length_set]))⟩
theorem e_sumI {w : Wld} {a : E} {σ : Mini.Env} {M : Store} {hs : List Int} (h : denE w a σ M = .ok (iv hs) M) : denE w (.bi .sum (.cons a .nil)) σ M = .ok (.int hs.sum) M := by
  refine e_bi (es_cons h es_nil) ?_
  show (if isInts (hs.map PV.int) = true then Out.ok (PV.int ((hs.map PV.int).map intOf).sum) M else .fail) = _
  rw [if_pos (isInts_ints hs), intOf_map]
theorem e_maxI {w : Wld} {a : E} {σ : Mini.Env} {M : Store} {hs : List Int} (h0 : hs ≠ []) (h : denE w a σ M = .ok (iv hs) M) : ∃ m ∈ hs, denE w (.bi .max (.cons a .nil)) σ M = .ok (.int m) M := by
  cases hs with
  | nil => exact absurd rfl h0
  | cons x hs =>
    have hm := foldMx_mem (lt := fun a b => PV.lt a b) (hs.map PV.int) (.int x)
    obtain ⟨m, hm1, hm2⟩ := List.mem_map.mp (show _ ∈ (x :: hs).map PV.int from hm)
    refine ⟨m, hm1, e_bi (es_cons h es_nil) ?_⟩
    show (if ordOk ((x :: hs).map PV.int) = true then Out.ok (foldMx (fun a b => PV.lt a b) (.int x) (hs.map PV.int)) M else .fail) = _
    rw [if_pos (show ordOk ((x :: hs).map PV.int) = true from isInts_ints (x :: hs)), ← hm2]
theorem sum_bound : ∀ (hs : List Int) (b : Int), (∀ h ∈ hs, 1 ≤ h ∧ h ≤ b) → (hs.length : Int) ≤ hs.sum ∧ hs.sum ≤ hs.length * b
  | [], b, _ => by simp
  | x :: xs, b, h => by
    have h1 := h x List.mem_cons_self
    have h2 := sum_bound xs b fun y hy => h y (List.mem_cons_of_mem _ hy)
    rw [List.length_cons, List.sum_cons]
    have : ((xs.length + 1 : Nat) : Int) * b = xs.length * b + b := by rw [Int.natCast_add, Int.add_mul]; simp
    rw [this]
    omega
/-- the heights -/
def hgE : E := (.bi .tuple (.cons (.lc [11, 12] (.nm 12) (.rng (.bin .add (.cst (.int (1))) (.call "_law_draw" (.cons (.var 0) (.cons (.var 1) .nil))))) (.cst (.bl true)) (.bin .add (.cst (.int (1))) (.call "_law_draw" (.cons (.var 0) (.cons (.var 2) .nil))))) .nil))
theorem case_heights {d : Nat} (hd : 1 ≤ d) {M : Store} {p c : Nat} (hh : Hand M p c) {n t : Int} (n0 : 0 < n) (n8 : n ≤ 8) (t0 : 0 < t) (t9 : t ≤ 9) :
    ∃ hs M', denE (Pg.wld d) hgE [some (.loc p), some (.int n), some (.int t), none, none, none, none, none, none, none, none, none, none, none, none] M = .ok (iv hs) M' ∧ hs ≠ [] ∧ hs.length ≤ 8 ∧ (∀ h ∈ hs, 1 ≤ h ∧ h ≤ 9) ∧ Ext p c M M' := by
  obtain ⟨v, ob, v0, v1, hH, e1⟩ := e_draw hd hh n0 (by omega) (σ := [some (.loc p), some (.int n), some (.int t), none, none, none, none, none, none, none, none, none, none, none, none]) (a := .var 1) rfl rfl
  have ev : (1 + v : Int) = ((v.toNat + 1 : Nat) : Int) := by omega
  have hi : denIt (Pg.wld d) (.rng (.bin .add (.cst (.int (1))) (.call "_law_draw" (.cons (.var 0) (.cons (.var 1) .nil))))) [some (.loc p), some (.int n), some (.int t), none, none, none, none, none, none, none, none, none, none, none, none] M = _ :=
    e_rngG (n := v.toNat + 1) ((e_binG rfl e1 rfl).trans (by rw [ev])) (by omega)
  obtain ⟨ys, M2, e2, ⟨x2, l2⟩, hl, hq⟩ := lc_inv (own := [11, 12]) (t := .nm 12) (elt := (.bin .add (.cst (.int (1))) (.call "_law_draw" (.cons (.var 0) (.cons (.var 2) .nil))))) (fun M' => Ext p c M M' ∧ M'.length = M.length) (fun y => ∃ i, y = .int i ∧ 1 ≤ i ∧ i ≤ 9) hi ⟨.set hH, by rw [List.length_set]⟩ (fun _ _ => rfl)
    (by rw [List.length_map, List.length_range]; unfold cap; omega) fun x _ M' hI => by
      obtain ⟨v', ob', a0, a1, hH', e'⟩ := e_draw hd hI.1.hand t0 (by omega) (σ := [some (.loc p), some (.int n), some (.int t), none, none, none, none, none, none, none, none, none, some x, none, none]) (a := .var 2) rfl rfl
      exact ⟨_, M', _, _, rfl, e_binG rfl e' rfl, ⟨hI.1.trans (.set hH'), by rw [List.length_set]; exact hI.2⟩, _, rfl, by omega, by omega⟩
  obtain ⟨hs, rfl, hb⟩ := ints_of hq
  obtain ⟨q, M3, g, hq3, _, x3⟩ := gc_at2 x2 hh (ob := .lst (hs.map .int))
  rw [g] at e2
  obtain ⟨M4, g4, x4⟩ := ext_take x3 hh (N := [])
  rw [List.append_nil] at g4
  rw [List.length_map, List.length_map, List.length_range] at hl
  have hne : hs ≠ [] := fun e => by rw [e] at hl; cases hl
  refine ⟨hs, M4, ?_, hne, by omega, hb, x4⟩
  exact (e_biG (es_consG e2 es_nil) (by
    show (match seqL (.loc q) M3 with
      | some xs => Out.ok (PV.tup xs) M3
      | none => .fail) = _
    rw [seqL_lst hq3]; rfl)).trans (g4 _ (under_iv _))

end Lawk05

namespace Lawk05
open PySem Mini
/-! ### a drawn case, on -/
abbrev CE (p : Nat) (n t : Int) (hs : List Int) (v4 v5 v6 v7 v8 v9 v10 : Option PV) : Mini.Env := [some (.loc p), some (.int n), some (.int t), some (iv hs), v4, v5, v6, v7, v8, v9, v10, none, none, none, none]
theorem Ext.app {p c : Nat} {M M' : Store} (e : Ext p c M M') (N : Store) : Ext p c M (M' ++ N) :=
  ⟨by rw [List.length_append]; have := e.len; omega, fun i hi hp => by rw [List.getElem?_append_left (Nat.lt_of_lt_of_le hi e.len)]; exact e.same i hi hp, e.hand.keep fun i hi => List.getElem?_append_left hi⟩
theorem gc_ext {p c : Nat} {M M' : Store} (e : Ext p c M M') (hh : Hand M p c) {v : PV} (hv : PV.under M.length v = true) : ∃ M2, Mini.gc M (.ok v M') = .ok v M2 ∧ Ext p c M M2 := by
  obtain ⟨M2, g, x⟩ := ext_take e hh (N := [])
  rw [List.append_nil] at g
  exact ⟨M2, g v hv, x⟩
theorem gc_extL {p c : Nat} {M M' : Store} (e : Ext p c M M') (hh : Hand M p c) {q : Nat} {ob : PO} (hq : M'[q]? = some ob) (hge : M.length ≤ q) : ∃ q2 M2, Mini.gc M (.ok (.loc q) M') = .ok (.loc q2) M2 ∧ M2[q2]? = some ob ∧ M.length ≤ q2 ∧ Ext p c M M2 := by
  obtain ⟨q2, M2, g, a, b, l, k⟩ := gc_list hq hge
  exact ⟨q2, M2, g, a, b, e.gc l k hh⟩
def frE : E := (.bi .min2 (.cons (.var 4) (.cons (.call "_law_any" (.cons (.var 0) (.cons (.lst (.cons (.cst (.int (0))) (.cons (.cst (.int (1))) (.cons (.cst (.int (1))) (.cons (.cst (.int (2))) (.cons (.cst (.int (2))) (.cons (.cst (.int (3))) (.cons (.var 5) (.cons (.bin .sub (.var 5) (.cst (.int (1)))) (.cons (.call "_law_draw" (.cons (.var 0) (.cons (.bin .add (.var 4) (.cst (.int (1)))) .nil))) .nil)))))))))) .nil))) .nil)))
theorem case_free {d : Nat} (hd : 2 ≤ d) {M : Store} {p c : Nat} (hh : Hand M p c) {n t total high : Int} {hs : List Int} (t0 : 0 ≤ total) (t1 : total ≤ 1000) (h1 : 1 ≤ high) :
    ∃ fr M', denE (Pg.wld d) frE (CE p n t hs (some (.int total)) (some (.int high)) none none none none none) M = .ok (.int fr) M' ∧ 0 ≤ fr ∧ fr ≤ total ∧ Ext p c M M' := by
  obtain ⟨v, ob, v0, v1, hH, e1⟩ := e_draw (d := d) (by omega) hh (many := total + 1) (by omega) (by omega) (σ := CE p n t hs (some (.int total)) (some (.int high)) none none none none none) (a := .bin .add (.var 4) (.cst (.int (1)))) rfl (e_add rfl rfl)
  have e2 : denEs (Pg.wld d) (.cons (.cst (.int (0))) (.cons (.cst (.int (1))) (.cons (.cst (.int (1))) (.cons (.cst (.int (2))) (.cons (.cst (.int (2))) (.cons (.cst (.int (3))) (.cons (.var 5) (.cons (.bin .sub (.var 5) (.cst (.int (1)))) (.cons (.call "_law_draw" (.cons (.var 0) (.cons (.bin .add (.var 4) (.cst (.int (1)))) .nil))) .nil))))))))) (CE p n t hs (some (.int total)) (some (.int high)) none none none none none) M
      = .ok [.int 0, .int 1, .int 1, .int 2, .int 2, .int 3, .int high, .int (high - 1), .int v] (M.set p ob) :=
    es_consG rfl (es_consG rfl (es_consG rfl (es_consG rfl (es_consG rfl (es_consG rfl (es_consG rfl (es_consG rfl (es_consG e1 es_nil))))))))
  have x1 : Ext p c M (M.set p ob ++ [.lst [.int 0, .int 1, .int 1, .int 2, .int 2, .int 3, .int high, .int (high - 1), .int v]]) := (Ext.set hH).app _
  have lp : p < (M.set p ob).length := by rw [List.length_set]; exact hh.lt
  obtain ⟨w, ob2, hw, hH2, e3⟩ := sp_anyL d hd x1.hand (q := (M.set p ob).length) (xs := [.int 0, .int 1, .int 1, .int 2, .int 2, .int 3, .int high, .int (high - 1), .int v]) at_new (by omega) (by simp) (by simp)
  have hw2 : ∃ z : Int, w = .int z ∧ 0 ≤ z := by
    simp only [List.mem_cons, List.not_mem_nil, or_false] at hw
    rcases hw with e | e | e | e | e | e | e | e | e <;> exact ⟨_, e, by omega⟩
  obtain ⟨z, rfl, z0⟩ := hw2
  have x2 := x1.trans (.set hH2)
  obtain ⟨M3, g3, x3⟩ := gc_ext x2 hh (v := .int z) rfl
  have e4 : denE (Pg.wld d) (.lst (.cons (.cst (.int (0))) (.cons (.cst (.int (1))) (.cons (.cst (.int (1))) (.cons (.cst (.int (2))) (.cons (.cst (.int (2))) (.cons (.cst (.int (3))) (.cons (.var 5) (.cons (.bin .sub (.var 5) (.cst (.int (1)))) (.cons (.call "_law_draw" (.cons (.var 0) (.cons (.bin .add (.var 4) (.cst (.int (1)))) .nil))) .nil)))))))))) (CE p n t hs (some (.int total)) (some (.int high)) none none none none none) M
      = .ok (.loc (M.set p ob).length) (M.set p ob ++ [.lst [.int 0, .int 1, .int 1, .int 2, .int 2, .int 3, .int high, .int (high - 1), .int v]]) := by
    rw [denE, e2]; rfl
  have e5 := (e_callG (w := Pg.wld d) (es_consG (a := .var 0) (u := .loc p) rfl (es_consG e4 es_nil)) e3).trans g3
  obtain ⟨M4, g4, x4⟩ := gc_ext x3 hh (v := .int (if z < total then z else total)) rfl
  exact ⟨_, M4, (e_biG (es_consG (u := .int total) rfl (es_consG e5 es_nil)) rfl).trans g4, by split <;> omega, by split <;> omega, x4⟩
/-- a list of things lies at q -/
structure Things (p : Nat) (M : Store) (q : Nat) (ts : List Int) : Prop where
  at_ : M[q]? = some (.lst (ts.map .int))
  ne : q ≠ p
  b : ∀ z ∈ ts, (0 : Int) ≤ z ∧ z ≤ 99
def mxE : E := (.call "_law_mixed" (.cons (.var 0) (.cons (.lc [11, 13] (.nm 13) (.rng (.bin .sub (.var 4) (.var 6))) (.cst (.bl true)) (.bin .add (.var 7) (.var 13))) .nil)))
theorem case_mixed {d : Nat} (hd : 2 ≤ d) {M : Store} {p c : Nat} (hh : Hand M p c) {n t total fr base : Int} {v5 : Option PV} {hs : List Int} (t1 : total ≤ 1000) (f0 : 0 ≤ fr) (f1 : fr ≤ total) (b0 : 0 ≤ base) (b1 : base < 101 - total + fr) :
    ∃ q ts M', denE (Pg.wld d) mxE (CE p n t hs (some (.int total)) v5 (some (.int fr)) (some (.int base)) none none none) M = .ok (.loc q) M' ∧ Things p M' q ts ∧ (ts.length : Int) = total - fr ∧ M.length ≤ q ∧ Ext p c M M' := by
  have et : total - fr = ((total - fr).toNat : Int) := by omega
  have hi : denIt (Pg.wld d) (.rng (.bin .sub (.var 4) (.var 6))) (CE p n t hs (some (.int total)) v5 (some (.int fr)) (some (.int base)) none none none) M = _ :=
    e_rng (n := (total - fr).toNat) (by rw [← et]; exact e_sub rfl rfl) (by omega)
  have e1 : denE (Pg.wld d) (.lc [11, 13] (.nm 13) (.rng (.bin .sub (.var 4) (.var 6))) (.cst (.bl true)) (.bin .add (.var 7) (.var 13))) (CE p n t hs (some (.int total)) v5 (some (.int fr)) (some (.int base)) none none none) M
      = .ok (.loc M.length) (M ++ [.lst (((List.range (total - fr).toNat).map fun (k : Nat) => base + (k : Int)).map .int)]) := by
    rw [lc_map (f := fun x => .int (base + intOf x)) hi rfl (by rw [List.length_map, List.length_range]; unfold cap; omega) fun x hx => ?_, gc_lst]
    · rw [List.map_map, List.map_map]; rfl
    · obtain ⟨k, _, rfl⟩ := List.mem_map.mp hx
      exact ⟨_, rfl, rfl⟩
  have x1 : Ext p c M (M ++ [.lst (((List.range (total - fr).toNat).map fun (k : Nat) => base + (k : Int)).map .int)]) := (Ext.refl hh).app _
  obtain ⟨r, M2, ys, e2, hr, hp, hge, x2⟩ := sp_mixed d hd x1.hand (q := M.length) at_new (by rw [List.length_map, List.length_map, List.length_range]; omega)
  have hq : ∀ y ∈ ys, ∃ i, y = .int i ∧ 0 ≤ i ∧ i ≤ 99 := fun y hy => by
    obtain ⟨z, hz, rfl⟩ := List.mem_map.mp (hp.mem_iff.mp hy)
    obtain ⟨k, hk, rfl⟩ := List.mem_map.mp hz
    have := List.mem_range.mp hk
    exact ⟨_, rfl, by omega, by omega⟩
  obtain ⟨ts, rfl, hb⟩ := ints_of hq
  have hl := hp.length_eq
  rw [List.length_map, List.length_map, List.length_map, List.length_range] at hl
  rw [List.length_append, List.length_singleton] at hge
  obtain ⟨q2, M3, g, a, b, x3⟩ := gc_extL (x1.trans x2) hh hr (by omega)
  have := hh.lt
  exact ⟨q2, ts, M3, (e_callG (es_consG rfl (es_consG e1 es_nil)) e2).trans g, ⟨a, by omega, hb⟩, by omega, b, x3⟩

end Lawk05

namespace Lawk05
open PySem Mini
theorem copV_eq {u v : PV} {M : Store} {x : Bool} (h : eqD u v M = some x) : copV .eq u v M = .ok (.bl x) M := by
  show (opt M (eqD u v M)).bind _ = _
  rw [h]; rfl
theorem e_eqG {w : Wld} {a b : E} {σ : Mini.Env} {M M1 M2 : Store} {m n : Int} (h1 : denE w a σ M = .ok (.int m) M1) (h2 : denE w b σ M1 = .ok (.int n) M2) : denE w (.cmp .eq a b) σ M = .ok (.bl (decide (m = n))) M2 := by
  unfold denE
  rw [h1]
  show (denE w b σ M1).bind _ = _
  rw [h2]
  exact copV_eq eqD_int
theorem e_andG {w : Wld} {a b : E} {σ : Mini.Env} {M M1 : Store} {x y : Bool} (h1 : denE w a σ M = .ok (.bl x) M1) (h2 : x = true → denE w b σ M1 = .ok (.bl y) M1) : denE w (.and a b) σ M = .ok (.bl (x && y)) M1 := by
  unfold denE
  rw [h1]
  cases x with
  | true => exact h2 rfl
  | false => rfl
theorem e_ixG {w : Wld} {a i : E} {σ : Mini.Env} {M M1 : Store} {u v t : PV} (h1 : denE w a σ M = .ok u M) (h2 : denE w i σ M = .ok v M1) (h : ixV u v M1 = .ok t M1) : denE w (.ix a i) σ M = .ok t M1 := by
  unfold denE
  rw [h1]
  show (denE w i σ M).bind _ = _
  rw [h2]
  exact h
theorem Ext.set_new {p c : Nat} {M M' : Store} (e : Ext p c M M') (hh : Hand M p c) {q : Nat} (hq : M.length ≤ q) (o : PO) : Ext p c M (M'.set q o) := by
  have h1 := hh.lt
  have h2 := hh.cl
  exact ⟨by rw [List.length_set]; exact e.len, fun i hi hp => by rw [List.getElem?_set_ne (by omega)]; exact e.same i hi hp, e.hand.set_other (by omega) (by omega)⟩
def thS : Mini.S := (.ife (.cmp .eq (.call "_law_draw" (.cons (.var 0) (.cons (.cst (.int (4))) .nil))) (.cst (.int (0)))) (.cons (.asg (.nm 8) (.lc [11, 9] (.nm 9) (.seq (.var 8)) (.cst (.bl true)) (.bin .mul (.cst (.int (33))) (.call "_law_draw" (.cons (.var 0) (.cons (.cst (.int (4))) .nil)))))) .nil) .nil)
theorem case_thin {d : Nat} (hd : 2 ≤ d) {M : Store} {p c : Nat} (hh : Hand M p c) {n t : Int} {v4 v5 v6 v7 : Option PV} {hs ts : List Int} {q : Nat} (ht : Things p M q ts) (hl : ts.length ≤ 1000) :
    ∃ q' ts' M', denS (Pg.wld d) thS (CE p n t hs v4 v5 v6 v7 (some (.loc q)) none none) M = .nx (CE p n t hs v4 v5 v6 v7 (some (.loc q')) none none) M' ∧ Things p M' q' ts' ∧ ts'.length = ts.length ∧ (q' = q ∨ M.length ≤ q') ∧ Ext p c M M' := by
  obtain ⟨v, ob, v0, v1, hH, e1⟩ := e_draw (d := d) (by omega) hh (many := 4) (by omega) (by omega) (σ := CE p n t hs v4 v5 v6 v7 (some (.loc q)) none none) (a := .cst (.int 4)) rfl rfl
  have c1 := e_eqG (b := .cst (.int 0)) (n := 0) e1 rfl
  have x1 : Ext p c M (M.set p ob) := .set hH
  have hq1 := x1.at ht.at_ ht.ne
  by_cases h : v = 0
  · obtain ⟨ys, M2, e2, x2, hl2, hq⟩ := lc_inv (own := [11, 9]) (t := .nm 9) (elt := (.bin .mul (.cst (.int (33))) (.call "_law_draw" (.cons (.var 0) (.cons (.cst (.int (4))) .nil))))) (M := M.set p ob) (k := (ts.map .int, [(q, ts.map .int)])) (w := Pg.wld d) (it := .seq (.var 8)) (σ := CE p n t hs v4 v5 v6 v7 (some (.loc q)) none none) (fun M' => Ext p c (M.set p ob) M') (fun y => ∃ i, y = .int i ∧ 0 ≤ i ∧ i ≤ 99)
      (by
        rw [denIt, show denE (Pg.wld d) (.var 8) (CE p n t hs v4 v5 v6 v7 (some (.loc q)) none none) (M.set p ob) = .ok (.loc q) (M.set p ob) from rfl, Out.bind, seqW_lst hq1]; rfl) (.refl hH) (fun M' hI => still_lst (hI.at hq1 ht.ne)) (by rw [List.length_map]; unfold cap; omega) fun x hx M' hI => by
        obtain ⟨z, hz, rfl⟩ := List.mem_map.mp hx
        obtain ⟨v', ob', a0, a1, hH', e'⟩ := e_draw (d := d) (by omega) hI.hand (many := 4) (by omega) (by omega) (σ := CE p n t hs v4 v5 v6 v7 (some (.loc q)) (some (.int z)) none) (a := .cst (.int 4)) rfl rfl
        exact ⟨_, M', _, _, rfl, e_binG (u := .int 33) rfl e' (mul_ok (.inl (by decide)) _), hI.trans (.set hH'), _, rfl, by omega, by omega⟩
    obtain ⟨ts', rfl, hb⟩ := ints_of hq
    obtain ⟨q', M3, g, a, b, x3⟩ := gc_at2 x2 hH (ob := .lst (ts'.map .int))
    rw [List.length_map, List.length_map] at hl2
    have := hh.lt
    rw [List.length_set] at b
    have t1 : denS (Pg.wld d) thS (CE p n t hs v4 v5 v6 v7 (some (.loc q)) none none) M = .nx (CE p n t hs v4 v5 v6 v7 (some (.loc q')) none none) M3 :=
      (s_if c1).trans ((if_pos (decide_eq_true h)).trans (ss_cons (s_asg (e2.trans g) (by show 8 < 15; decide))))
    exact ⟨q', ts', M3, t1, ⟨a, by omega, hb⟩, hl2, .inr b, x1.trans x3⟩
  · exact ⟨q, ts, _, (s_if c1).trans (if_neg (by rw [decide_eq_true_eq]; exact h)), ⟨hq1, ht.ne, ht.b⟩, rfl, .inl rfl, x1⟩
def twS : Mini.S := (.ife (.and (.cmp .eq (.call "_law_draw" (.cons (.var 0) (.cons (.cst (.int (4))) .nil))) (.cst (.int (0)))) (.cmp .gt (.bi .len (.cons (.var 8) .nil)) (.cst (.int (1))))) (.cons (.asg (.ix (.var 8) (.call "_law_draw" (.cons (.var 0) (.cons (.bi .len (.cons (.var 8) .nil)) .nil)))) (.ix (.var 8) (.call "_law_draw" (.cons (.var 0) (.cons (.bi .len (.cons (.var 8) .nil)) .nil))))) .nil) .nil)
theorem setV_at {M : Store} {q k : Nat} {xs : List PV} {v : PV} (h : M[q]? = some (.lst xs)) (hk : k < xs.length) : setV (.loc q) (.int (k : Int)) v M = .ok () (M.set q (.lst (xs.set k v))) := by
  unfold setV
  dsimp only
  rw [h]
  dsimp only
  have e : ixN xs.length (k : Int) = some k := by
    unfold ixN
    rw [if_pos (Int.natCast_nonneg _), if_pos (by omega), Int.toNat_natCast]
  rw [e]
theorem case_twin {d : Nat} (hd : 2 ≤ d) {M0 M : Store} {p c : Nat} (hh : Hand M0 p c) (x0 : Ext p c M0 M) {n t : Int} {v4 v5 v6 v7 : Option PV} {hs ts : List Int} {q : Nat} (ht : Things p M q ts) (hge : M0.length ≤ q) (hl : ts.length ≤ 1000) :
    ∃ ts' M', denS (Pg.wld d) twS (CE p n t hs v4 v5 v6 v7 (some (.loc q)) none none) M = .nx (CE p n t hs v4 v5 v6 v7 (some (.loc q)) none none) M' ∧ Things p M' q ts' ∧ ts'.length = ts.length ∧ Ext p c M0 M' := by
  obtain ⟨v, ob, v0, v1, hH, e1⟩ := e_draw (d := d) (by omega) x0.hand (many := 4) (by omega) (by omega) (σ := CE p n t hs v4 v5 v6 v7 (some (.loc q)) none none) (a := .cst (.int 4)) rfl rfl
  have x1 : Ext p c M (M.set p ob) := .set hH
  have hq1 := x1.at ht.at_ ht.ne
  have c1 := e_andG (e_eqG (b := .cst (.int 0)) (n := 0) e1 rfl) fun _ => e_gt (m := ((ts.map PV.int).length : Int)) (n := 1) (a := .bi .len (.cons (.var 8) .nil)) (b := .cst (.int 1)) (e_bi (es_cons (u := .loc q) rfl es_nil) (biv_lenL hq1)) rfl
  rw [List.length_map] at c1
  by_cases h : (decide (v = 0) && decide ((1 : Int) < ts.length)) = true
  · have h2 : 1 < ts.length := by
      rw [Bool.and_eq_true, decide_eq_true_eq, decide_eq_true_eq] at h
      omega
    obtain ⟨i, ob2, i0, i1, hH2, e2⟩ := e_draw (d := d) (by omega) hH (many := ((ts.map PV.int).length : Int)) (by rw [List.length_map]; omega) (by rw [List.length_map]; omega) (σ := CE p n t hs v4 v5 v6 v7 (some (.loc q)) none none) (a := .bi .len (.cons (.var 8) .nil)) rfl (e_bi (es_cons (u := .loc q) rfl es_nil) (biv_lenL hq1))
    have x2 := x1.trans (.set hH2)
    have hq2 := x2.at ht.at_ ht.ne
    rw [List.length_map] at i1
    obtain ⟨i, rfl⟩ := Int.eq_ofNat_of_zero_le i0
    have hi : i < ts.length := by omega
    have e3 := e_ixG (a := .var 8) (u := .loc q) rfl e2 (t := .int ts[i]) (ix_lst hq2 (by rw [List.getElem?_map, List.getElem?_eq_getElem (by omega)]; rfl))
    obtain ⟨j, ob3, j0, j1, hH3, e4⟩ := e_draw (d := d) (by omega) hH2 (many := ((ts.map PV.int).length : Int)) (by rw [List.length_map]; omega) (by rw [List.length_map]; omega) (σ := CE p n t hs v4 v5 v6 v7 (some (.loc q)) none none) (a := .bi .len (.cons (.var 8) .nil)) rfl (e_bi (es_cons (u := .loc q) rfl es_nil) (biv_lenL hq2))
    have x3 := x2.trans (.set hH3)
    have hq3 := x3.at ht.at_ ht.ne
    rw [List.length_map] at j1
    obtain ⟨j, rfl⟩ := Int.eq_ofNat_of_zero_le j0
    have hj : j < ts.length := by omega
    have s := setV_at (k := j) (v := .int ts[i]) hq3 (by rw [List.length_map]; exact hj)
    rw [← List.map_set] at s
    have es : denT (Pg.wld d) (.ix (.var 8) (.call "_law_draw" (.cons (.var 0) (.cons (.bi .len (.cons (.var 8) .nil)) .nil)))) (.int ts[i]) (CE p n t hs v4 v5 v6 v7 (some (.loc q)) none none) ((M.set p ob).set p ob2) = .ok (CE p n t hs v4 v5 v6 v7 (some (.loc q)) none none) ((((M.set p ob).set p ob2).set p ob3).set q (.lst ((ts.set j ts[i]).map .int))) := by
      rw [denT, show denE (Pg.wld d) (.var 8) (CE p n t hs v4 v5 v6 v7 (some (.loc q)) none none) ((M.set p ob).set p ob2) = .ok (.loc q) ((M.set p ob).set p ob2) from rfl, Out.bind, e4, Out.bind, s]; rfl
    refine ⟨ts.set j ts[i], _, (s_if c1).trans ((if_pos h).trans (ss_cons (s_asgT e3 es))), ⟨List.getElem?_set_self (Rel.lt hq3), ht.ne, fun z hz => ?_⟩, List.length_set .., (x0.trans x3).set_new hh hge _⟩
    rcases List.mem_or_eq_of_mem_set hz with h | h
    · exact ht.b z h
    · rw [h]; exact ht.b _ (List.getElem_mem _)
  · exact ⟨ts, _, (s_if c1).trans (if_neg h), ⟨hq1, ht.ne, ht.b⟩, rfl, x0.trans x1⟩

end Lawk05

namespace Lawk05
open PySem Mini
/-! ### the things are laid into the stacks -/
structure Bags (p c : Nat) (M M' : Store) (hs : List Int) (B : List (List Int)) (i : Nat) : Prop where
  ext : Ext p c M M'
  len : B.length = hs.length
  lt : M.length + hs.length < M'.length
  hd : M'[M.length + hs.length]? = some (.lst (lcs M.length hs.length))
  bag : ∀ (k : Nat) b, B[k]? = some b → M'[M.length + k]? = some (lo b)
  fit : ∀ (k : Nat) b h, B[k]? = some b → hs[k]? = some h → (b.length : Int) ≤ h
  th : ∀ b ∈ B, ∀ t ∈ b, (0 : Int) ≤ t ∧ t ≤ 99
  sum : (B.map List.length).sum = i
theorem full_sum : ∀ (hs : List Int) (B : List (List Int)), B.length = hs.length → (∀ (k : Nat) b h, B[k]? = some b → hs[k]? = some h → h ≤ (b.length : Int)) → hs.sum ≤ ((B.map List.length).sum : Nat)
  | [], [], _, _ => by simp
  | x :: xs, b :: B, hl, h => by
    have h1 := h 0 b x rfl rfl
    have h2 := full_sum xs B (by simpa using hl) fun k => h (k + 1)
    rw [List.sum_cons, List.map_cons, List.sum_cons]
    omega
  | [], _ :: _, hl, _ => by cases hl
  | _ :: _, [], hl, _ => by cases hl
theorem sum_set : ∀ (B : List (List Int)) (k : Nat) (b : List Int) (z : Int), B[k]? = some b → ((B.set k (b ++ [z])).map List.length).sum = (B.map List.length).sum + 1
  | [], _, _, _, h => by cases h
  | x :: B, 0, b, z, h => by
    cases h
    rw [List.set_cons_zero, List.map_cons, List.map_cons, List.sum_cons, List.sum_cons, List.length_append, List.length_singleton]
    omega
  | x :: B, k + 1, b, z, h => by
    have ih := sum_set B k b z h
    rw [List.set_cons_succ, List.map_cons, List.map_cons, List.sum_cons, List.sum_cons, ih]
    omega
def layB : Ss := (.cons (.expr (.mt .append (.ix (.var 10) (.call "_law_any" (.cons (.var 0) (.cons (.lc [11, 13, 14] (.tup (.cons (.nm 13) (.cons (.nm 14) .nil))) (.enm (.var 10)) (.cmp .lt (.bi .len (.cons (.var 14) .nil)) (.ix (.var 3) (.var 13))) (.var 13)) .nil)))) (.cons (.var 9) .nil))) .nil)
theorem lay_one {d : Nat} (hd : 2 ≤ d) {M M' : Store} {p c : Nat} (hh : Hand M p c) {n t : Int} {v4 v5 v6 v7 v8 : Option PV} {hs : List Int} (h8 : hs.length ≤ 8) (h9 : ∀ h ∈ hs, 1 ≤ h ∧ h ≤ 9) {B : List (List Int)} {i : Nat} (g : Bags p c M M' hs B i) (hi : (i : Int) < hs.sum) {z : Int} (z0 : 0 ≤ z) (z1 : z ≤ 99) :
    ∃ B' M2, denSs (Pg.wld d) layB (CE p n t hs v4 v5 v6 v7 v8 (some (.int z)) (some (.loc (M.length + hs.length)))) M' = .nx (CE p n t hs v4 v5 v6 v7 v8 (some (.int z)) (some (.loc (M.length + hs.length)))) M2 ∧ Bags p c M M2 hs B' (i + 1) ∧ ∀ q, M.length + hs.length < q → q < M'.length → M2[q]? = M'[q]? := by
  have hpl := hh.lt
  have hcl := hh.cl
  have hh' := g.ext.hand
  let room : Nat → Bool := fun k => decide (((B.getD k []).length : Int) < hs.getD k 0)
  have e1 : denE (Pg.wld d) (.lc [11, 13, 14] (.tup (.cons (.nm 13) (.cons (.nm 14) .nil))) (.enm (.var 10)) (.cmp .lt (.bi .len (.cons (.var 14) .nil)) (.ix (.var 3) (.var 13))) (.var 13)) (CE p n t hs v4 v5 v6 v7 v8 (some (.int z)) (some (.loc (M.length + hs.length)))) M'
      = .ok (.loc M'.length) (M' ++ [.lst (((List.range hs.length).filter room).map fun (k : Nat) => .int (k : Int))]) := by
    rw [lc_pure (k := (enmL 0 (lcs M.length hs.length), [(M.length + hs.length, lcs M.length hs.length)])) (p := fun v => room (fstI v)) (f := fun v => .int (fstI v : Nat)) ?_ (still_lst g.hd) (by rw [enmL_len, lcs_len]; unfold cap; omega) fun x hx => ?_]
    · have e : ((enmL 0 (lcs M.length hs.length)).filter fun v => room (fstI v)).map (fun v => PV.int (fstI v : Nat)) = ((List.range hs.length).filter room).map fun (k : Nat) => .int (k : Int) := by
        have e0 := enm_fst0 (lcs M.length hs.length)
        rw [lcs_len] at e0
        rw [← e0, List.filter_map, List.map_map]; rfl
      show gc M' (.ok (.loc M'.length) (M' ++ [.lst (((enmL 0 (lcs M.length hs.length)).filter fun v => room (fstI v)).map (fun v => PV.int (fstI v : Nat)))])) = _
      rw [e, gc_lst]
    · rw [denIt, show denE (Pg.wld d) (.var 10) (CE p n t hs v4 v5 v6 v7 v8 (some (.int z)) (some (.loc (M.length + hs.length)))) M' = .ok (.loc (M.length + hs.length)) M' from rfl, Out.bind, seqW_lst g.hd]; rfl
    · obtain ⟨k, hk⟩ := List.mem_iff_getElem?.mp hx
      rw [enmL_at] at hk
      by_cases hk2 : k < hs.length
      · rw [lcs_at hk2] at hk
        cases hk
        have q1 : B[k]? = some (B[k]'(by rw [g.len]; exact hk2)) := List.getElem?_eq_getElem _
        have q2 : hs[k]? = some hs[k] := List.getElem?_eq_getElem _
        have q2' : hs[0 + k]? = some hs[k] := by rw [Nat.zero_add]; exact q2
        refine ⟨[some (.loc p), some (.int n), some (.int t), some (iv hs), v4, v5, v6, v7, v8, some (.int z), some (.loc (M.length + hs.length)), none, none, some (.int ((0 + k : Nat) : Int)), some (.loc (M.length + k))], rfl, ?_, fun _ => ?_⟩
        · refine (e_lt (e_bi (es_cons (u := .loc (M.length + k)) rfl es_nil) (biv_lenL (g.bag k _ q1))) (e_ix (u := iv hs) rfl rfl (ix_iv q2'))).trans ?_
          rw [List.length_map]
          congr 2
          show _ = room (((0 + k : Nat) : Int).toNat)
          rw [Int.toNat_natCast, Nat.zero_add]
          show _ = decide (((B.getD k []).length : Int) < hs.getD k 0)
          rw [getD_at q1, getD_at q2]
        · show Out.ok (PV.int ((0 + k : Nat) : Int)) M' = Out.ok (PV.int ((((0 + k : Nat) : Int).toNat : Nat) : Int)) M'
          rw [Int.toNat_natCast]
      · rw [List.getElem?_eq_none (by rw [lcs_len]; omega)] at hk
        cases hk
  have hne : ((List.range hs.length).filter room).map (fun (k : Nat) => PV.int (k : Int)) ≠ [] := by
    intro e
    rw [List.map_eq_nil_iff, List.filter_eq_nil_iff] at e
    have := full_sum hs B g.len fun k b h q1 q2 => by
      have hk : k < hs.length := (List.getElem?_eq_some_iff.mp q2).1
      have := e k (List.mem_range.mpr hk)
      rw [decide_eq_true_eq, getD_at q1, getD_at q2] at this
      omega
    rw [g.sum] at this
    omega
  have x1 : Ext p c M' (M' ++ [.lst (((List.range hs.length).filter room).map fun (k : Nat) => .int (k : Int))]) := (Ext.refl hh').app _
  obtain ⟨v, ob, hv, hH, e2⟩ := sp_anyL d hd x1.hand (q := M'.length) at_new (by have := hh'.lt; omega) hne (by rw [List.length_map]; have := List.length_filter_le room (List.range hs.length); rw [List.length_range] at this; omega)
  obtain ⟨k, hk, rfl⟩ := List.mem_map.mp hv
  obtain ⟨hk, hroom⟩ := List.mem_filter.mp hk
  have hk := List.mem_range.mp hk
  have q1 : B[k]? = some (B[k]'(by rw [g.len]; exact hk)) := List.getElem?_eq_getElem _
  have q2 : hs[k]? = some hs[k] := List.getElem?_eq_getElem _
  have hroom : decide (((B.getD k []).length : Int) < hs.getD k 0) = true := hroom
  rw [decide_eq_true_eq, getD_at q1, getD_at q2] at hroom
  obtain ⟨M2, g2, x2⟩ := gc_ext (x1.trans (.set hH)) hh' (v := .int (k : Int)) rfl
  have e3 := (e_callG (w := Pg.wld d) (f := "_law_any") (es_consG (a := .var 0) (u := .loc p) rfl (es_consG e1 es_nil)) e2).trans g2
  have hd2 := x2.at g.hd (by omega)
  have bag2 : ∀ (k : Nat) b, B[k]? = some b → M2[M.length + k]? = some (lo b) := fun k b h => x2.at (g.bag k b h) (by omega)
  have e4 := e_ixG (a := .var 10) (u := .loc (M.length + hs.length)) rfl e3 (ix_lst hd2 (lcs_at hk))
  have hb9 := (h9 _ (List.mem_of_getElem? q2)).2
  have m := mt_append (v := .int z) (bag2 k _ q1) (by rw [List.length_map]; unfold cap; omega)
  have el : PO.lst ((B[k]'(by rw [g.len]; exact hk)).map PV.int ++ [.int z]) = lo ((B[k]'(by rw [g.len]; exact hk)) ++ [z]) := by
    unfold lo
    rw [List.map_append]; rfl
  rw [el] at m
  generalize B[k]'(by rw [g.len]; exact hk) = b at q1 hroom m
  obtain ⟨M3, g3, l3, k3⟩ := gc_val (M := M') (M' := M2.set (M.length + k) (lo (b ++ [z]))) (v := .non) (by rw [List.length_set]; exact x2.len) rfl
  have hlt := g.lt
  have le := g.ext.len
  have at3 : ∀ j, j < M'.length → j ≠ M.length + k → j ≠ p → M3[j]? = M'[j]? := fun j h1 h2 h3 => by
    rw [k3 j h1, List.getElem?_set_ne (Ne.symm h2), x2.same j h1 h3]
  have at3k : M3[M.length + k]? = some (lo (b ++ [z])) := by
    rw [k3 _ (by omega), List.getElem?_set_self (Rel.lt (bag2 k b q1))]
  have hand3 : Hand M3 p c := by
    have h2 : Hand (M2.set (M.length + k) (lo (b ++ [z]))) p c := x2.hand.set_other (by omega) (by omega)
    obtain ⟨a, b, s, n, cs, e1, e2, r⟩ := h2.ex
    exact ⟨a, b, s, n, cs, (k3 _ (by omega)).trans e1, (k3 _ (by omega)).trans e2, r⟩
  have t1 : denE (Pg.wld d) (.mt .append (.ix (.var 10) (.call "_law_any" (.cons (.var 0) (.cons (.lc [11, 13, 14] (.tup (.cons (.nm 13) (.cons (.nm 14) .nil))) (.enm (.var 10)) (.cmp .lt (.bi .len (.cons (.var 14) .nil)) (.ix (.var 3) (.var 13))) (.var 13)) .nil)))) (.cons (.var 9) .nil)) (CE p n t hs v4 v5 v6 v7 v8 (some (.int z)) (some (.loc (M.length + hs.length)))) M' = .ok .non M3 := by
    rw [denE, e4, Out.bind, if_pos (mtOk_lst (bag2 k b q1)).1]
    show gc M' (mtV .append (.loc (M.length + k)) [.int z] M2) = _
    rw [m, g3]
  refine ⟨B.set k (b ++ [z]), M3, ss_cons (s_expr t1), ⟨⟨by omega, fun j h1 h2 => (at3 j (by omega) (by omega) h2).trans (g.ext.same j h1 h2), hand3⟩, by rw [List.length_set]; exact g.len, by omega, (at3 _ (by omega) (by omega) (by omega)).trans g.hd, fun j b' hj => ?_, fun j b' h hj q3 => ?_, fun b' hb t ht => ?_, by rw [sum_set B k b z q1, g.sum]⟩, fun q h1 h2 => at3 q h2 (by omega) (by omega)⟩
  · by_cases e : j = k
    · subst e
      rw [List.getElem?_set_self (List.getElem?_eq_some_iff.mp q1).1] at hj
      cases hj
      exact at3k
    · rw [List.getElem?_set_ne (Ne.symm e)] at hj
      have := Rel.lt (g.bag j b' hj)
      exact (at3 _ this (by omega) (by omega)).trans (g.bag j b' hj)
  · by_cases e : j = k
    · subst e
      rw [List.getElem?_set_self (List.getElem?_eq_some_iff.mp q1).1] at hj
      cases hj
      rw [q2] at q3
      cases q3
      rw [List.length_append, List.length_singleton]; omega
    · rw [List.getElem?_set_ne (Ne.symm e)] at hj
      exact g.fit j b' h hj q3
  · rcases List.mem_or_eq_of_mem_set hb with h | h
    · exact g.th b' h t ht
    · subst h
      rcases List.mem_append.mp ht with h | h
      · exact g.th b (List.mem_of_getElem? q1) t h
      · rw [List.mem_singleton.mp h]; exact ⟨z0, z1⟩

end Lawk05

namespace Lawk05
open PySem Mini
theorem fn__law_case : Pg.fn "_law_case" = some c__law_case := by rfl
theorem bags_tuple {d : Nat} {M M' : Store} {p c i : Nat} {n t : Int} {v4 v5 v6 v7 v8 v9 : Option PV} {hs : List Int} (h8 : hs.length ≤ 8) {B : List (List Int)} (g : Bags p c M M' hs B i) :
    denE (Pg.wld d) (.bi .tuple (.cons (.lc [11, 14] (.nm 14) (.seq (.var 10)) (.cst (.bl true)) (.bi .tuple (.cons (.var 14) .nil))) .nil)) (CE p n t hs v4 v5 v6 v7 v8 v9 (some (.loc (M.length + hs.length)))) M' = .ok (sv B) M' := by
  have a : denE (Pg.wld d) (.lc [11, 14] (.nm 14) (.seq (.var 10)) (.cst (.bl true)) (.bi .tuple (.cons (.var 14) .nil))) (CE p n t hs v4 v5 v6 v7 v8 v9 (some (.loc (M.length + hs.length)))) M' = .ok (.loc M'.length) (M' ++ [.lst (B.map iv)]) := by
    rw [lc_map (k := (lcs M.length hs.length, [(M.length + hs.length, lcs M.length hs.length)])) (f := fun v => match v with
        | .loc q => (match M'[q]? with
          | some (.lst xs) => .tup xs
          | _ => .non)
        | _ => .non) ?_ (still_lst g.hd) (by rw [lcs_len]; unfold cap; omega) fun x hx => ?_]
    · rw [gc_lst]
      congr 3
      refine congrArg PO.lst ?_
      refine List.ext_getElem? fun k => ?_
      rw [List.getElem?_map, List.getElem?_map]
      have hl := g.len
      by_cases hk : k < hs.length
      · rw [lcs_at hk, List.getElem?_eq_getElem (by omega)]
        show some _ = some _
        dsimp only
        rw [g.bag k _ (List.getElem?_eq_getElem (by omega))]
        rfl
      · rw [List.getElem?_eq_none (by rw [lcs_len]; omega), List.getElem?_eq_none (by omega)]; rfl
    · rw [denIt, show denE (Pg.wld d) (.var 10) (CE p n t hs v4 v5 v6 v7 v8 v9 (some (.loc (M.length + hs.length)))) M' = .ok (.loc (M.length + hs.length)) M' from rfl, Out.bind, seqW_lst g.hd]; rfl
    · obtain ⟨k, hk⟩ := List.mem_iff_getElem?.mp hx
      have hk' := (List.getElem?_eq_some_iff.mp hk).1
      rw [lcs_len] at hk'
      rw [lcs_at hk'] at hk
      cases hk
      refine ⟨[some (.loc p), some (.int n), some (.int t), some (iv hs), v4, v5, v6, v7, v8, v9, some (.loc (M.length + hs.length)), none, none, none, some (.loc (M.length + k))], rfl, ?_⟩
      have q := g.bag k _ (List.getElem?_eq_getElem (by rw [g.len]; exact hk'))
      refine e_bi (es_cons (u := .loc (M.length + k)) rfl es_nil) ?_
      dsimp only
      rw [q]
      unfold biV
      dsimp only
      rw [seqL_lst q]
      rfl
  unfold denE
  rw [denEs, a]
  show gc M' (biV .tuple [.loc M'.length] (M' ++ [.lst (B.map iv)])) = _
  unfold biV
  dsimp only
  rw [seqL_new]
  exact gc_drop (under_sv B)
theorem sp_case (d : Nat) (hd : 4 ≤ d) {M : Store} {p c : Nat} (hh : Hand M p c) {n t : Int} (n0 : 0 < n) (n8 : n ≤ 8) (t0 : 0 < t) (t9 : t ≤ 9) :
    ∃ hs st q M', Pg.call d "_law_case" [.loc p, .int n, .int t] M = .ok (.loc q) M' ∧ M'[q]? = some (.lst [iv hs, sv st]) ∧ Fits hs st ∧ M.length ≤ q ∧ Ext p c M M' := by
  obtain ⟨d, rfl⟩ : ∃ n, d = n + 1 := ⟨d - 1, by omega⟩
  rw [callS fn__law_case rfl]
  have s0 : startE c__law_case [PV.loc p, .int n, .int t] = [some (.loc p), some (.int n), some (.int t), none, none, none, none, none, none, none, none, none, none, none, none] := rfl
  rw [s0]
  obtain ⟨hs, M1, e1, hne, h8, h9, x1⟩ := case_heights (d := d) (by omega) hh n0 n8 t0 t9
  have t1 : denS (Pg.wld d) (.asg (.nm 3) hgE) [some (.loc p), some (.int n), some (.int t), none, none, none, none, none, none, none, none, none, none, none, none] M = .nx (CE p n t hs none none none none none none none) M1 := s_asg e1 (by show 3 < 15; decide)
  obtain ⟨m, hm, e2⟩ := e_maxI (w := Pg.wld d) (a := .var 3) (σ := CE p n t hs none none none none none none none) (M := M1) hne rfl
  have t2 : denS (Pg.wld d) (.par [4, 5] (.cons (.bi .sum (.cons (.var 3) .nil)) (.cons (.bi .max (.cons (.var 3) .nil)) .nil))) (CE p n t hs none none none none none none none) M1 = .nx (CE p n t hs (some (.int hs.sum)) (some (.int m)) none none none none none) M1 := by
    unfold denS
    rw [es_cons (e_sumI rfl) (es_cons e2 es_nil)]; rfl
  have hsum := sum_bound hs 9 h9
  have hm1 := (h9 m hm).1
  have hl1 : (hs.length : Int) * 9 ≤ 72 := by omega
  obtain ⟨fr, M2, e3, f0, f1, x2⟩ := case_free (d := d) (by omega) x1.hand (n := n) (t := t) (hs := hs) (total := hs.sum) (high := m) (by omega) (by omega) hm1
  have t3 : denS (Pg.wld d) (.asg (.nm 6) frE) _ M1 = .nx (CE p n t hs (some (.int hs.sum)) (some (.int m)) (some (.int fr)) none none none none) M2 := s_asg e3 (by show 6 < 15; decide)
  obtain ⟨base, ob, b0, b1, hH, e4⟩ := e_draw (d := d) (by omega) x2.hand (many := 101 - hs.sum + fr) (by omega) (by omega) (σ := CE p n t hs (some (.int hs.sum)) (some (.int m)) (some (.int fr)) none none none none) (a := .bin .add (.bin .sub (.cst (.int (101))) (.var 4)) (.var 6)) rfl (e_add (e_sub rfl rfl) rfl)
  have x3 := x2.trans (.set hH)
  have t4 : denS (Pg.wld d) (.asg (.nm 7) _) _ M2 = .nx (CE p n t hs (some (.int hs.sum)) (some (.int m)) (some (.int fr)) (some (.int base)) none none none) (M2.set p ob) := s_asg e4 (by show 7 < 15; decide)
  generalize M2.set p ob = M3 at hH x3 t4
  obtain ⟨q4, ts4, M4, e5, th4, l4, ge4, x4⟩ := case_mixed (d := d) (by omega) hH (n := n) (t := t) (hs := hs) (total := hs.sum) (fr := fr) (base := base) (v5 := some (.int m)) (by omega) f0 f1 b0 b1
  have t5 : denS (Pg.wld d) (.asg (.nm 8) mxE) _ M3 = .nx (CE p n t hs (some (.int hs.sum)) (some (.int m)) (some (.int fr)) (some (.int base)) (some (.loc q4)) none none) M4 := s_asg e5 (by show 8 < 15; decide)
  obtain ⟨q5, ts5, M5, t6, th5, l5, ge5, x5⟩ := case_thin (d := d) (by omega) x4.hand (n := n) (t := t) (hs := hs) (v4 := some (.int hs.sum)) (v5 := some (.int m)) (v6 := some (.int fr)) (v7 := some (.int base)) th4 (by omega)
  have ge5' : M3.length ≤ q5 := by
    have := x4.len
    rcases ge5 with e | e <;> omega
  obtain ⟨ts6, M6, t7, th6, l6, x6⟩ := case_twin (d := d) (by omega) hH (x4.trans x5) (n := n) (t := t) (hs := hs) (v4 := some (.int hs.sum)) (v5 := some (.int m)) (v6 := some (.int fr)) (v7 := some (.int base)) th5 ge5' (by omega)
  have e8 : denE (Pg.wld d) (.lc [11, 12] (.nm 12) (.seq (.var 3)) (.cst (.bl true)) (.lst .nil)) (CE p n t hs (some (.int hs.sum)) (some (.int m)) (some (.int fr)) (some (.int base)) (some (.loc q5)) none none) M6 = .ok (.loc (M6.length + hs.length)) (bagS M6 (hs.map fun _ => [])) := by
    rw [lc_alloc (k := (hs.map .int, [])) (ob := fun _ => .lst []) rfl rfl (by rw [List.length_map]; unfold cap; omega) (fun e => hne (List.map_eq_nil_iff.mp e)) fun x hx N => ?_]
    · unfold bagS
      rw [List.length_map, List.length_map, List.map_map, List.map_map]; rfl
    · refine ⟨[some (.loc p), some (.int n), some (.int t), some (iv hs), some (.int hs.sum), some (.int m), some (.int fr), some (.int base), some (.loc q5), none, none, none, some x, none, none], rfl, ?_⟩
      show Out.ok (PV.loc (M6 ++ N).length) (M6 ++ N ++ [.lst []]) = _
      rw [List.length_append, List.append_assoc]
  have t8 : denS (Pg.wld d) (.asg (.nm 10) _) _ M6 = .nx (CE p n t hs (some (.int hs.sum)) (some (.int m)) (some (.int fr)) (some (.int base)) (some (.loc q5)) none (some (.loc (M6.length + hs.length)))) (bagS M6 (hs.map fun _ => [])) := s_asg e8 (by show 10 < 15; decide)
  have g0 : Bags p c M6 (bagS M6 (hs.map fun _ => [])) hs (hs.map fun _ => []) 0 := by
    refine ⟨(Ext.refl x6.hand).app _, List.length_map .., by unfold bagS; simp, ?_, fun k b h => bagS_at h, fun k b h q1 q2 => ?_, fun b hb t ht => ?_, ?_⟩
    · have := bagS_hd (M := M6) (B := hs.map fun _ => [])
      rw [List.length_map] at this
      exact this
    · rw [List.getElem?_map, q2] at q1
      cases q1
      have := h9 h (List.mem_of_getElem? q2)
      simp; omega
    · obtain ⟨_, _, rfl⟩ := List.mem_map.mp hb
      cases ht
    · rw [List.map_map]
      have : ∀ l : List Int, (l.map (List.length ∘ fun _ => ([] : List Int))).sum = 0 := fun l => by
        induction l with
        | nil => rfl
        | cons x l ih => rw [List.map_cons, List.sum_cons, ih]; rfl
      exact this hs
  have hq6 : q5 < M6.length := Rel.lt th6.at_
  have lsum : (ts6.length : Int) ≤ hs.sum := by omega
  obtain ⟨σ9, M9, t9, ⟨v9, B, hσ9, g9⟩⟩ := s_for (w := Pg.wld d) (t := .nm 9) (it := .seq (.var 8)) (b := layB) (σ := CE p n t hs (some (.int hs.sum)) (some (.int m)) (some (.int fr)) (some (.int base)) (some (.loc q5)) none (some (.loc (M6.length + hs.length)))) (M := bagS M6 (hs.map fun _ => [])) (k := (ts6.map .int, [(q5, ts6.map .int)]))
    (fun i σ M' => ∃ v9 B, σ = CE p n t hs (some (.int hs.sum)) (some (.int m)) (some (.int fr)) (some (.int base)) (some (.loc q5)) v9 (some (.loc (M6.length + hs.length))) ∧ Bags p c M6 M' hs B i)
    (by
      rw [denIt, show denE (Pg.wld d) (.var 8) (CE p n t hs (some (.int hs.sum)) (some (.int m)) (some (.int fr)) (some (.int base)) (some (.loc q5)) none (some (.loc (M6.length + hs.length)))) (bagS M6 (hs.map fun _ => [])) = .ok (.loc q5) (bagS M6 (hs.map fun _ => [])) from rfl, Out.bind, seqW_lst (g0.ext.at th6.at_ th6.ne)]; rfl) ⟨none, _, rfl, g0⟩ (fun i σ M' hI => by
        obtain ⟨_, B, _, g⟩ := hI
        exact still_lst (g.ext.at th6.at_ th6.ne)) fun i x σ M' hx hI => by
      obtain ⟨v9, B, rfl, g⟩ := hI
      rw [List.getElem?_map] at hx
      obtain ⟨z, hz, e⟩ := Option.map_eq_some_iff.mp hx
      subst e
      have hi := (List.getElem?_eq_some_iff.mp hz).1
      have hz2 := th6.b z (List.mem_of_getElem? hz)
      obtain ⟨B', M2, e, g', _⟩ := lay_one (d := d) (by omega) x6.hand (n := n) (t := t) (v4 := some (.int hs.sum)) (v5 := some (.int m)) (v6 := some (.int fr)) (v7 := some (.int base)) (v8 := some (.loc q5)) h8 h9 g (by omega) hz2.1 hz2.2
      exact ⟨_, M', _, M2, rfl, e, _, B', rfl, g'⟩
  rw [hσ9] at t9
  have t10 : denS (Pg.wld d) (.ret (.lst (.cons (.var 3) (.cons (.bi .tuple (.cons (.lc [11, 14] (.nm 14) (.seq (.var 10)) (.cst (.bl true)) (.bi .tuple (.cons (.var 14) .nil))) .nil)) .nil)))) (CE p n t hs (some (.int hs.sum)) (some (.int m)) (some (.int fr)) (some (.int base)) (some (.loc q5)) v9 (some (.loc (M6.length + hs.length)))) M9 = .rt (.loc M9.length) (M9 ++ [.lst [iv hs, sv B]]) := by
    refine s_ret ?_
    rw [denE, es_cons (u := iv hs) rfl (es_cons (bags_tuple h8 g9) es_nil)]; rfl
  have e : denSs (Pg.wld d) c__law_case.body [some (.loc p), some (.int n), some (.int t), none, none, none, none, none, none, none, none, none, none, none, none] M = _ :=
    (ss_cons t1).trans ((ss_cons t2).trans ((ss_cons t3).trans ((ss_cons t4).trans ((ss_cons t5).trans ((ss_cons t6).trans ((ss_cons t7).trans ((ss_cons t8).trans ((ss_cons t9).trans (ss_rt t10)))))))))
  rw [e]
  have xx := (x1.trans x3).trans (x6.trans g9.ext)
  exact ⟨hs, B, M9.length, _, rfl, at_new, ⟨hne, h8, h9, g9.len, g9.fit, g9.th⟩, xx.len, xx.app _⟩

end Lawk05

namespace Lawk05
open PySem Mini
/-! ### the law -/
theorem fn_law : Pg.fn "law" = some c_law := by rfl
theorem fn__law_hand' : Pg.fn "_law_hand" = some c__law_hand := by rfl
theorem gc_stay {M M' : Store} {q : Nat} {ob : PO} (h : M'[q]? = some ob) (hq : M.length ≤ q) (hu : ¬ PO.under M.length ob = true) : gc M (.ok (.loc q) M') = .ok (.loc q) M' := by
  unfold gc
  dsimp only
  split
  · rfl
  · split
    · have u : ¬ PV.under M.length (.loc q) = true := by
        show ¬ decide (q < M.length) = true
        rw [decide_eq_true_eq]; omega
      rw [if_neg u, h]
      dsimp only
      rw [if_neg hu]
    · rfl
theorem s_ifnotG {w : Wld} {a : E} {p : Ss} {σ : Mini.Env} {M M1 : Store} (h : denE w (.not a) σ M = .ok (.bl false) M1) : denS w (.ife (.not a) p .nil) σ M = .nx σ M1 := (s_if h).trans (if_neg Bool.false_ne_true)
theorem e_notG {w : Wld} {a : E} {σ : Mini.Env} {M M1 : Store} {x : Bool} (h1 : denE w a σ M = .ok (.bl x) M1) : denE w (.not a) σ M = .ok (.bl (!x)) M1 := by
  unfold denE
  rw [h1]; rfl
def rdB : Ss := (.cons (.asg (.tup (.cons (.nm 4) (.cons (.nm 5) .nil))) (.call "_law_case" (.cons (.var 1) (.cons (.var 2) (.cons (.var 3) .nil))))) (.cons (.ife (.not (.call "_law_are_listed" (.cons (.var 1) (.cons (.var 4) (.cons (.var 5) .nil))))) (.cons (.ret (.cst (.bl false))) .nil) .nil) .nil))
theorem law_round {d : Nat} (hd : 9 ≤ d) {M : Store} {p c : Nat} (hh : Hand M p c) {n t : Int} (n0 : 0 < n) (n8 : n ≤ 8) (t0 : 0 < t) (t9 : t ≤ 9) (v0 v4 v5 v6 : Option PV) :
    ∃ v4' v5' M', denSs (Pg.wld d) rdB [v0, some (.loc p), some (.int n), some (.int t), v4, v5, v6] M = .nx [v0, some (.loc p), some (.int n), some (.int t), v4', v5', v6] M' ∧ Ext p c M M' := by
  obtain ⟨hs, st, q, M1, e1, hq, f, ge, x1⟩ := sp_case d (by omega) hh n0 n8 t0 t9
  obtain ⟨q2, M2, g2, hq2, ge2, x2⟩ := gc_extL x1 hh hq ge
  have t1 : denS (Pg.wld d) (.asg (.tup (.cons (.nm 4) (.cons (.nm 5) .nil))) (.call "_law_case" (.cons (.var 1) (.cons (.var 2) (.cons (.var 3) .nil))))) [v0, some (.loc p), some (.int n), some (.int t), v4, v5, v6] M = .nx [v0, some (.loc p), some (.int n), some (.int t), some (iv hs), some (sv st), v6] M2 := by
    refine s_asgT ((e_callG (es_cons rfl (es_cons rfl (es_cons rfl es_nil))) e1).trans g2) ?_
    unfold denT
    dsimp only
    rw [hq2]
    rfl
  obtain ⟨M3, e3, x3⟩ := sp_are_listed d (by omega) f x2.hand
  obtain ⟨M4, g4, x4⟩ := gc_ext x3 x2.hand (v := .bl true) rfl
  have t2 := s_ifnotG (p := .cons (.ret (.cst (.bl false))) .nil) (e_notG ((e_callG (w := Pg.wld d) (σ := [v0, some (.loc p), some (.int n), some (.int t), some (iv hs), some (sv st), v6]) (es := .cons (.var 1) (.cons (.var 4) (.cons (.var 5) .nil))) (es_cons rfl (es_cons rfl (es_cons rfl es_nil))) e3).trans g4))
  exact ⟨_, _, M4, (ss_cons t1).trans (ss_cons t2), x2.trans x4⟩
def rdL : List PV := [.tup [.int 8, .int 9], .tup [.int 3, .int 3], .tup [.int 8, .int 2]]
def fin4 : Mini.S := (.ife (.not (.call "_law_same" (.cons (.call "lifts" (.cons (.var 6) (.cons (.tup (.cons (.tup (.cons (.cst (.int (1))) (.cons (.cst (.int (2))) .nil))) (.cons (.tup (.cons (.cst (.int (3))) .nil)) (.cons (.tup (.cons (.cst (.int (4))) (.cons (.cst (.int (5))) .nil))) .nil)))) .nil))) (.cons (.lst (.cons (.tup (.cons (.cst (.int (0))) (.cons (.cst (.int (1))) .nil))) (.cons (.tup (.cons (.cst (.int (1))) (.cons (.cst (.int (0))) .nil))) (.cons (.tup (.cons (.cst (.int (2))) (.cons (.cst (.int (0))) .nil))) (.cons (.tup (.cons (.cst (.int (2))) (.cons (.cst (.int (1))) .nil))) .nil))))) .nil)))) (.cons (.ret (.cst (.bl false))) .nil) .nil)
theorem fits_of {hs : List Int} {st : List (List Int)} (h : (hs ≠ [] ∧ hs.length ≤ 8 ∧ (∀ h ∈ hs, 1 ≤ h ∧ h ≤ 9) ∧ st.length = hs.length) ∧ (∀ x ∈ st.zip hs, (x.1.length : Int) ≤ x.2) ∧ ∀ b ∈ st, ∀ t ∈ b, (0 : Int) ≤ t ∧ t ≤ 99) : Fits hs st :=
  ⟨h.1.1, h.1.2.1, h.1.2.2.1, h.1.2.2.2, fun k b x q1 q2 => h.2.1 (b, x) (List.mem_of_getElem? (i := k) (by rw [List.getElem?_zip_eq_some]; exact ⟨q1, q2⟩)), h.2.2⟩
theorem f4 : Fits [3, 2, 2] [[1, 2], [3], [4, 5]] := fits_of (by decide)
theorem p4 : prs [3, 2, 2] [[1, 2], [3], [4, 5]] = [.tup [.int 0, .int 1], .tup [.int 1, .int 0], .tup [.int 2, .int 0], .tup [.int 2, .int 1]] := by rfl
theorem f5 : Fits [5] [[1, 2]] := fits_of (by decide)
theorem p5 : prs [5] [[1, 2]] = [] := by rfl
theorem f6 : Fits [3, 2, 2] [[], [], []] := fits_of (by decide)
theorem p6 : prs [3, 2, 2] [[], [], []] = [] := by rfl
theorem f7 : Fits [3, 2, 2] [[7], [], []] := fits_of (by decide)
theorem p7 : prs [3, 2, 2] [[7], [], []] = [.tup [.int 0, .int 1], .tup [.int 0, .int 2]] := by rfl
theorem law_fin4 {d : Nat} (hd : 9 ≤ d) {M : Store} {y : Nat} (hy : M[y]? = some (yardO [3, 2, 2])) (v0 v1 v2 v3 v4 v5 : Option PV) :
    denS (Pg.wld d) fin4 [v0, v1, v2, v3, v4, v5, some (.loc y)] M = .nx [v0, v1, v2, v3, v4, v5, some (.loc y)] M := by
  have e1 := e_lifts (d := d) (by omega) f4 hy (a := .var 6) (b := (.tup (.cons (.tup (.cons (.cst (.int (1))) (.cons (.cst (.int (2))) .nil))) (.cons (.tup (.cons (.cst (.int (3))) .nil)) (.cons (.tup (.cons (.cst (.int (4))) (.cons (.cst (.int (5))) .nil))) .nil))))) (σ := [v0, v1, v2, v3, v4, v5, some (.loc y)]) rfl rfl
  rw [p4] at e1
  refine s_ifnot (e_same (n := 3) (M2 := [PO.lst [.tup [.int 0, .int 1], .tup [.int 1, .int 0], .tup [.int 2, .int 0], .tup [.int 2, .int 1]], PO.lst [.tup [.int 0, .int 1], .tup [.int 1, .int 0], .tup [.int 2, .int 0], .tup [.int 2, .int 1]]]) (y := .loc (M.length + 1)) (by omega) (Sm_list (n := 2) at_new (by simp [List.getElem?_append]) (by unfold cap; decide) (by decide)) e1 ?_)
  show Out.ok (PV.loc (M ++ [_]).length) (M ++ [_] ++ [_]) = _
  rw [List.length_append, List.append_assoc]; rfl
def fin5 : E := (.call "_law_same" (.cons (.lst (.cons (.call "lifts" (.cons (.new "Yard" (.cons (.tup (.cons (.cst (.int (5))) .nil)) .nil)) (.cons (.tup (.cons (.tup (.cons (.cst (.int (1))) (.cons (.cst (.int (2))) .nil))) .nil)) .nil))) (.cons (.call "lifts" (.cons (.var 6) (.cons (.tup (.cons (.tup .nil) (.cons (.tup .nil) (.cons (.tup .nil) .nil)))) .nil))) (.cons (.call "lifts" (.cons (.var 6) (.cons (.tup (.cons (.tup (.cons (.cst (.int (7))) .nil)) (.cons (.tup .nil) (.cons (.tup .nil) .nil)))) .nil))) .nil)))) (.cons (.lst (.cons (.lst .nil) (.cons (.lst .nil) (.cons (.lst (.cons (.tup (.cons (.cst (.int (0))) (.cons (.cst (.int (1))) .nil))) (.cons (.tup (.cons (.cst (.int (0))) (.cons (.cst (.int (2))) .nil))) .nil))) .nil)))) .nil)))
theorem law_fin5 {d : Nat} (hd : 9 ≤ d) {M : Store} {y : Nat} (hy : M[y]? = some (yardO [3, 2, 2])) (v0 v1 v2 v3 v4 v5 : Option PV) :
    denE (Pg.wld d) fin5 [v0, v1, v2, v3, v4, v5, some (.loc y)] M = .ok (.bl true) M := by
  have n5 := e_new (d := d) (by omega) f5.n0 f5.n8 f5.h (a := .tup (.cons (.cst (.int (5))) .nil)) (σ := [v0, v1, v2, v3, v4, v5, some (.loc y)]) (M := M) rfl
  have y5 : (M ++ [yardO [5]])[M.length]? = some (yardO [5]) := at_new
  have s5 := sp_lifts d (by omega) f5 y5
  rw [p5] at s5
  have e1 : denE (Pg.wld d) (.call "lifts" (.cons (.new "Yard" (.cons (.tup (.cons (.cst (.int (5))) .nil)) .nil)) (.cons (.tup (.cons (.tup (.cons (.cst (.int (1))) (.cons (.cst (.int (2))) .nil))) .nil)) .nil))) [v0, v1, v2, v3, v4, v5, some (.loc y)] M = .ok (.loc M.length) (M ++ [.lst []]) := by
    rw [e_callG (es_consG n5 (es_consG (u := sv [[1, 2]]) rfl es_nil)) s5, List.append_assoc]
    exact gc_at (by rw [List.length_append]; omega) (by simp [List.getElem?_append]) rfl
  have hy1 : (M ++ [PO.lst []])[y]? = some (yardO [3, 2, 2]) := by rw [List.getElem?_append_left (Rel.lt hy)]; exact hy
  have e2 := e_lifts (d := d) (by omega) f6 hy1 (a := .var 6) (b := (.tup (.cons (.tup .nil) (.cons (.tup .nil) (.cons (.tup .nil) .nil))))) (σ := [v0, v1, v2, v3, v4, v5, some (.loc y)]) rfl rfl
  rw [p6] at e2
  have hy2 : (M ++ [PO.lst []] ++ [PO.lst []])[y]? = some (yardO [3, 2, 2]) := by rw [List.getElem?_append_left (Rel.lt hy1)]; exact hy1
  have e3 := e_lifts (d := d) (by omega) f7 hy2 (a := .var 6) (b := (.tup (.cons (.tup (.cons (.cst (.int (7))) .nil)) (.cons (.tup .nil) (.cons (.tup .nil) .nil))))) (σ := [v0, v1, v2, v3, v4, v5, some (.loc y)]) rfl rfl
  rw [p7] at e3
  have l1 := es_consG e1 (es_consG e2 (es_consG e3 es_nil))
  have a1 : denE (Pg.wld d) (.lst (.cons (.call "lifts" (.cons (.new "Yard" (.cons (.tup (.cons (.cst (.int (5))) .nil)) .nil)) (.cons (.tup (.cons (.tup (.cons (.cst (.int (1))) (.cons (.cst (.int (2))) .nil))) .nil)) .nil))) (.cons (.call "lifts" (.cons (.var 6) (.cons (.tup (.cons (.tup .nil) (.cons (.tup .nil) (.cons (.tup .nil) .nil)))) .nil))) (.cons (.call "lifts" (.cons (.var 6) (.cons (.tup (.cons (.tup (.cons (.cst (.int (7))) .nil)) (.cons (.tup .nil) (.cons (.tup .nil) .nil)))) .nil))) .nil)))) [v0, v1, v2, v3, v4, v5, some (.loc y)] M = .ok (.loc (M.length + 3)) (M ++ [.lst [], .lst [], .lst [.tup [.int 0, .int 1], .tup [.int 0, .int 2]], .lst [.loc M.length, .loc (M.length + 1), .loc (M.length + 2)]]) := by
    rw [denE, l1]
    simp [Out.bind]
  have a2 : denE (Pg.wld d) (.lst (.cons (.lst .nil) (.cons (.lst .nil) (.cons (.lst (.cons (.tup (.cons (.cst (.int (0))) (.cons (.cst (.int (1))) .nil))) (.cons (.tup (.cons (.cst (.int (0))) (.cons (.cst (.int (2))) .nil))) .nil))) .nil)))) [v0, v1, v2, v3, v4, v5, some (.loc y)] (M ++ [.lst [], .lst [], .lst [.tup [.int 0, .int 1], .tup [.int 0, .int 2]], .lst [.loc M.length, .loc (M.length + 1), .loc (M.length + 2)]])
      = .ok (.loc (M.length + 7)) (M ++ [.lst [], .lst [], .lst [.tup [.int 0, .int 1], .tup [.int 0, .int 2]], .lst [.loc M.length, .loc (M.length + 1), .loc (M.length + 2)], .lst [], .lst [], .lst [.tup [.int 0, .int 1], .tup [.int 0, .int 2]], .lst [.loc (M.length + 4), .loc (M.length + 5), .loc (M.length + 6)]]) := by
    simp [denE, denEs, Out.bind]
  refine e_same (n := 4) (by omega) ?_ a1 a2
  have at_ : ∀ (k : Nat) (N : Store), (M ++ N)[M.length + k]? = N[k]? := fun k N => by rw [List.getElem?_append_right (by omega), Nat.add_sub_cancel_left]
  refine ⟨_, [.loc M.length, .loc (M.length + 1), .loc (M.length + 2)], [.loc (M.length + 4), .loc (M.length + 5), .loc (M.length + 6)], rfl, by rw [at_]; rfl, by rw [at_]; rfl, rfl, by show 3 ≤ cap; unfold cap; decide, fun i a b h1 h2 => ?_⟩
  match i with
  | 0 => cases h1; cases h2; exact Sm_list (n := 2) (xs := []) (by rw [show M.length = M.length + 0 from rfl, at_]; rfl) (by rw [at_]; rfl) (by unfold cap; decide) (fun x hx => by cases hx)
  | 1 => cases h1; cases h2; exact Sm_list (n := 2) (xs := []) (by rw [at_]; rfl) (by rw [at_]; rfl) (by unfold cap; decide) (fun x hx => by cases hx)
  | 2 => cases h1; cases h2; exact Sm_list (n := 2) (xs := [.tup [.int 0, .int 1], .tup [.int 0, .int 2]]) (by rw [at_]; rfl) (by rw [at_]; rfl) (by unfold cap; decide) (by decide)
  | i + 3 => cases h1
theorem main : ∀ ns : List Int, ns.length ≤ 63 → ∃ M, Pg.call 100 "law" [.loc 0] [.frz (ns.map PV.int)] = .ok (.bl true) M := by
  intro ns hn
  rw [show (100 : Nat) = 99 + 1 from rfl, callS fn_law rfl]
  have s0 : startE c_law [PV.loc 0] = [some (.loc 0), none, none, none, none, none, none] := rfl
  rw [s0]
  obtain ⟨M1, e1, hh, hl⟩ := sp_hand 99 (by omega) ns hn
  have g1 : gc [PO.frz (ns.map PV.int)] (.ok (.loc 2) M1) = .ok (.loc 2) M1 := by
    obtain ⟨a, b, s, n, cs, h2, _⟩ := hh.ex
    refine gc_stay h2 (by show 1 ≤ 2; decide) (fun h => Bool.false_ne_true h)
  have t1 : denS (Pg.wld 99) (.asg (.nm 1) (.call "_law_hand" (.cons (.var 0) .nil))) [some (.loc 0), none, none, none, none, none, none] [.frz (ns.map PV.int)] = .nx [some (.loc 0), some (.loc 2), none, none, none, none, none] M1 :=
    s_asg ((e_callG (es_cons rfl es_nil) e1).trans g1) (by show 1 < 7; decide)
  have hx1 : Ext 2 1 M1 (M1 ++ [.lst rdL]) := (Ext.refl hh).app _
  obtain ⟨σ2, M2, t2, ⟨v2, v3, v4, v5, hσ2, x2⟩⟩ := s_for (w := Pg.wld 99) (t := .tup (.cons (.nm 2) (.cons (.nm 3) .nil))) (it := (.seq (.lst (.cons (.tup (.cons (.cst (.int (8))) (.cons (.cst (.int (9))) .nil))) (.cons (.tup (.cons (.cst (.int (3))) (.cons (.cst (.int (3))) .nil))) (.cons (.tup (.cons (.cst (.int (8))) (.cons (.cst (.int (2))) .nil))) .nil)))))) (b := rdB) (σ := [some (.loc 0), some (.loc 2), none, none, none, none, none]) (M := M1) (M1 := M1 ++ [.lst rdL]) (k := (rdL, [(M1.length, rdL)]))
    (fun i σ M' => ∃ v2 v3 v4 v5, σ = [some (.loc 0), some (.loc 2), v2, v3, v4, v5, none] ∧ Ext 2 1 (M1 ++ [.lst rdL]) M')
    (by
      show opt (M1 ++ [.lst rdL]) (seqW (.loc M1.length) (M1 ++ [.lst rdL])) = _
      rw [seqW_lst at_new]; rfl) ⟨none, none, none, none, rfl, .refl hx1.hand⟩ (fun i σ M' hI => by
        obtain ⟨_, _, _, _, _, x⟩ := hI
        exact still_lst (x.at at_new (by omega))) fun i x σ M' hx hI => by
      obtain ⟨v2, v3, v4, v5, rfl, x'⟩ := hI
      have hab : ∃ a b : Int, x = .tup [.int a, .int b] ∧ 0 < a ∧ a ≤ 8 ∧ 0 < b ∧ b ≤ 9 := by
        have := List.mem_of_getElem? hx
        unfold rdL at this
        simp only [List.mem_cons, List.not_mem_nil, or_false] at this
        rcases this with e | e | e <;> exact ⟨_, _, e, by decide, by decide, by decide, by decide⟩
      obtain ⟨a, b, rfl, a0, a8, b0, b9⟩ := hab
      obtain ⟨v4', v5', M3, e, x3⟩ := law_round (d := 99) (by omega) x'.hand a0 a8 b0 b9 (some (.loc 0)) v4 v5 none
      exact ⟨_, M', _, M3, rfl, e, _, _, _, _, rfl, x'.trans x3⟩
  rw [hσ2] at t2
  have n3 := e_new (d := 99) (by omega) f4.n0 f4.n8 f4.h (a := (.tup (.cons (.cst (.int (3))) (.cons (.cst (.int (2))) (.cons (.cst (.int (2))) .nil))))) (σ := [some (.loc 0), some (.loc 2), v2, v3, v4, v5, none]) (M := M2) rfl
  have t3 : denS (Pg.wld 99) (.asg (.nm 6) (.new "Yard" (.cons (.tup (.cons (.cst (.int (3))) (.cons (.cst (.int (2))) (.cons (.cst (.int (2))) .nil)))) .nil))) [some (.loc 0), some (.loc 2), v2, v3, v4, v5, none] M2 = .nx [some (.loc 0), some (.loc 2), v2, v3, v4, v5, some (.loc M2.length)] (M2 ++ [yardO [3, 2, 2]]) := s_asg n3 (by show 6 < 7; decide)
  have hy : (M2 ++ [yardO [3, 2, 2]])[M2.length]? = some (yardO [3, 2, 2]) := at_new
  have t4 := law_fin4 (d := 99) (by omega) hy (some (.loc 0)) (some (.loc 2)) v2 v3 v4 v5
  have t5 := s_ret (law_fin5 (d := 99) (by omega) hy (some (.loc 0)) (some (.loc 2)) v2 v3 v4 v5)
  have e : denSs (Pg.wld 99) c_law.body [some (.loc 0), none, none, none, none, none, none] [.frz (ns.map PV.int)] = _ :=
    (ss_cons t1).trans ((ss_cons t2).trans ((ss_cons t3).trans ((ss_cons t4).trans (ss_rt t5))))
  rw [e]
  exact ⟨_, rfl⟩

end Lawk05


open PySem PySem.W PySem.Calls PyProof.Rows
theorem PySem.Challenge.cw_littleroom_k05_whole_lifts_listed_holds : PySem.Challenge.rw_littleroom_k05_whole_lifts_listed.Holds := by
  w_on; o_law
  refine HandSHeadRun.head_any (r := OpenLaw.row PySem.Challenge.rw_littleroom_k05_whole_lifts_listed) (q := view (OpenLaw.row PySem.Challenge.rw_littleroom_k05_whole_lifts_listed).prog [36]) (H := Lawk05.hk) (ob := Lawk05.ob) (M := 4000) (loose := Lawk05.loose) (d := HandSHeadRun.topDef (OpenLaw.row PySem.Challenge.rw_littleroom_k05_whole_lifts_listed).prog 36) (kwd := []) Lawk05.ob_eq
    (by kernel_rfl) (fun s => by kernel_rfl) Lawk05.run (by kernel_rfl) (by kernel_rfl) (by kernel_rfl) (by rfl) (by first | assumption | decide +kernel) (by decide +kernel) ⟨rfl, rfl, rfl, rfl, rfl, by decide +kernel⟩ ?hw ?hc
  case hw => w_witness2
  case hc =>
    exact Mini.walk_mini (l := PySem.Challenge.rw_littleroom_k05_whole_lifts_listed) (n := 63) (D := 100) (x := "script") (S := Lawk05.S) (ds := Lawk05.ds) (Pg := Lawk05.Pg) (fuel := 200) (m := Lawk05.dLaw) rfl (by decide) (by kernel_rfl) (by decide) Lawk05.so (List.mem_of_getElem? (i := 24) rfl) rfl rfl (by decide +kernel) rfl (by kernel_rfl)
      (fun _ _ h => h) Lawk05.main

