import PyProof.Rows.All
import Wide.All
import OpenK.AllK
import Wide.FinOn
import HandS.ForMost
import HandS.Exc
import HandS.WordsExc
import HandS.TupAny
import HandS.TupMul
import HandS.Deep
import HandS.IsInst
import HandS.Conv
import HandS.Zip
import HandS.TryMany
import HandS.TryOnly
import HandS.ExcInit
import HandS.ExcOwn
import HandS.Flow
import HandS.ExcField
import HandS.ExcIs
import HandS.CallSlots
import HandS.TupLe
import HandS.More
import HandS.Small
import HandS.SortInts
import HandS.ListItems
import HandS.Dict
import HandS.Star
import HandS.Style
import KE.GoesMore
import HandS.EndBits
import PySem.Challenge.RW_puzzlebench_k55_speakers
set_option Elab.async false
set_option linter.all false
set_option maxRecDepth 100000
set_option maxHeartbeats 2000000
/-! Vm 1: data, store, IR, its run. -/
namespace Vm
open PySem

/-- data: tuples and lists are plain trees; ref n: the n-th box of the store (a mutable list or dict); scr: the script -/
inductive D where
  | non | bl (b : Bool) | int (i : Int) | str (x : Str)
  | tup (ds : List D) | lst (ds : List D) | dct (ks vs : List D)
  | ref (n : Nat) | scr (ns : List Int) | fn (g : Nat)
  deriving Inhabited

abbrev Store := List D
abbrev Fr := List (Option D)

inductive Rs (α : Type) where
  | ok (a : α) (S : Store)
  | ex (c : Nat) (fs : List D) (S : Store)
abbrev M (α : Type) := Store → Option (Rs α)

@[simp] def M.ret {α : Type} (a : α) : M α := fun S => some (.ok a S)
@[simp] def M.stuck {α : Type} : M α := fun _ => none
def bnd {α β : Type} (x : Option (Rs α)) (f : α → M β) : Option (Rs β) :=
  match x with
  | none => none
  | some (.ok a S) => f a S
  | some (.ex c fs S) => some (.ex c fs S)
@[simp] theorem bnd_ok {α β : Type} (a : α) (S : Store) (f : α → M β) : bnd (some (.ok a S)) f = f a S := rfl
@[simp] theorem bnd_ex {α β : Type} (c : Nat) (fs : List D) (S : Store) (f : α → M β) : bnd (some (.ex c fs S)) f = some (.ex c fs S) := rfl
@[simp] theorem bnd_none {α β : Type} (f : α → M β) : bnd none f = none := rfl
def M.bind {α β : Type} (x : M α) (f : α → M β) : M β := fun S => bnd (x S) f
@[simp] theorem M.bind_ap {α β : Type} (x : M α) (f : α → M β) (S : Store) : M.bind x f S = bnd (x S) f := rfl
/-- an answer that may be missing -/
def lift {α : Type} (o : Option α) : M α := fun S => o.map fun a => .ok a S
@[simp] theorem lift_some {α : Type} (a : α) (S : Store) : lift (some a) S = some (.ok a S) := rfl
@[simp] theorem lift_none {α : Type} (S : Store) : lift (none : Option α) S = none := rfl

/-! ### equality of data -/
mutual
def same : D → D → Bool
  | .non, .non => true
  | .bl a, .bl b => a == b
  | .int i, .int j => i == j
  | .str x, .str y => x == y
  | .tup xs, .tup ys => sames xs ys
  | .lst xs, .lst ys => sames xs ys
  | .dct ks vs, .dct ks' vs' => sames ks ks' && sames vs vs'
  | .ref n, .ref k => n == k
  | .scr ns, .scr ms => ns == ms
  | .fn g, .fn g' => g == g'
  | _, _ => false
def sames : List D → List D → Bool
  | [], [] => true
  | x :: xs, y :: ys => same x y && sames xs ys
  | _, _ => false
end
mutual
theorem same_eq : ∀ (a b : D), same a b = true → a = b
  | .non, b, h => by cases b <;> simp_all [same]
  | .bl _, b, h => by cases b <;> simp_all [same]
  | .int _, b, h => by cases b <;> simp_all [same]
  | .str _, b, h => by cases b <;> simp_all [same]
  | .tup xs, b, h => by
    cases b <;> simp_all [same]
    exact sames_eq _ _ h
  | .lst xs, b, h => by
    cases b <;> simp_all [same]
    exact sames_eq _ _ h
  | .dct ks vs, b, h => by
    cases b <;> simp_all [same]
    exact ⟨sames_eq _ _ h.1, sames_eq _ _ h.2⟩
  | .ref _, b, h => by cases b <;> simp_all [same]
  | .scr _, b, h => by cases b <;> simp_all [same]
  | .fn _, b, h => by cases b <;> simp_all [same]
theorem sames_eq : ∀ (a b : List D), sames a b = true → a = b
  | [], b, h => by cases b <;> simp_all [sames]
  | x :: xs, b, h => by
    cases b <;> simp_all [sames]
    exact ⟨same_eq _ _ h.1, sames_eq _ _ h.2⟩
end
mutual
theorem same_refl : ∀ (a : D), same a a = true
  | .non => rfl
  | .bl _ => by simp [same]
  | .int _ => by simp [same]
  | .str _ => by simp [same]
  | .tup xs => by rw [same]; exact sames_refl xs
  | .lst xs => by rw [same]; exact sames_refl xs
  | .dct ks vs => by rw [same, sames_refl ks, sames_refl vs]; rfl
  | .ref _ => by simp [same]
  | .scr _ => by simp [same]
  | .fn _ => by simp [same]
theorem sames_refl : ∀ (a : List D), sames a a = true
  | [] => rfl
  | x :: xs => by rw [sames, same_refl x, sames_refl xs]; rfl
end
instance : DecidableEq D := fun a b => decidable_of_iff (same a b = true) ⟨same_eq a b, fun e => e ▸ same_refl a⟩

/-! ### refs -/
mutual
def refsLt (m : Nat) : D → Bool
  | .tup ds => refsLts m ds
  | .lst ds => refsLts m ds
  | .dct ks vs => refsLts m ks && refsLts m vs
  | .ref n => decide (n < m)
  | _ => true
def refsLts (m : Nat) : List D → Bool
  | [] => true
  | d :: ds => refsLt m d && refsLts m ds
end
mutual
def unbW (f : Nat → Option D) : D → Option D
  | .tup ds => (unbWs f ds).map .tup
  | .lst ds => (unbWs f ds).map .lst
  | .dct ks vs => (unbWs f ks).bind fun a => (unbWs f vs).map fun b => .dct a b
  | .ref n => f n
  | d => some d
def unbWs (f : Nat → Option D) : List D → Option (List D)
  | [] => some []
  | d :: ds => (unbW f d).bind fun a => (unbWs f ds).map fun b => a :: b
end
/-- boxes from m on become plain data -/
def unb (S : Store) (m : Nat) : Nat → D → Option D
  | 0 => unbW fun n => if n < m then some (.ref n) else none
  | k + 1 => unbW fun n => if n < m then some (.ref n) else (S[n]?).bind (unb S m k)
def unbF : Nat := 12
/-- what is left when a call comes back: m boxes; the answer as plain data, or (bx) as the one box kept, or, with boxes in boxes, all -/
def gcOut (m : Nat) (bx : Bool) : Option (Rs D) → Option (Rs D)
  | none => none
  | some (.ok d S) =>
    if bx then match d with
      | .ref n => if n < m then some (.ok (.ref n) (S.take m)) else match S[n]? with
        | some e => if refsLt m e then some (.ok (.ref m) (S.take m ++ [e])) else some (.ok (.ref n) S)
        | none => none
      | d => if refsLt m d then some (.ok d (S.take m)) else some (.ok d S)
    else (unb S m unbF d).map fun e => .ok e (S.take m)
  | some (.ex c fs S) => (unbWs (fun n => unb S m unbF (.ref n)) fs).map fun e => .ex c e (S.take m)

/-! ### reading -/
/-- the items of a list -/
def lstOf (S : Store) : D → Option (List D)
  | .lst ds => some ds
  | .ref n => match S[n]? with
    | some (.lst ds) => some ds
    | _ => none
  | _ => none
/-- the items of a list, a tuple -/
def seqOf (S : Store) : D → Option (List D)
  | .lst ds => some ds
  | .tup ds => some ds
  | .ref n => match S[n]? with
    | some (.lst ds) => some ds
    | _ => none
  | .scr ns => some (ns.map .int)
  | _ => none
def intOf : D → Option Int
  | .int i => some i
  | _ => none
def intsOf : List D → Option (List Int)
  | [] => some []
  | .int i :: r => (intsOf r).map fun t => i :: t
  | _ :: _ => none
def strsOf : List D → Option (List Str)
  | [] => some []
  | .str i :: r => (strsOf r).map fun t => i :: t
  | _ :: _ => none
def blsOf : List D → Option (List Bool)
  | [] => some []
  | .bl i :: r => (blsOf r).map fun t => i :: t
  | _ :: _ => none

/-! ### == -/
mutual
def eqD : D → D → Bool
  | .non, .non => true
  | .bl a, .bl b => a == b
  | .bl a, .int j => (if a then 1 else 0) == j
  | .int i, .bl b => i == (if b then 1 else 0)
  | .int i, .int j => i == j
  | .str x, .str y => x == y
  | .lst xs, .lst ys => eqDs xs ys
  | .tup xs, .tup ys => eqDs xs ys
  | _, _ => false
def eqDs : List D → List D → Bool
  | [], [] => true
  | x :: xs, y :: ys => eqD x y && eqDs xs ys
  | _, _ => false
end
/-- data that == is known of -/
def okD : Nat → D → Bool
  | _, .non => true
  | _, .bl _ => true
  | _, .int _ => true
  | _, .str x => PyData.strOk x
  | n + 1, .tup ds => ds.all (okD n)
  | n + 1, .lst ds => ds.all (okD n)
  | _, _ => false
end Vm
/-! Vm 2: operators, IR, its run. -/
namespace Vm
open PySem

def fits (n : Nat) : Bool := decide (n ≤ 1000000)
/-- an answer: a value, or the items of a new list -/
inductive Ou where
  | v (d : D) | l (ds : List D) | k (ks vs : List D)
/-- a new list: boxed or plain -/
def mkL (bx : Bool) (ds : List D) : M D := fun S => if bx then some (.ok (.ref S.length) (S ++ [.lst ds])) else some (.ok (.lst ds) S)
/-- a new dict: boxed or plain -/
def mkK (bx : Bool) (ks vs : List D) : M D := fun S => if bx then some (.ok (.ref S.length) (S ++ [.dct ks vs])) else some (.ok (.dct ks vs) S)
def mkO (bx : Bool) : Ou → M D
  | .v d => M.ret d
  | .l ds => mkL bx ds
  | .k ks vs => mkK bx ks vs

def cmulB (i j : Int) : Bool := (decide (-(2 ^ 64) < i) && decide (i < 2 ^ 64)) || (decide (-(2 ^ 64) < j) && decide (j < 2 ^ 64))
def binI : Operator → Int → Int → Option Int
  | .Add, i, j => some (i + j)
  | .Sub, i, j => some (i - j)
  | .Mult, i, j => if cmulB i j then some (i * j) else none
  | .Mod, i, j => if j = 0 then none else some (i.fmod j)
  | .FloorDiv, i, j => if j = 0 ∨ ¬ (j.natAbs < 1073741824) then none else some (i.fdiv j)
  | .Pow, i, j => if 0 ≤ j ∧ j ≤ 1000000 ∧ i.natAbs < 2 ^ 64 then some (i ^ j.toNat) else none
  | .BitAnd, i, j => some (Builtin.bitAnd i j)
  | .BitOr, i, j => some (Builtin.bitOr i j)
  | .BitXor, i, j => some (Builtin.bitXor i j)
  | .LShift, i, j => if 0 ≤ j ∧ j ≤ 1000000 ∧ i.natAbs < 2 ^ 64 then some (i * 2 ^ j.toNat) else none
  | .RShift, i, j => if 0 ≤ j then some (i / 2 ^ j.toNat) else none
  | _, _, _ => none
def binD (S : Store) (op : Operator) (a b : D) : Option Ou :=
  match a, b with
  | .int i, .int j => (binI op i j).map fun k => .v (.int k)
  | .str x, .str y => if op = .Add ∧ fits (x.length + y.length) = true then some (.v (.str (x ++ y))) else none
  | .tup xs, .tup ys => if op = .Add ∧ fits (xs.length + ys.length) = true then some (.v (.tup (xs ++ ys))) else none
  | .tup xs, .int k => if op = .Mult ∧ k = 1 then some (.v (.tup xs)) else if op = .Mult ∧ xs ≠ [] ∧ 2 ≤ k ∧ k ≤ 1000 ∧ xs.length ≤ 1000 then some (.v (.tup (List.replicate k.toNat xs).flatten)) else none
  | a, .int k => if op = .Mult then (lstOf S a).bind fun xs => if 0 ≤ k ∧ k ≤ 1000000 ∧ fits (xs.length * k.toNat) = true then some (.l (List.replicate k.toNat xs).flatten) else none else none
  | a, b => if op = .Add then (lstOf S a).bind fun xs => (lstOf S b).bind fun ys => if fits (xs.length + ys.length) = true then some (.l (xs ++ ys)) else none else none

def unaD : UnaryOp → D → Option D
  | .USub, .int i => some (.int (-i))
  | .Invert, .int i => some (.int (Builtin.bitNot i))
  | _, _ => none
/-- as plain data, to be looked at -/
def flat (S : Store) (d : D) : Option D := unb S 0 unbF d
def okN : Nat := 20
def eqS (S : Store) (a b : D) : Option Bool :=
  (flat S a).bind fun x => (flat S b).bind fun y => if okD okN x && okD okN y then some (eqD x y) else none
def isNonD : D → Bool
  | .non => true
  | _ => false
def dctOf (S : Store) : D → Option (List D × List D)
  | .dct ks vs => some (ks, vs)
  | .ref n => match S[n]? with
    | some (.dct ks vs) => some (ks, vs)
    | _ => none
  | _ => none
def isKey : D → Bool
  | .int _ => true
  | .str _ => true
  | _ => false
def cmpD (S : Store) (op : CmpOp) (a b : D) : Option Bool :=
  match op with
  | .Eq => eqS S a b
  | .NotEq => (eqS S a b).map fun k => !k
  | .Lt => match a, b with
    | .int i, .int j => some (decide (i < j))
    | _, _ => none
  | .LtE => match a, b with
    | .int i, .int j => some (decide (i ≤ j))
    | _, _ => none
  | .Gt => match a, b with
    | .int i, .int j => some (decide (j < i))
    | _, _ => none
  | .GtE => match a, b with
    | .int i, .int j => some (decide (j ≤ i))
    | _, _ => none
  | .Is => match a, b with
    | a, .non => some (isNonD a)
    | .bl x, .bl y => some (decide (x = y))
    | _, _ => none
  | .IsNot => match a, b with
    | a, .non => some (!isNonD a)
    | .bl x, .bl y => some (!decide (x = y))
    | _, _ => none
  | .In => inD S a b
  | .NotIn => (inD S a b).map fun k => !k
where inD (S : Store) (a b : D) : Option Bool := match dctOf S b with
  | some q => if isKey a then some (q.1.any fun z => same z a) else none
  | none => (flat S a).bind fun x => (flat S b).bind fun y => match y with
    | .lst ds => if okD okN x && okD okN (.lst ds) then some (ds.any fun z => eqD z x) else none
    | .tup ds => if okD okN x && okD okN (.tup ds) then some (ds.any fun z => eqD z x) else none
    | _ => none

def truth (S : Store) : D → Option Bool
  | .non => some false
  | .bl b => some b
  | .int i => some (i != 0)
  | .str x => if fits x.length then some (x.length != 0) else none
  | .lst ds => some (!ds.isEmpty)
  | .tup ds => some (!ds.isEmpty)
  | .ref n => match S[n]? with
    | some (.lst ds) => some (!ds.isEmpty)
    | _ => none
  | _ => none

/-- built-ins with plain arguments -/
inductive Bt where
  | len | abs | int | sum | max2 | min2 | max1 | min1 | all | any | list | tuple | sorted | bool | dict | ord | chr
  deriving DecidableEq
/-- the classes of isinstance -/
inductive Kd where
  | int | bool | str | list | tuple | dict | set
  deriving DecidableEq
def Kd.name : Kd → String
  | .int => "int" | .bool => "bool" | .str => "str" | .list => "list" | .tuple => "tuple" | .dict => "dict" | .set => "set"
def tyName (S : Store) : D → Option String
  | .non => some "NoneType"
  | .bl _ => some "bool"
  | .int _ => some "int"
  | .str _ => some "str"
  | .tup _ => some "tuple"
  | .lst _ => some "list"
  | .dct _ _ => some "dict"
  | .scr _ => some "list"
  | .ref n => match S[n]? with
    | some (.lst _) => some "list"
    | some (.dct _ _) => some "dict"
    | _ => none
  | .fn _ => none
def isK (t : String) (k : Kd) : Bool := t == k.name || (t == "bool" && k == .int)
def isiD (S : Store) (d : D) (ks : List Kd) : Option Bool := (tyName S d).map fun t => ks.any (isK t)

def leI : Int → Int → Bool := fun a b => decide (a ≤ b)
def maxI : List Int → Option Int
  | [] => none
  | a :: r => some (r.foldl (fun m x => if x > m then x else m) a)
def minI : List Int → Option Int
  | [] => none
  | a :: r => some (r.foldl (fun m x => if x < m then x else m) a)
/-- a whole number put in its place -/
def insI (x : Int) : List Int → List Int
  | [] => [x]
  | y :: r => if x ≤ y then x :: y :: r else y :: insI x r
def sortI : List Int → List Int
  | [] => []
  | x :: r => insI x (sortI r)
def lenD (S : Store) : D → Option Nat
  | .str x => if fits x.length then some x.length else none
  | .dct ks _ => some ks.length
  | .ref n => match S[n]? with
    | some (.lst ds) => some ds.length
    | some (.dct ks _) => some ks.length
    | _ => none
  | d => (seqOf S d).map (·.length)
def btD (S : Store) (f : Bt) (as : List D) : Option Ou :=
  match f, as with
  | .len, [a] => (lenD S a).map fun (n : Nat) => .v (.int (n : Int))
  | .abs, [.int i] => some (.v (.int (if i < 0 then -i else i)))
  | .int, [.int i] => some (.v (.int i))
  | .int, [.bl b] => some (.v (.int (if b then 1 else 0)))
  | .bool, [.int i] => some (.v (.bl (i != 0)))
  | .bool, [.bl b] => some (.v (.bl b))
  | .sum, [a] => (lstOf S a).bind fun ds => (intsOf ds).map fun ns => .v (.int ns.sum)
  | .max2, [.int i, .int j] => some (.v (.int (if j > i then j else i)))
  | .min2, [.int i, .int j] => some (.v (.int (if j < i then j else i)))
  | .max1, [a] => (lstOf S a).bind fun ds => (intsOf ds).bind fun ns => (maxI ns).map fun k => .v (.int k)
  | .min1, [a] => (lstOf S a).bind fun ds => (intsOf ds).bind fun ns => (minI ns).map fun k => .v (.int k)
  | .all, [a] => (lstOf S a).bind fun ds => (blsOf ds).map fun bs => .v (.bl (bs.all id))
  | .any, [a] => (lstOf S a).bind fun ds => (blsOf ds).map fun bs => .v (.bl (bs.any id))
  | .list, [a] => (seqOf S a).map .l
  | .tuple, [.tup ds] => some (.v (.tup ds))
  | .tuple, [a] => (seqOf S a).map fun ds => .v (.tup ds)
  | .dict, [a] => (dctOf S a).map fun q => .k q.1 q.2
  | .sorted, [a] => (lstOf S a).bind fun ds => (intsOf ds).map fun ns => .l ((sortI ns).map .int)
  | _, _ => none

/-- what a list may be extended by -/
def extOf (S : Store) : D → Option (List D)
  | .tup ds => some ds
  | d => lstOf S d
/-- methods -/
inductive Mt where
  | append | extend | pop | popAt
  deriving DecidableEq
def setS (S : Store) (n : Nat) (d : D) : Store := S.set n d
/-- n < m (a box of the caller's): only data without boxes may go in -/
def barr (m n : Nat) (ds : List D) : Bool := decide (m ≤ n) || refsLts 0 ds
def mtD (m : Nat) (f : Mt) (o : D) (as : List D) : M D := fun S =>
  match o with
  | .ref n => match S[n]? with
    | some (.lst xs) => match f, as with
      | .append, [a] => if fits xs.length && barr m n [a] then some (.ok .non (S.set n (.lst (xs ++ [a])))) else none
      | .extend, [a] => match extOf S a with
        | some ys => if fits (xs.length + ys.length) && barr m n ys then some (.ok .non (S.set n (.lst (xs ++ ys)))) else none
        | none => none
      | .pop, [] => match xs.getLast? with
        | some y => some (.ok y (S.set n (.lst xs.dropLast)))
        | none => none
      | .popAt, [.int i] => match L2.ixN xs.length i with
        | some k => match xs[k]? with
          | some y => if -(2 ^ 63) ≤ i ∧ i < 2 ^ 63 then some (.ok y (S.set n (.lst (xs.eraseIdx k)))) else none
          | none => none
        | none => none
      | _, _ => none
    | _ => none
  | _ => none
/-- a dict's value -/
def dgetL : List D → List D → D → Option D
  | x :: ks, y :: vs, k => if same x k then some y else dgetL ks vs k
  | _, _, _ => none
def subD (S : Store) (a i : D) : Option D :=
  match a, i with
  | .str x, .int k => if fits x.length then (L2.atI x.cps.toList k).map fun c => .str ⟨#[c]⟩ else none
  | a, i => match dctOf S a with
    | some q => if isKey i then dgetL q.1 q.2 i else none
    | none => match i with
      | .int k => (seqOf S a).bind fun xs => L2.atI xs k
      | _ => none
def cutL {α : Type} (xs : List α) (lo hi : Option Int) : List α := (xs.drop (HT.sIx xs.length 0 lo)).take (HT.sIx xs.length xs.length hi - HT.sIx xs.length 0 lo)
def slcD (S : Store) (a : D) (lo hi : Option Int) : Option Ou :=
  match a with
  | .tup xs => some (.v (.tup (cutL xs lo hi)))
  | .str x => if fits x.length then some (.v (.str ⟨(cutL x.cps.toList lo hi).toArray⟩)) else none
  | a => (seqOf S a).map fun xs => .l (cutL xs lo hi)
def dmap : List D → List D → D → D → List D
  | x :: ks, y :: vs, k, v => (if same x k then v else y) :: dmap ks vs k v
  | _, _, _, _ => []
/-- a dict's pairs, one set -/
def dput (ks vs : List D) (k v : D) : List D × List D := if ks.any (fun x => same x k) then (ks, dmap ks vs k v) else (ks ++ [k], vs ++ [v])
/-- o[i] = v -/
def putD (m : Nat) (o i v : D) : M Unit := fun S =>
  match o with
  | .ref n => match S[n]? with
    | some (.lst xs) => match i with
      | .int k => match L2.ixN xs.length k with
        | some j => if barr m n [v] then some (.ok () (S.set n (.lst (xs.set j v)))) else none
        | none => none
      | _ => none
    | some (.dct ks vs) => if isKey i && fits ks.length && barr m n [v] then let q := dput ks vs i v; some (.ok () (S.set n (.dct q.1 q.2))) else none
    | _ => none
  | _ => none

/-- targets -/
inductive Tg where
  | nm (i : Nat) | tup (ts : List Tg)
mutual
inductive Ex where
  | nm (i : Nat)
  | cst (d : D)
  | glb (x : Str)
  | tup (es : List Ex)
  | lst (bx : Bool) (es : List Ex)
  | tupS (a : Ex) (es : List Ex)
  | lstS (bx : Bool) (a : Ex) (es : List Ex)
  | gsub (x : Str) (i : Ex)
  | gin (ng : Bool) (x : Str) (i : Ex)
  | dct0 (bx : Bool)
  | dct (bx : Bool) (ks : List D) (es : List Ex)
  | bin (op : Operator) (bx : Bool) (a b : Ex)
  | una (op : UnaryOp) (a : Ex)
  | cmp (op : CmpOp) (a b : Ex)
  | chn (op op' : CmpOp) (a b c : Ex)
  | conj (es : List Ex) (l : Ex)
  | disj (es : List Ex) (l : Ex)
  | notE (a : Te)
  | ite (t : Te) (a b : Ex)
  | call (g : Nat) (bx : Bool) (es : List Ex) (pm : List Nat)
  | blt (f : Bt) (bx : Bool) (es : List Ex)
  | items (bx : Bool) (a : Ex)
  | rng1 (bx : Bool) (tp : Bool) (a : Ex)
  | rng2 (bx : Bool) (tp : Bool) (a b : Ex)
  | isi (a : Ex) (ks : List Kd)
  | met (f : Mt) (o : Ex) (es : List Ex)
  | sub (a i : Ex)
  | slc (bx : Bool) (a : Ex) (lo hi : Op)
  | lc (bx : Bool) (tg : Tg) (own : List Nat) (it : It) (ifs : List Te) (elt : Ex)
  | lc2 (bx : Bool) (tg : Tg) (own : List Nat) (it : It) (ifs : List Te) (tg1 : Tg) (vs1 : List Nat) (it1 : It) (ifs1 : List Te) (elt : Ex)
inductive Te where
  | v (e : Ex)
  | conj (ts : List Te)
  | disj (ts : List Te)
  | neg (t : Te)
  | cmp (op : CmpOp) (a b : Ex)
  | chn (op op' : CmpOp) (a b c : Ex)
inductive Op where
  | no | yes (e : Ex)
inductive It where
  | val (e : Ex)
  | rng1 (a : Ex)
  | rng2 (a b : Ex)
  | enum (a : Ex)
  | zip (a b : Ex)
end
structure Cf where
  call : Nat → List D → M D
  glb : Str → Option D
  m : Nat
  wh : Nat

def getFr (fr : Fr) (i : Nat) : Option D := (fr[i]?).join
mutual
/-- a value into a target -/
def asgT : Tg → D → Fr → Option Fr
  | .nm i, d, fr => if i < fr.length then some (fr.set i (some d)) else none
  | .tup ts, .tup ds, fr => asgTs ts ds fr
  | .tup ts, .lst ds, fr => asgTs ts ds fr
  | _, _, _ => none
def asgTs : List Tg → List D → Fr → Option Fr
  | [], [], fr => some fr
  | t :: ts, d :: ds, fr => (asgT t d fr).bind fun fr' => asgTs ts ds fr'
  | _, _, _ => none
end
def wipeF (fr : Fr) : List Nat → Fr
  | [] => fr
  | v :: vs => (wipeF fr vs).set v none
/-- what a loop walks: the items; the box that must stay as it is -/
structure Its where
  ds : List D
  box : Option Nat
/-- the box stands as it stood -/
def Its.still (t : Its) (S : Store) : Bool := match t.box with
  | none => true
  | some n => decide (S[n]? = some (.lst t.ds))
def rngL (lo : Int) (n : Nat) : List D := (List.range n).map fun (i : Nat) => .int (lo + (i : Int))
/-- list(range(i, j)), tuple(range(i, j)) -/
def rngM (bx tp : Bool) (x y : D) : M D := match x, y with
  | .int i, .int j => if -(2 ^ 24) ≤ i ∧ i ≤ 2 ^ 24 ∧ -(2 ^ 24) ≤ j ∧ j ≤ 2 ^ 24 ∧ (j - i).toNat ≤ 2 ^ 20 then (if tp then M.ret (.tup (rngL i (j - i).toNat)) else mkL bx (rngL i (j - i).toNat)) else M.stuck
  | _, _ => M.stuck
def itemsOf (S : Store) : D → Option Its
  | .lst ds => some ⟨ds, none⟩
  | .tup ds => some ⟨ds, none⟩
  | .scr ns => some ⟨ns.map .int, none⟩
  | .ref n => match S[n]? with
    | some (.lst ds) => some ⟨ds, some n⟩
    | _ => none
  | .str x => some ⟨x.cps.toList.map fun c => .str ⟨#[c]⟩, none⟩
  | _ => none
def enumL (i : Nat) : List D → List D
  | [] => []
  | d :: r => .tup [.int (i : Int), d] :: enumL (i + 1) r
def zipL : List D → List D → List D
  | a :: as, b :: bs => .tup [a, b] :: zipL as bs
  | _, _ => []
def big62 (i : Int) : Bool := decide (-(2 ^ 62) ≤ i) && decide (i < 2 ^ 62)
def lcGo (f : D → M (Option D)) : List D → List D → M (List D)
  | [], acc => M.ret acc
  | d :: ds, acc => fun S => bnd (f d S) fun r S' => match r with
    | none => lcGo f ds acc S'
    | some y => lcGo f ds (acc ++ [y]) S'
def foGo (f : D → List D → M (List D)) : List D → List D → M (List D)
  | [], acc => M.ret acc
  | d :: ds, acc => fun S => bnd (f d acc S) fun acc' S' => foGo f ds acc' S'
/-- keys that are keys, each once -/
def keysOk : List D → Bool
  | [] => true
  | k :: ks => isKey k && !(ks.any fun x => same k x) && keysOk ks
/-- exceptions may not leave -/
def noEx {α : Type} : Option (Rs α) → Option (Rs α)
  | some (.ok a S) => some (.ok a S)
  | _ => none
def permL {α : Type} (ds : List α) (pm : List Nat) : Option (List α) := pm.mapM fun i => ds[i]?
def boolOf : D → Option Bool
  | .bl b => some b
  | _ => none
/-- a name of the module: no dict (those are only looked up) -/
def noDct : Option D → Option D
  | some (.dct _ _) => none
  | o => o
/-- a dict of the module, at a key -/
def gdGet (ks vs : List D) : D → Option D
  | .str z => dgetL ks vs (.str z)
  | _ => none
def gdHas (ks : List D) : D → Option Bool
  | .str z => some (ks.any fun y => same y (.str z))
  | _ => none
mutual
def ev (C : Cf) : Ex → Fr → M D
  | .nm i, fr => lift (getFr fr i)
  | .cst d, _ => M.ret d
  | .glb x, _ => lift (noDct (C.glb x))
  | .tup es, fr => M.bind (evs C es fr) fun ds => M.ret (.tup ds)
  | .lst bx es, fr => M.bind (evs C es fr) fun ds => mkL bx ds
  | .tupS a es, fr => M.bind (ev C a fr) fun x => fun S => bnd (lift (seqOf S x) S) fun xs => M.bind (evs C es fr) fun ds => if fits xs.length then M.ret (.tup (xs ++ ds)) else M.stuck
  | .lstS bx a es, fr => M.bind (ev C a fr) fun x => fun S => bnd (lift (seqOf S x) S) fun xs => M.bind (evs C es fr) fun ds => if fits xs.length then mkL bx (xs ++ ds) else M.stuck
  | .gsub x i, fr => match C.glb x with
    | some (.dct ks vs) => M.bind (ev C i fr) fun k => lift (gdGet ks vs k)
    | _ => M.stuck
  | .gin ng x i, fr => match C.glb x with
    | some (.dct ks vs) => M.bind (ev C i fr) fun k => lift ((gdHas ks k).map fun b => .bl (if ng then !b else b))
    | _ => M.stuck
  | .dct0 bx, _ => mkK bx [] []
  | .dct bx ks es, fr => fun S => bnd (noEx (evs C es fr S)) fun ds => if keysOk ks && decide (ks.length = ds.length) && decide (ks.length ≤ 15) && decide (es.length = ks.length) then mkK bx ks ds else M.stuck
  | .bin op bx a b, fr => M.bind (ev C a fr) fun x => M.bind (ev C b fr) fun y => fun S => bnd (lift (binD S op x y) S) (mkO bx)
  | .una op a, fr => M.bind (ev C a fr) fun x => lift (unaD op x)
  | .cmp op a b, fr => M.bind (ev C a fr) fun x => M.bind (ev C b fr) fun y => fun S => bnd (lift (cmpD S op x y) S) fun k => M.ret (.bl k)
  | .chn op op' a b c, fr => M.bind (ev C a fr) fun x => M.bind (ev C b fr) fun y => fun S => bnd (lift (cmpD S op x y) S) fun k =>
      if k then M.bind (ev C c fr) fun z => fun S => bnd (lift (cmpD S op' y z) S) fun k => M.ret (.bl k) else M.ret (.bl false)
  | .conj es l, fr => M.bind (evConj C es fr) fun k => if k then ev C l fr else M.ret (.bl false)
  | .disj es l, fr => M.bind (evDisj C es fr) fun k => if k then M.ret (.bl true) else ev C l fr
  | .notE a, fr => M.bind (tst C a fr) fun k => M.ret (.bl (!k))
  | .ite t a b, fr => M.bind (tst C t fr) fun k => if k then ev C a fr else ev C b fr
  | .call g bx es pm, fr => fun S => bnd (evs C es fr S) fun ds S1 => match permL ds pm with
    | some ds' => gcOut S1.length bx (C.call g ds' S1)
    | none => none
  | .blt f bx es, fr => M.bind (evs C es fr) fun ds => fun S => bnd (lift (btD S f ds) S) (mkO bx)
  | .items bx a, fr => M.bind (ev C a fr) fun x => fun S => bnd (lift (dctOf S x) S) fun q => mkL bx (zipL q.1 q.2)
  | .rng1 bx tp a, fr => M.bind (ev C a fr) fun x => rngM bx tp (.int 0) x
  | .rng2 bx tp a b, fr => M.bind (ev C a fr) fun x => M.bind (ev C b fr) fun y => rngM bx tp x y
  | .isi a ks, fr => M.bind (ev C a fr) fun x => fun S => bnd (lift (isiD S x ks) S) fun k => M.ret (.bl k)
  | .met f o es, fr => M.bind (ev C o fr) fun x => fun S => if tyName S x = some "list" then bnd (evs C es fr S) fun ds => mtD C.m f x ds else none
  | .sub a i, fr => M.bind (ev C a fr) fun x => M.bind (ev C i fr) fun y => fun S => lift (subD S x y) S
  | .slc bx a lo hi, fr => M.bind (ev C a fr) fun x => M.bind (evO C lo fr) fun l => M.bind (evO C hi fr) fun h => fun S => bnd (lift (slcD S x l h) S) (mkO bx)
  | .lc bx tg own it ifs elt, fr => fun S => bnd (evIt C it fr S) fun t S1 => if fits t.ds.length && t.still S1 then
      bnd (noEx (lcGo (fun d S2 => match asgT tg d (wipeF fr own) with
        | some fr' => bnd (tsts C ifs fr' S2) fun k S3 => bnd (if k then bnd (ev C elt fr' S3) fun y => M.ret (some y) else some (.ok none S3)) fun r S4 => if t.still S4 then some (.ok r S4) else none
        | none => none) t.ds [] S1)) (mkL bx) else none
  | .lc2 bx tg own it ifs tg1 vs1 it1 ifs1 elt, fr => fun S => bnd (evIt C it fr S) fun t S1 => if fits t.ds.length && t.still S1 then
      bnd (noEx (foGo (fun d acc S2 => match asgT tg d (wipeF fr own) with
        | some fr' => bnd (tsts C ifs fr' S2) fun k S3 => bnd (if k then bnd (evIt C it1 fr' S3) fun t1 S4 => if fits t1.ds.length && t1.still S4 then
            lcGo (fun d1 S5 => match asgT tg1 d1 (wipeF fr' vs1) with
              | some fr1 => bnd (tsts C ifs1 fr1 S5) fun k1 S6 => bnd (if k1 then bnd (ev C elt fr1 S6) fun y => M.ret (some y) else some (.ok none S6)) fun r S7 => if t1.still S7 then some (.ok r S7) else none
              | none => none) t1.ds acc S4 else none else some (.ok acc S3)) fun acc' S8 => if t.still S8 && fits acc'.length then some (.ok acc' S8) else none
        | none => none) t.ds [] S1)) (mkL bx) else none
def evs (C : Cf) : List Ex → Fr → M (List D)
  | [], _ => M.ret []
  | e :: es, fr => M.bind (ev C e fr) fun d => M.bind (evs C es fr) fun ds => M.ret (d :: ds)
def evO (C : Cf) : Op → Fr → M (Option Int)
  | .no, _ => M.ret none
  | .yes e, fr => M.bind (ev C e fr) fun d => match d with
    | .int i => M.ret (some i)
    | _ => M.stuck
/-- and, or, as values: all but the last are bools -/
def evConj (C : Cf) : List Ex → Fr → M Bool
  | [], _ => M.ret true
  | e :: es, fr => M.bind (ev C e fr) fun d => match d with
    | .bl true => evConj C es fr
    | .bl false => M.ret false
    | _ => M.stuck
def evDisj (C : Cf) : List Ex → Fr → M Bool
  | [], _ => M.ret false
  | e :: es, fr => M.bind (ev C e fr) fun d => match d with
    | .bl true => M.ret true
    | .bl false => evDisj C es fr
    | _ => M.stuck
/-- a test -/
def tst (C : Cf) : Te → Fr → M Bool
  | .v e, fr => M.bind (ev C e fr) fun d => fun S => lift (truth S d) S
  | .conj ts, fr => tsConj C ts fr
  | .disj ts, fr => tsDisj C ts fr
  | .neg a, fr => M.bind (tst C a fr) fun k => M.ret (!k)
  | .cmp op a b, fr => M.bind (ev C a fr) fun x => M.bind (ev C b fr) fun y => fun S => lift (cmpD S op x y) S
  | .chn op op' a b c, fr => M.bind (ev C a fr) fun x => M.bind (ev C b fr) fun y => fun S => bnd (lift (cmpD S op x y) S) fun k =>
      if k then M.bind (ev C c fr) fun z => fun S => lift (cmpD S op' y z) S else M.ret false
def tsConj (C : Cf) : List Te → Fr → M Bool
  | [], _ => M.ret true
  | e :: es, fr => M.bind (tst C e fr) fun k => if k then tsConj C es fr else M.ret false
def tsDisj (C : Cf) : List Te → Fr → M Bool
  | [], _ => M.ret false
  | e :: es, fr => M.bind (tst C e fr) fun k => if k then M.ret true else tsDisj C es fr
/-- a clause's tests -/
def tsts (C : Cf) : List Te → Fr → M Bool
  | [], _ => M.ret true
  | e :: es, fr => M.bind (tst C e fr) fun k => if k then tsts C es fr else M.ret false
def evIt (C : Cf) : It → Fr → M Its
  | .val e, fr => M.bind (ev C e fr) fun d => fun S => lift (itemsOf S d) S
  | .rng1 a, fr => M.bind (ev C a fr) fun d => match d with
    | .int j => if big62 j then M.ret ⟨rngL 0 j.toNat, none⟩ else M.stuck
    | _ => M.stuck
  | .rng2 a b, fr => M.bind (ev C a fr) fun x => M.bind (ev C b fr) fun y => match x, y with
    | .int i, .int j => if big62 i && big62 j then M.ret ⟨rngL i (j - i).toNat, none⟩ else M.stuck
    | _, _ => M.stuck
  | .enum a, fr => M.bind (ev C a fr) fun d => match d with
    | .lst ds => M.ret ⟨enumL 0 ds, none⟩
    | _ => M.stuck
  | .zip a b, fr => M.bind (ev C a fr) fun x => M.bind (ev C b fr) fun y => match x, y with
    | .lst xs, .lst ys => M.ret ⟨zipL xs ys, none⟩
    | .tup xs, .tup ys => M.ret ⟨zipL xs ys, none⟩
    | .str z, .tup ys => M.ret ⟨zipL (z.cps.toList.map fun c => .str ⟨#[c]⟩) ys, none⟩
    | _, _ => M.stuck
end
end Vm
/-! Vm 3: statements, functions. -/
namespace Vm
open PySem

/-- an item of what an except suite hands back: a constant, a field of the error, isinstance(error, class), one of two constants by that -/
inductive Hi where
  | cst (d : D) | fld (f : Str) | isi (c : Nat) | ifi (c : Nat) (a b : D)
/-- except CLASS as name: return [..] (no slot: no name) -/
structure Hd where
  c : Nat
  i : Option Nat
  tp : Bool
  items : List Hi
inductive St where
  | pass
  | expr (e : Ex)
  | asg (t : Tg) (e : Ex)
  | aug (i : Nat) (op : Operator) (e : Ex)
  | put (o i e : Ex)
  | ret (e : Ex)
  | retN
  | ife (t : Te) (a b : List St)
  | whl (gc : Bool) (t : Te) (b : List St)
  | for_ (gc : Bool) (tg : Tg) (it : It) (b : List St)
  | brk
  | cnt
  | rse (c : Nat) (es : List Ex)
  | try_ (b : List St) (hs : List Hd)
/-- how a block ends -/
inductive Fl where
  | nx (fr : Fr) | ret (d : D) | bk (fr : Fr) | ct (fr : Fr)
structure Cg extends Cf where
  /-- is the class a subclass of the other -/
  sub : Nat → Nat → Option Bool
  /-- a class's fields -/
  cf : Nat → List Str

def unbFr (S : Store) (m : Nat) : Fr → Option Fr
  | [] => some []
  | none :: r => (unbFr S m r).map fun t => none :: t
  | some d :: r => (unb S m unbF d).bind fun e => (unbFr S m r).map fun t => some e :: t
/-- at a turn's end: the boxes that the turn made become plain -/
def gcFl (gc : Bool) (m : Nat) (r : Option (Rs Fl)) : Option (Rs Fl) :=
  if gc then match r with
    | some (.ok (.nx fr) S) => (unbFr S m fr).map fun fr' => .ok (.nx fr') (S.take m)
    | some (.ok (.ct fr) S) => (unbFr S m fr).map fun fr' => .ok (.nx fr') (S.take m)
    | some (.ok (.bk fr) S) => (unbFr S m fr).map fun fr' => .ok (.bk fr') (S.take m)
    | r => r
  else r
def Cg.up (C : Cg) (gc : Bool) (S : Store) : Cg := if gc then { C with m := S.length } else C
def forGo (f : D → Fr → M Fl) (still : Store → Bool) : List D → Fr → M Fl
  | [], fr => M.ret (.nx fr)
  | d :: ds, fr => fun S => bnd (f d fr S) fun fl S' => match fl with
    | .nx fr' => if still S' then forGo f still ds fr' S' else none
    | .ct fr' => if still S' then forGo f still ds fr' S' else none
    | .bk fr' => some (.ok (.nx fr') S')
    | .ret d => some (.ok (.ret d) S')
def whlGo (t : Fr → M Bool) (f : Fr → M Fl) : Nat → Fr → M Fl
  | 0, _ => M.stuck
  | n + 1, fr => fun S => bnd (t fr S) fun k S1 => if k then bnd (f fr S1) fun fl S' => match fl with
      | .nx fr' => whlGo t f n fr' S'
      | .ct fr' => whlGo t f n fr' S'
      | .bk fr' => some (.ok (.nx fr') S')
      | .ret d => some (.ok (.ret d) S')
    else some (.ok (.nx fr) S1)
def hiD (C : Cg) (c : Nat) (fs : List D) : Hi → Option D
  | .cst d => some d
  | .fld f => if C.cf c = [f] then fs[0]? else none
  | .isi c' => if C.sub c c' = some true then some (.bl true) else none
  | .ifi c' a b => if C.sub c c' = some true then some a else none
def slotOk : Option Nat → Nat → Bool
  | some i, n => decide (i < n)
  | none, _ => true
def handle (C : Cg) (n : Nat) (c : Nat) (fs : List D) : List Hd → M Fl
  | [] => fun S => some (.ex c fs S)
  | h :: hs => fun S => match C.sub c h.c with
    | some true => if slotOk h.i n then (h.items.mapM (hiD C c fs)).map fun ds => .ok (.ret (if h.tp then .tup ds else .lst ds)) S else none
    | some false => handle C n c fs hs S
    | none => none
def augD : Operator → D → D → Option D
  | .Add, .int a, .int b => some (.int (a + b))
  | .Sub, .int a, .int b => some (.int (a - b))
  | _, _, _ => none
mutual
def exec : Cg → St → Fr → M Fl
  | _, .pass, fr => M.ret (.nx fr)
  | C, .expr e, fr => M.bind (ev C.toCf e fr) fun _ => M.ret (.nx fr)
  | C, .asg t e, fr => M.bind (ev C.toCf e fr) fun d => fun S => bnd (lift (asgT t d fr) S) fun fr' => M.ret (.nx fr')
  | C, .aug i op e, fr => fun S => bnd (lift (getFr fr i) S) fun x S1 => bnd (ev C.toCf e fr S1) fun y S2 => bnd (lift (augD op x y) S2) fun k => M.ret (.nx (fr.set i (some k)))
  | C, .put o i e, fr => M.bind (ev C.toCf e fr) fun v => M.bind (ev C.toCf o fr) fun x => M.bind (ev C.toCf i fr) fun y => fun S => bnd (putD C.m x y v S) fun _ => M.ret (.nx fr)
  | C, .ret e, fr => M.bind (ev C.toCf e fr) fun d => M.ret (.ret d)
  | _, .retN, fr => M.ret (.ret .non)
  | C, .ife t a b, fr => M.bind (tst C.toCf t fr) fun k => if k then execs C a fr else execs C b fr
  | C, .whl gc t b, fr => whlGo (tst C.toCf t) (fun fr S => gcFl gc S.length (execs (C.up gc S) b fr S)) C.wh fr
  | C, .for_ gc tg it b, fr => fun S => bnd (evIt C.toCf it fr S) fun t S1 => if t.still S1 then forGo (fun d fr S => gcFl gc S.length (bnd (lift (asgT tg d fr) S) fun fr' S' => execs (C.up gc S) b fr' S')) t.still t.ds fr S1 else none
  | _, .brk, fr => M.ret (.bk fr)
  | _, .cnt, fr => M.ret (.ct fr)
  | C, .rse c es, fr => M.bind (evs C.toCf es fr) fun ds => fun S => some (.ex c ds S)
  | C, .try_ b hs, fr => fun S => match execs C b fr S with
    | some (.ex c fs S') => handle C fr.length c fs hs S'
    | r => r
def execs : Cg → List St → Fr → M Fl
  | _, [], fr => M.ret (.nx fr)
  | C, s :: r, fr => fun S => bnd (exec C s fr S) fun fl S' => match fl with
    | .nx fr' => execs C r fr' S'
    | fl => some (.ok fl S')
end
structure Fd where
  np : Nat
  nN : Nat
  body : List St
structure Pg where
  fd : Nat → Option Fd
  glb : Str → Option D
  wh : Nat
  sub : Nat → Nat → Option Bool
  cf : Nat → List Str
def startF (nN : Nat) (ds : List D) : Fr := ds.map some ++ List.replicate (nN - ds.length) none
def outF : Option (Rs Fl) → Option (Rs D)
  | some (.ok (.ret d) S) => some (.ok d S)
  | some (.ok (.nx _) S) => some (.ok .non S)
  | some (.ex c fs S) => some (.ex c fs S)
  | _ => none
/-- a call, k deep -/
def callR (P : Pg) : Nat → Nat → List D → M D
  | 0 => fun _ _ => M.stuck
  | k + 1 => fun g ds S => match P.fd g with
    | none => none
    | some fd => if ds.length = fd.np then outF (execs ⟨⟨callR P k, P.glb, S.length, P.wh⟩, P.sub, P.cf⟩ fd.body (startF fd.nN ds) S) else none
end Vm
/-! Vm 4: data in the abstract heap. -/
namespace Vm
open PySem L2

/-- what is fixed by the law's top: where its defs and classes stand -/
structure Tp where
  K : PySem.W.Frag
  mg : Str → Option Value
  fa : Nat → Addr
  ca : Nat → Addr
  /-- the attributes of an error class -/
  cf : Nat → List Str
  /-- lists in the making: no data -/
  no : List Addr := []
/-- other lists in the making -/
abbrev Tp.wn (T : Tp) (no : List Addr) : Tp := { T with no := no }
/-- neither a box nor in the making -/
def NoBox (T : Tp) (α : List Addr) (a : Addr) : Prop := a ∉ α ∧ a ∉ T.no

/-- what a box may be -/
def MutO : HO → Prop
  | .lst _ => True
  | .dK _ => True
  | .dT _ => True
  | _ => False
def keyD : D → Option Key
  | .int i => some (.inl i)
  | .str x => some (.inr x)
  | _ => none
/-- a list of the written part -/
def SqLK (K : PySem.W.Frag) (a : Addr) (xs : List V) : Prop :=
  ∃ (o : Obj) (its : Array Value) (n : Nat), K.lookup a = some o ∧ o.cls = .type "list" ∧ o.dict = none ∧ o.data = .seq its n ∧ its.size ≤ sizeLine ∧ Vals xs its.toList
section
variable (T : Tp) (α : List Addr) (H : Hp)
mutual
def RV : D → V → Prop
  | .non, v => v = .non
  | .bl b, v => v = .bl b
  | .int i, v => v = .int i
  | .str x, v => v = .str x
  | .tup ds, v => ∃ a vs, v = .ref a ∧ SqT T.K H a vs ∧ RVs ds vs
  | .lst ds, v => ∃ a vs, v = .ref a ∧ H a = some (.lst vs) ∧ NoBox T α a ∧ RVs ds vs
  | .dct ks ds, v => ∃ a es, v = .ref a ∧ H a = some (.dK es) ∧ NoBox T α a ∧ ks.map keyD = es.map (fun e => some e.1) ∧ RVs ds (es.map (·.2))
  | .ref n, v => ∃ a, α[n]? = some a ∧ v = .ref a
  | .scr ns, v => ∃ a, v = .ref a ∧ ((Rd H a (.lst (ns.map V.int)) ∧ NoBox T α a) ∨ SqLK T.K a (ns.map V.int))
  | .fn g, v => v = .ref (T.fa g)
def RVs : List D → List V → Prop
  | [], vs => vs = []
  | d :: ds, vs => ∃ v r, vs = v :: r ∧ RV d v ∧ RVs ds r
end
def BoxAt (a : Addr) : D → Prop
  | .lst ds => ∃ vs, H a = some (.lst vs) ∧ RVs T α H ds vs
  | .dct ks ds => ∃ es, H a = some (.dK es) ∧ ks.map keyD = es.map (fun e => some e.1) ∧ RVs T α H ds (es.map (·.2))
  | _ => False
structure RS (S : Store) : Prop where
  len : α.length = S.length
  nd : α.Nodup
  box : ∀ (n : Nat) (a : Addr) (d : D), α[n]? = some a → S[n]? = some d → BoxAt T α H a d
  no : ∀ a ∈ T.no, (∃ o, H a = some o) ∧ a ∉ α
end
theorem RVs_len {T : Tp} {α : List Addr} {H : Hp} : ∀ {ds : List D} {vs : List V}, RVs T α H ds vs → ds.length = vs.length
  | [], vs, h => by
    have e : vs = [] := by simpa [RVs] using h
    subst e
    rfl
  | d :: ds, vs, h => by
    obtain ⟨v, r, rfl, _, h2⟩ := (by simpa [RVs] using h : ∃ v r, vs = v :: r ∧ RV T α H d v ∧ RVs T α H ds r)
    simp [RVs_len h2]
theorem RVs_get {T : Tp} {α : List Addr} {H : Hp} : ∀ {ds : List D} {vs : List V} {i : Nat} {d : D}, RVs T α H ds vs → ds[i]? = some d → ∃ v, vs[i]? = some v ∧ RV T α H d v
  | [], vs, i, d, h, e => by simp at e
  | d0 :: ds, vs, i, d, h, e => by
    obtain ⟨v, r, rfl, h1, h2⟩ := (by simpa [RVs] using h : ∃ v r, vs = v :: r ∧ RV T α H d0 v ∧ RVs T α H ds r)
    cases i with
    | zero => simp at e; subst e; exact ⟨v, rfl, h1⟩
    | succ i =>
      obtain ⟨w, e1, e2⟩ := RVs_get (i := i) h2 (by simpa using e)
      exact ⟨w, by simpa using e1, e2⟩
theorem RVs_of {T : Tp} {α : List Addr} {H : Hp} : ∀ {ds : List D} {vs : List V}, ds.length = vs.length → (∀ (i : Nat) (d : D) (v : V), ds[i]? = some d → vs[i]? = some v → RV T α H d v) → RVs T α H ds vs
  | [], [], _, _ => by simp [RVs]
  | [], _ :: _, h, _ => by simp at h
  | _ :: _, [], h, _ => by simp at h
  | d :: ds, v :: vs, h, f => by
    rw [RVs]
    exact ⟨v, vs, rfl, f 0 d v rfl rfl, RVs_of (by simpa using h) fun i d' v' e1 e2 => f (i + 1) d' v' (by simpa using e1) (by simpa using e2)⟩
theorem RVs_app {T : Tp} {α : List Addr} {H : Hp} : ∀ {ds es : List D} {vs ws : List V}, RVs T α H ds vs → RVs T α H es ws → RVs T α H (ds ++ es) (vs ++ ws)
  | [], es, vs, ws, h, g => by
    have e : vs = [] := by simpa [RVs] using h
    subst e
    exact g
  | d :: ds, es, vs, ws, h, g => by
    obtain ⟨v, r, rfl, h1, h2⟩ := (by simpa [RVs] using h : ∃ v r, vs = v :: r ∧ RV T α H d v ∧ RVs T α H ds r)
    show RVs T α H (d :: (ds ++ es)) (v :: (r ++ ws))
    rw [RVs]
    exact ⟨v, _, rfl, h1, RVs_app h2 g⟩
theorem RVs_nil {T : Tp} {α : List Addr} {H : Hp} : RVs T α H [] [] := by simp [RVs]
theorem RVs_cons {T : Tp} {α : List Addr} {H : Hp} {d : D} {v : V} {ds : List D} {vs : List V} (h : RV T α H d v) (g : RVs T α H ds vs) : RVs T α H (d :: ds) (v :: vs) := by
  rw [RVs]
  exact ⟨v, vs, rfl, h, g⟩

/-- boxes are lists and dicts -/
def Bx (α : List Addr) (H : Hp) : Prop := ∀ a ∈ α, ∃ o, H a = some o ∧ MutO o
theorem RS.bx {T : Tp} {α : List Addr} {H : Hp} {S : Store} (h : RS T α H S) : Bx α H := fun a ha => by
  obtain ⟨n, hn⟩ := List.mem_iff_getElem?.mp ha
  have hlt : n < S.length := by rw [← h.len]; exact (List.getElem?_eq_some_iff.mp hn).1
  have b := h.box n a S[n] hn (by simp [hlt])
  cases e : S[n] with
  | lst ds => rw [e] at b; obtain ⟨vs, q, _⟩ := b; exact ⟨_, q, trivial⟩
  | dct ks ds => rw [e] at b; obtain ⟨vs, q, _⟩ := b; exact ⟨_, q, trivial⟩
  | _ => rw [e] at b; exact b.elim
/-- the later state: boxes added at free places, all else that was tracked and is no box as it was -/
structure Grow (α α' : List Addr) (H H' : Hp) : Prop where
  pre : ∃ β, α' = α ++ β ∧ ∀ a ∈ β, H a = none
  keep : ∀ a o, H a = some o → a ∉ α → H' a = some o
  bx : Bx α' H'
theorem Grow.refl {α : List Addr} {H : Hp} (b : Bx α H) : Grow α α H H := ⟨⟨[], by simp, by simp⟩, fun _ _ h _ => h, b⟩
theorem Grow.trans {α α1 α2 : List Addr} {H H1 H2 : Hp} (a : Grow α α1 H H1) (b : Grow α1 α2 H1 H2) : Grow α α2 H H2 := by
  obtain ⟨β, rfl, h1⟩ := a.pre
  obtain ⟨γ, rfl, h2⟩ := b.pre
  have up : ∀ c o, H c = some o → c ∉ α → H1 c = some o ∧ c ∉ α ++ β := fun c o h n => ⟨a.keep c o h n, by
    intro hc
    rcases List.mem_append.mp hc with z | z
    · exact n z
    · rw [h1 c z] at h; cases h⟩
  refine ⟨⟨β ++ γ, by simp, fun c hc => ?_⟩, fun c o h n => ?_, b.bx⟩
  · rcases List.mem_append.mp hc with z | z
    · exact h1 c z
    · cases e : H c with
      | none => rfl
      | some o =>
        have q := h2 c z
        by_cases hα : c ∈ α
        · obtain ⟨o', q', _⟩ := a.bx c (List.mem_append_left _ hα)
          rw [q'] at q; cases q
        · rw [(up c o e hα).1] at q
          cases q
  · obtain ⟨k1, k2⟩ := up c o h n
    exact b.keep c o k1 k2
theorem Grow.noin {α α' : List Addr} {H H' : Hp} (g : Grow α α' H H') {a : Addr} {o : HO} (h : H a = some o) (n : a ∉ α) : a ∉ α' := by
  obtain ⟨β, rfl, h1⟩ := g.pre
  intro hc
  rcases List.mem_append.mp hc with z | z
  · exact n z
  · rw [h1 a z] at h; cases h
theorem Grow.nob {T T' : Tp} {α α' : List Addr} {H H' : Hp} (g : Grow α α' H H') (hn : ∀ a ∈ T'.no, a ∈ T.no ∨ H a = none) {a : Addr} {o : HO} (h : H a = some o) (n : NoBox T α a) : NoBox T' α' a :=
  ⟨g.noin h n.1, fun z => by
    rcases hn a z with q | q
    · exact n.2 q
    · rw [h] at q; cases q⟩
theorem Bx.no {α : List Addr} {H : Hp} (b : Bx α H) {a : Addr} {o : HO} (h : H a = some o) (m : ¬ MutO o) : a ∉ α := fun z => by
  obtain ⟨o', e, m'⟩ := b a z
  rw [h] at e; cases e
  exact m m'
theorem Grow.rd {α α' : List Addr} {H H' : Hp} (g : Grow α α' H H') (b : Bx α H) {a : Addr} {vs : List V} (h : Rd H a (.tup vs)) : Rd H' a (.tup vs) := by
  rcases h with h | ⟨o, h⟩
  · exact .inl (g.keep a _ h (b.no h fun z => z))
  · exact .inr ⟨o, g.keep a _ h (b.no h fun z => z)⟩
theorem Grow.sqT {α α' : List Addr} {H H' : Hp} (g : Grow α α' H H') (b : Bx α H) {K : PySem.W.Frag} {a : Addr} {vs : List V} (h : SqT K H a vs) : SqT K H' a vs := by
  rcases h with h | h
  · exact .inl (g.rd b h)
  · exact .inr h
mutual
theorem RV_growN {T : Tp} {no : List Addr} {α α' : List Addr} {H H' : Hp} (b : Bx α H) (g : Grow α α' H H') (hn : ∀ a ∈ no, a ∈ T.no ∨ H a = none) : ∀ (d : D) (v : V), RV T α H d v → RV (T.wn no) α' H' d v
  | .non, v, h => by simpa [RV] using h
  | .bl _, v, h => by simpa [RV] using h
  | .int _, v, h => by simpa [RV] using h
  | .str _, v, h => by simpa [RV] using h
  | .fn _, v, h => by simpa [RV] using h
  | .tup ds, v, h => by
    rw [RV] at h ⊢
    obtain ⟨a, vs, e, h1, h2⟩ := h
    exact ⟨a, vs, e, g.sqT b h1, RVs_growN b g hn ds vs h2⟩
  | .lst ds, v, h => by
    rw [RV] at h ⊢
    obtain ⟨a, vs, e, h1, h2, h3⟩ := h
    exact ⟨a, vs, e, g.keep a _ h1 h2.1, g.nob hn h1 h2, RVs_growN b g hn ds vs h3⟩
  | .dct ks ds, v, h => by
    rw [RV] at h ⊢
    obtain ⟨a, es, e, h1, h2, h3, h4⟩ := h
    exact ⟨a, es, e, g.keep a _ h1 h2.1, g.nob hn h1 h2, h3, RVs_growN b g hn ds _ h4⟩
  | .ref n, v, h => by
    rw [RV] at h ⊢
    obtain ⟨a, e1, e2⟩ := h
    obtain ⟨β, rfl, _⟩ := g.pre
    refine ⟨a, ?_, e2⟩
    rw [List.getElem?_append_left (List.getElem?_eq_some_iff.mp e1).1]
    exact e1
  | .scr ns, v, h => by
    rw [RV] at h ⊢
    obtain ⟨a, e, ⟨h1 | ⟨o, h1⟩, h2⟩ | h1⟩ := h
    · exact ⟨a, e, .inl ⟨.inl (g.keep a _ h1 h2.1), g.nob hn h1 h2⟩⟩
    · exact ⟨a, e, .inl ⟨.inr ⟨o, g.keep a _ h1 h2.1⟩, g.nob hn h1 h2⟩⟩
    · exact ⟨a, e, .inr h1⟩
theorem RVs_growN {T : Tp} {no : List Addr} {α α' : List Addr} {H H' : Hp} (b : Bx α H) (g : Grow α α' H H') (hn : ∀ a ∈ no, a ∈ T.no ∨ H a = none) : ∀ (ds : List D) (vs : List V), RVs T α H ds vs → RVs (T.wn no) α' H' ds vs
  | [], vs, h => by simpa [RVs] using h
  | d :: ds, vs, h => by
    rw [RVs] at h ⊢
    obtain ⟨v, r, e, h1, h2⟩ := h
    exact ⟨v, r, e, RV_growN b g hn d v h1, RVs_growN b g hn ds r h2⟩
end

theorem RV_grow {T : Tp} {α α' : List Addr} {H H' : Hp} (b : Bx α H) (g : Grow α α' H H') (d : D) (v : V) (h : RV T α H d v) : RV T α' H' d v := RV_growN b g (no := T.no) (fun _ z => .inl z) d v h
theorem RVs_grow {T : Tp} {α α' : List Addr} {H H' : Hp} (b : Bx α H) (g : Grow α α' H H') (d : List D) (v : List V) (h : RVs T α H d v) : RVs T α' H' d v := RVs_growN b g (no := T.no) (fun _ z => .inl z) d v h
/-- growth that leaves all but the lists in the making -/
structure GrowN (no α α' : List Addr) (H H' : Hp) : Prop where
  pre : ∃ β, α' = α ++ β ∧ ∀ a ∈ β, H a = none
  keep : ∀ a o, H a = some o → a ∉ α → a ∉ no → H' a = some o
  rd : ∀ a vs, Rd H a (.tup vs) → Rd H' a (.tup vs)
theorem Grow.toN {no α α' : List Addr} {H H' : Hp} (g : Grow α α' H H') (b : Bx α H) : GrowN no α α' H H' := ⟨g.pre, fun a o h n _ => g.keep a o h n, fun a vs h => g.rd b h⟩
theorem GrowN.noin {no α α' : List Addr} {H H' : Hp} (g : GrowN no α α' H H') {a : Addr} {o : HO} (h : H a = some o) (n : a ∉ α) : a ∉ α' := by
  obtain ⟨β, rfl, h1⟩ := g.pre
  intro hc
  rcases List.mem_append.mp hc with z | z
  · exact n z
  · rw [h1 a z] at h; cases h
theorem GrowN.nob {T T' : Tp} {no α α' : List Addr} {H H' : Hp} (g : GrowN no α α' H H') (hn : ∀ a ∈ T'.no, a ∈ T.no ∨ H a = none) {a : Addr} {o : HO} (h : H a = some o) (n : NoBox T α a) : NoBox T' α' a :=
  ⟨g.noin h n.1, fun z => by
    rcases hn a z with q | q
    · exact n.2 q
    · rw [h] at q; cases q⟩
theorem GrowN.sqT {no α α' : List Addr} {H H' : Hp} (g : GrowN no α α' H H') {K : PySem.W.Frag} {a : Addr} {vs : List V} (h : SqT K H a vs) : SqT K H' a vs := by
  rcases h with h | h
  · exact .inl (g.rd a vs h)
  · exact .inr h
theorem GrowN.get {no α α' : List Addr} {H H' : Hp} (g : GrowN no α α' H H') {n : Nat} {a : Addr} (h : α[n]? = some a) : α'[n]? = some a := by
  obtain ⟨β, rfl, _⟩ := g.pre
  rw [List.getElem?_append_left (List.getElem?_eq_some_iff.mp h).1]
  exact h
mutual
theorem RV_growM {T : Tp} {no : List Addr} {α α' : List Addr} {H H' : Hp} (g : GrowN T.no α α' H H') (hn : ∀ a ∈ no, a ∈ T.no ∨ H a = none) : ∀ (d : D) (v : V), RV T α H d v → RV (T.wn no) α' H' d v
  | .non, v, h => by simpa [RV] using h
  | .bl _, v, h => by simpa [RV] using h
  | .int _, v, h => by simpa [RV] using h
  | .str _, v, h => by simpa [RV] using h
  | .fn _, v, h => by simpa [RV] using h
  | .tup ds, v, h => by
    rw [RV] at h ⊢
    obtain ⟨a, vs, e, h1, h2⟩ := h
    exact ⟨a, vs, e, g.sqT h1, RVs_growM g hn ds vs h2⟩
  | .lst ds, v, h => by
    rw [RV] at h ⊢
    obtain ⟨a, vs, e, h1, h2, h3⟩ := h
    exact ⟨a, vs, e, g.keep a _ h1 h2.1 h2.2, g.nob hn h1 h2, RVs_growM g hn ds vs h3⟩
  | .dct ks ds, v, h => by
    rw [RV] at h ⊢
    obtain ⟨a, es, e, h1, h2, h3, h4⟩ := h
    exact ⟨a, es, e, g.keep a _ h1 h2.1 h2.2, g.nob hn h1 h2, h3, RVs_growM g hn ds _ h4⟩
  | .ref n, v, h => by
    rw [RV] at h ⊢
    obtain ⟨a, e1, e2⟩ := h
    exact ⟨a, g.get e1, e2⟩
  | .scr ns, v, h => by
    rw [RV] at h ⊢
    obtain ⟨a, e, ⟨h1 | ⟨o, h1⟩, h2⟩ | h1⟩ := h
    · exact ⟨a, e, .inl ⟨.inl (g.keep a _ h1 h2.1 h2.2), g.nob hn h1 h2⟩⟩
    · exact ⟨a, e, .inl ⟨.inr ⟨o, g.keep a _ h1 h2.1 h2.2⟩, g.nob hn h1 h2⟩⟩
    · exact ⟨a, e, .inr h1⟩
theorem RVs_growM {T : Tp} {no : List Addr} {α α' : List Addr} {H H' : Hp} (g : GrowN T.no α α' H H') (hn : ∀ a ∈ no, a ∈ T.no ∨ H a = none) : ∀ (ds : List D) (vs : List V), RVs T α H ds vs → RVs (T.wn no) α' H' ds vs
  | [], vs, h => by simpa [RVs] using h
  | d :: ds, vs, h => by
    rw [RVs] at h ⊢
    obtain ⟨v, r, e, h1, h2⟩ := h
    exact ⟨v, r, e, RV_growM g hn d v h1, RVs_growM g hn ds r h2⟩
end
theorem not_take {T : Tp} {α : List Addr} {a : Addr} {m : Nat} (h : NoBox T α a) : NoBox T (α.take m) a := ⟨fun z => h.1 (List.mem_of_mem_take z), h.2⟩
mutual
theorem RV_take {T : Tp} {α : List Addr} {H : Hp} {m : Nat} : ∀ (d : D) (v : V), refsLt m d = true → RV T α H d v → RV T (α.take m) H d v
  | .non, v, _, h => by simpa [RV] using h
  | .bl _, v, _, h => by simpa [RV] using h
  | .int _, v, _, h => by simpa [RV] using h
  | .str _, v, _, h => by simpa [RV] using h
  | .fn _, v, _, h => by simpa [RV] using h
  | .tup ds, v, f, h => by
    rw [RV] at h ⊢
    obtain ⟨a, vs, e, h1, h2⟩ := h
    exact ⟨a, vs, e, h1, RVs_take ds vs (by simpa [refsLt] using f) h2⟩
  | .lst ds, v, f, h => by
    rw [RV] at h ⊢
    obtain ⟨a, vs, e, h1, h2, h3⟩ := h
    exact ⟨a, vs, e, h1, not_take h2, RVs_take ds vs (by simpa [refsLt] using f) h3⟩
  | .dct ks ds, v, f, h => by
    rw [RV] at h ⊢
    obtain ⟨a, es, e, h1, h2, h3, h4⟩ := h
    exact ⟨a, es, e, h1, not_take h2, h3, RVs_take ds _ (by simp [refsLt] at f; exact f.2) h4⟩
  | .ref n, v, f, h => by
    rw [RV] at h ⊢
    obtain ⟨a, e1, e2⟩ := h
    have hn : n < m := by simpa [refsLt] using f
    exact ⟨a, by rw [List.getElem?_take_of_lt hn]; exact e1, e2⟩
  | .scr ns, v, f, h => by
    rw [RV] at h ⊢
    obtain ⟨a, e, ⟨h1, h2⟩ | h1⟩ := h
    · exact ⟨a, e, .inl ⟨h1, not_take h2⟩⟩
    · exact ⟨a, e, .inr h1⟩
theorem RVs_take {T : Tp} {α : List Addr} {H : Hp} {m : Nat} : ∀ (ds : List D) (vs : List V), refsLts m ds = true → RVs T α H ds vs → RVs T (α.take m) H ds vs
  | [], vs, _, h => by simpa [RVs] using h
  | d :: ds, vs, f, h => by
    rw [RVs] at h ⊢
    simp only [refsLts, Bool.and_eq_true] at f
    obtain ⟨v, r, e, h1, h2⟩ := h
    exact ⟨v, r, e, RV_take d v f.1 h1, RVs_take ds r f.2 h2⟩
end
theorem somes_ne {es : List (Key × V)} : ∀ o ∈ es.map (fun e => some e.1), o ≠ none := by
  intro o ho
  obtain ⟨x, _, rfl⟩ := List.mem_map.mp ho
  simp
theorem keys_refs : ∀ {ks : List D} {l : List (Option Key)} {m : Nat}, ks.map keyD = l → (∀ o ∈ l, o ≠ none) → refsLts m ks = true
  | [], l, m, _, _ => rfl
  | k :: ks, [], m, h, _ => by simp at h
  | k :: ks, o :: l, m, h, n => by
    simp only [List.map_cons, List.cons.injEq] at h
    rw [refsLts, keys_refs h.2 (fun o ho => n o (List.mem_cons_of_mem _ ho)), Bool.and_true]
    have q := n o List.mem_cons_self
    cases k <;> first | rfl | (exfalso; apply q; rw [← h.1]; rfl)
mutual
theorem RV_refs {T : Tp} {α : List Addr} {H : Hp} : ∀ (d : D) (v : V), RV T α H d v → refsLt α.length d = true
  | .non, v, h => rfl
  | .bl _, v, h => rfl
  | .int _, v, h => rfl
  | .str _, v, h => rfl
  | .fn _, v, h => rfl
  | .scr _, v, h => rfl
  | .tup ds, v, h => by
    rw [RV] at h
    obtain ⟨a, vs, e, h1, h2⟩ := h
    rw [refsLt]; exact RVs_refs ds vs h2
  | .lst ds, v, h => by
    rw [RV] at h
    obtain ⟨a, vs, e, h1, h2, h3⟩ := h
    rw [refsLt]; exact RVs_refs ds vs h3
  | .dct ks ds, v, h => by
    rw [RV] at h
    obtain ⟨a, es, e, h1, h2, h3, h4⟩ := h
    rw [refsLt, RVs_refs ds _ h4, keys_refs h3 somes_ne]; rfl
  | .ref n, v, h => by
    rw [RV] at h
    obtain ⟨a, e1, e2⟩ := h
    rw [refsLt]
    exact decide_eq_true (List.getElem?_eq_some_iff.mp e1).1
theorem RVs_refs {T : Tp} {α : List Addr} {H : Hp} : ∀ (ds : List D) (vs : List V), RVs T α H ds vs → refsLts α.length ds = true
  | [], vs, h => rfl
  | d :: ds, vs, h => by
    rw [RVs] at h
    obtain ⟨v, r, e, h1, h2⟩ := h
    rw [refsLts, RV_refs d v h1, RVs_refs ds r h2]; rfl
end
/-- the lists' own: what a box's content is when it is no box any more -/
def AsData (T : Tp) (α : List Addr) (H : Hp) (a : Addr) : D → Prop
  | .lst ds => ∃ vs, H a = some (.lst vs) ∧ RVs T α H ds vs
  | .dct ks ds => ∃ es, H a = some (.dK es) ∧ ks.map keyD = es.map (fun e => some e.1) ∧ RVs T α H ds (es.map (·.2))
  | _ => False
mutual
theorem unbW_ok {T : Tp} {α β : List Addr} {H : Hp} {f : Nat → Option D} (sub : ∀ a, NoBox T α a → NoBox T β a) (hf : ∀ (n : Nat) (a : Addr) (e : D), f n = some e → α[n]? = some a → RV T β H e (.ref a)) :
    ∀ (d e : D) (v : V), unbW f d = some e → RV T α H d v → RV T β H e v
  | .non, e, v, u, h => by simp only [unbW, Option.some.injEq] at u; subst u; simpa [RV] using h
  | .bl _, e, v, u, h => by simp only [unbW, Option.some.injEq] at u; subst u; simpa [RV] using h
  | .int _, e, v, u, h => by simp only [unbW, Option.some.injEq] at u; subst u; simpa [RV] using h
  | .str _, e, v, u, h => by simp only [unbW, Option.some.injEq] at u; subst u; simpa [RV] using h
  | .fn _, e, v, u, h => by simp only [unbW, Option.some.injEq] at u; subst u; simpa [RV] using h
  | .scr _, e, v, u, h => by
    simp only [unbW, Option.some.injEq] at u
    subst u
    rw [RV] at h ⊢
    obtain ⟨a, e, ⟨h1, h2⟩ | h1⟩ := h
    · exact ⟨a, e, .inl ⟨h1, sub a h2⟩⟩
    · exact ⟨a, e, .inr h1⟩
  | .tup ds, e, v, u, h => by
    simp only [unbW, Option.map_eq_some_iff] at u
    obtain ⟨es, u1, rfl⟩ := u
    rw [RV] at h ⊢
    obtain ⟨a, vs, e, h1, h2⟩ := h
    exact ⟨a, vs, e, h1, unbWs_ok sub hf ds es vs u1 h2⟩
  | .lst ds, e, v, u, h => by
    simp only [unbW, Option.map_eq_some_iff] at u
    obtain ⟨es, u1, rfl⟩ := u
    rw [RV] at h ⊢
    obtain ⟨a, vs, e, h1, h2, h3⟩ := h
    exact ⟨a, vs, e, h1, sub a h2, unbWs_ok sub hf ds es vs u1 h3⟩
  | .dct ks ds, e, v, u, h => by
    simp only [unbW, Option.bind_eq_some_iff, Option.map_eq_some_iff] at u
    obtain ⟨ks', u0, es', u1, rfl⟩ := u
    rw [RV] at h ⊢
    obtain ⟨a, es, e, h1, h2, h3, h4⟩ := h
    have ek : ks' = ks := unbWs_keys u0 h3 somes_ne
    subst ek
    exact ⟨a, es, e, h1, sub a h2, h3, unbWs_ok sub hf ds es' _ u1 h4⟩
  | .ref n, e, v, u, h => by
    rw [RV] at h
    obtain ⟨a, e1, e2⟩ := h
    subst e2
    exact hf n a e (by simpa [unbW] using u) e1
theorem unbWs_ok {T : Tp} {α β : List Addr} {H : Hp} {f : Nat → Option D} (sub : ∀ a, NoBox T α a → NoBox T β a) (hf : ∀ (n : Nat) (a : Addr) (e : D), f n = some e → α[n]? = some a → RV T β H e (.ref a)) :
    ∀ (ds es : List D) (vs : List V), unbWs f ds = some es → RVs T α H ds vs → RVs T β H es vs
  | [], es, vs, u, h => by simp only [unbWs, Option.some.injEq] at u; subst u; simpa [RVs] using h
  | d :: ds, es, vs, u, h => by
    simp only [unbWs, Option.bind_eq_some_iff, Option.map_eq_some_iff] at u
    obtain ⟨e, u1, es', u2, rfl⟩ := u
    rw [RVs] at h ⊢
    obtain ⟨v, r, e, h1, h2⟩ := h
    exact ⟨v, r, e, unbW_ok sub hf d _ v u1 h1, unbWs_ok sub hf ds es' r u2 h2⟩
theorem unbWs_keys {f : Nat → Option D} : ∀ {ks ks' : List D} {l : List (Option Key)}, unbWs f ks = some ks' → ks.map keyD = l → (∀ o ∈ l, o ≠ none) → ks' = ks
  | [], ks', l, u, _, _ => by simp only [unbWs, Option.some.injEq] at u; exact u.symm
  | k :: ks, ks', [], u, h, _ => by simp at h
  | k :: ks, ks', o :: l, u, h, n => by
    simp only [unbWs, Option.bind_eq_some_iff, Option.map_eq_some_iff] at u
    obtain ⟨e, u1, es', u2, rfl⟩ := u
    simp only [List.map_cons, List.cons.injEq] at h
    have q := n o List.mem_cons_self
    have r := unbWs_keys u2 h.2 (fun o ho => n o (List.mem_cons_of_mem _ ho))
    subst r
    have ek : e = k := by
      cases k <;> first
        | (simp only [unbW, Option.some.injEq] at u1; exact u1.symm)
        | (exfalso; apply q; rw [← h.1]; rfl)
    rw [ek]
end
theorem unb_ok {T : Tp} {α : List Addr} {H : Hp} {S : Store} {m : Nat} (R : RS T α H S) : ∀ (k : Nat) (d e : D) (v : V), unb S m k d = some e → RV T α H d v → RV T (α.take m) H e v
  | 0, d, e, v, u, h => by
    refine unbW_ok (fun a z => not_take z) (fun n a e f1 f2 => ?_) d e v u h
    by_cases hn : n < m
    · rw [if_pos hn] at f1
      cases f1
      rw [RV]
      exact ⟨a, by rw [List.getElem?_take_of_lt hn]; exact f2, rfl⟩
    · rw [if_neg hn] at f1; cases f1
  | k + 1, d, e, v, u, h => by
    refine unbW_ok (fun a z => not_take z) (fun n a e f1 f2 => ?_) d e v u h
    by_cases hn : n < m
    · rw [if_pos hn] at f1
      cases f1
      rw [RV]
      exact ⟨a, by rw [List.getElem?_take_of_lt hn]; exact f2, rfl⟩
    · rw [if_neg hn] at f1
      obtain ⟨d', g1, g2⟩ := Option.bind_eq_some_iff.mp f1
      have hlt : n < α.length := (List.getElem?_eq_some_iff.mp f2).1
      have na : NoBox T (α.take m) a := by
        refine ⟨fun z => ?_, fun z => (R.no a z).2 (List.mem_of_getElem? f2)⟩
        obtain ⟨j, hj⟩ := List.mem_iff_getElem?.mp z
        have jm : j < m := by
          have := (List.getElem?_eq_some_iff.mp hj).1
          rw [List.length_take] at this
          omega
        rw [List.getElem?_take_of_lt jm] at hj
        have := L2.nd_ix R.nd hj f2
        omega
      have b := R.box n a d' f2 g1
      -- the content as data in α with a no box of β
      have key : ∀ (f : Nat → Option D), (∀ (n : Nat) (a : Addr) (e : D), f n = some e → α[n]? = some a → RV T (α.take m) H e (.ref a)) → unbW f d' = some e → RV T (α.take m) H e (.ref a) := by
        intro f hf u'
        cases d' with
        | lst ds =>
          obtain ⟨vs, q1, q2⟩ := b
          simp only [unbW, Option.map_eq_some_iff] at u'
          obtain ⟨es, u1, rfl⟩ := u'
          rw [RV]
          exact ⟨a, vs, rfl, q1, na, unbWs_ok (fun a z => not_take z) hf ds es vs u1 q2⟩
        | dct ks ds =>
          obtain ⟨es, q1, q2, q3⟩ := b
          simp only [unbW, Option.bind_eq_some_iff, Option.map_eq_some_iff] at u'
          obtain ⟨ks', u0, es', u1, rfl⟩ := u'
          have ek : ks' = ks := unbWs_keys u0 q2 somes_ne
          subst ek
          rw [RV]
          exact ⟨a, es, rfl, q1, na, q2, unbWs_ok (fun a z => not_take z) hf ds es' _ u1 q3⟩
        | _ => exact b.elim
      cases k with
      | zero =>
        refine key _ (fun n a e f1 f2 => ?_) g2
        by_cases hn : n < m
        · rw [if_pos hn] at f1
          cases f1
          rw [RV]
          exact ⟨a, by rw [List.getElem?_take_of_lt hn]; exact f2, rfl⟩
        · rw [if_neg hn] at f1; cases f1
      | succ k =>
        refine key _ (fun n' a' e' f1' f2' => ?_) g2
        have r : RV T α H (.ref n') (.ref a') := by
          rw [RV]
          exact ⟨a', f2', rfl⟩
        exact unb_ok R (k + 1) (.ref n') e' _ (by
          show unbW _ (.ref n') = some e'
          rw [unbW]
          exact f1') r
end Vm
/-! Vm 5: what a run tells of the hand layer's readings. -/
namespace Vm
open PySem L2

def WF (k : Nat) (S : Store) : Prop := ∀ (n : Nat) (d : D), n < k → S[n]? = some d → refsLt k d = true
structure Nxt (T : Tp) (m : Nat) (α : List Addr) (S : Store) (H : Hp) (α' : List Addr) (S' : Store) (H' : Hp) : Prop where
  g : Grow α α' H H'
  rs : RS T α' H' S'
  wf : ∀ k, k ≤ m → WF k S → WF k S'
theorem Nxt.refl {T : Tp} {m : Nat} {α : List Addr} {S : Store} {H : Hp} (rs : RS T α H S) : Nxt T m α S H α S H := ⟨.refl rs.bx, rs, fun _ _ h => h⟩
theorem Nxt.trans {T : Tp} {m m' : Nat} {α α1 α2 : List Addr} {S S1 S2 : Store} {H H1 H2 : Hp} (hm : m ≤ m') (a : Nxt T m α S H α1 S1 H1) (b : Nxt T m' α1 S1 H1 α2 S2 H2) : Nxt T m α S H α2 S2 H2 :=
  ⟨a.g.trans b.g, b.rs, fun k hk h => b.wf k (Nat.le_trans hk hm) (a.wf k hk h)⟩
/-- the frame's slots -/
structure RF (T : Tp) (α : List Addr) (H : Hp) (fr : Fr) (σ : L2.St) : Prop where
  len : fr.length = σ.length
  at_ : ∀ (i : Nat) (d : D), getFr fr i = some d → ∃ v, σ[i]? = some (some v) ∧ RV T α H d v
theorem RF.grow {T : Tp} {α α' : List Addr} {H H' : Hp} {fr : Fr} {σ : L2.St} (r : RF T α H fr σ) (b : Bx α H) (g : Grow α α' H H') : RF T α' H' fr σ :=
  ⟨r.len, fun i d e => let ⟨v, h1, h2⟩ := r.at_ i d e; ⟨v, h1, RV_grow b g d v h2⟩⟩
theorem RF.nxt {T : Tp} {m : Nat} {α α' : List Addr} {S S' : Store} {H H' : Hp} {fr : Fr} {σ : L2.St} (r : RF T α H fr σ) (rs : RS T α H S) (n : Nxt T m α S H α' S' H') : RF T α' H' fr σ := r.grow rs.bx n.g
/-- an error's attributes -/
def ExV (T : Tp) (α : List Addr) (H : Hp) (c : Nat) (fs : List D) (cls : Value) (dd : Option Addr) : Prop :=
  cls = .ref (T.ca c) ∧ (fs ≠ [] → ∃ (x : Addr) (xs : List (Str × V)), dd = some x ∧ H x = some (.xd xs) ∧ ∀ (k : Nat) (d : D), fs[k]? = some d → ∃ nm v, (T.cf c)[k]? = some nm ∧ xs.lookup nm = some v ∧ RV T α H d v)
abbrev Rel (β γ : Type) := List Addr → Hp → β → γ → Prop
section
variable (T : Tp) (m : Nat) (W : WX)
/-- what is wanted behind a run -/
def PostR {β γ : Type} (R : Rel β γ) (α : List Addr) (S : Store) (H : Hp) (σ : L2.St) (Q : γ → Hp → Prop) : Rs β → Prop
  | .ok b S' => ∀ α' H' g, Nxt T m α S H α' S' H' → R α' H' b g → Q g H'
  | .ex c fs S' => ∀ α' H' cls dd, Nxt T m α S H α' S' H' → ExV T α' H' c fs cls dd → W cls dd σ H'
def tM {β γ : Type} (x : Fr → M β) (R : Rel β γ) : L2.St → Hp → (γ → Hp → Prop) → Prop := fun σ H Q =>
  ∃ α S fr r, m ≤ S.length ∧ RS T α H S ∧ RF T α H fr σ ∧ x fr S = some r ∧ PostR T m W R α S H σ Q r
end
abbrev rV (T : Tp) : Rel D V := fun α H d v => RV T α H d v
abbrev rVs (T : Tp) : Rel (List D) (List V) := fun α H d v => RVs T α H d v
abbrev rEq {β : Type} : Rel β β := fun _ _ b g => g = b
section
variable {T : Tp} {m : Nat} {W : WX} {α : List Addr} {S : Store} {H : Hp} {σ : L2.St} {fr : Fr}
theorem PostR.nxt {β γ : Type} {R : Rel β γ} {Q : γ → Hp → Prop} {r : Rs β} {α1 : List Addr} {S1 : Store} {H1 : Hp} (p : PostR T m W R α S H σ Q r) (n : Nxt T m α S H α1 S1 H1) : PostR T m W R α1 S1 H1 σ Q r := by
  cases r with
  | ok b S' => exact fun α' H' g n' q => p α' H' g (n.trans (Nat.le_refl _) n') q
  | ex c fs S' => exact fun α' H' cls dd n' q => p α' H' cls dd (n.trans (Nat.le_refl _) n') q
theorem seqM {β δ γ γ' : Type} {x : M β} {f : β → M δ} {R : Rel β γ'} {R' : Rel δ γ} {Q : γ → Hp → Prop} {P : γ' → Hp → Prop} {r : Rs δ} (rs : RS T α H S) (rf : RF T α H fr σ) (e : bnd (x S) f = some r) (post : PostR T m W R' α S H σ Q r)
    (k : ∀ b S1 α1 H1 g, x S = some (.ok b S1) → Nxt T m α S H α1 S1 H1 → R α1 H1 b g → RF T α1 H1 fr σ → f b S1 = some r → PostR T m W R' α1 S1 H1 σ Q r → P g H1) :
    ∃ r1, x S = some r1 ∧ PostR T m W R α S H σ P r1 := by
  cases hx : x S with
  | none => rw [hx] at e; cases e
  | some r1 =>
    refine ⟨r1, rfl, ?_⟩
    rw [hx] at e
    cases r1 with
    | ok b S1 => exact fun α1 H1 g n q => k b S1 α1 H1 g hx n q (rf.nxt rs n) e (post.nxt n)
    | ex c fs S1 =>
      rw [bnd_ex] at e
      cases e
      exact post
/-- a run that has come to its end -/
def Done {β γ : Type} (T : Tp) (m : Nat) (R : Rel β γ) (α : List Addr) (S : Store) (H : Hp) (x : M β) (Q : γ → Hp → Prop) : Prop :=
  ∃ b S', x S = some (.ok b S') ∧ ∀ α' H' g, Nxt T m α S H α' S' H' → R α' H' b g → Q g H'
theorem done_of {β γ : Type} {R : Rel β γ} {x : M β} {Q : γ → Hp → Prop} {r : Rs β} (h : ∀ c fs S', x S ≠ some (.ex c fs S')) (e : x S = some r) (p : PostR T m W R α S H σ Q r) : Done T m R α S H x Q := by
  cases r with
  | ok b S' => exact ⟨b, S', e, p⟩
  | ex c fs S' => exact absurd e (h c fs S')
theorem Done.ret {Q : VK} {d : D} {v : V} (rs : RS T α H S) (h : Done T m (rV T) α S H (M.ret d) Q) (r : RV T α H d v) : Q v H := by
  obtain ⟨b, S', e, k⟩ := h
  cases e
  exact k α H v (.refl rs) r
theorem BoxAt_grow {α' : List Addr} {H' : Hp} (b : Bx α H) (g : Grow α α' H H') {a : Addr} (hk : H' a = H a) : ∀ {d : D}, BoxAt T α H a d → BoxAt T α' H' a d
  | .lst ds, h => by
    obtain ⟨vs, h1, h2⟩ := h
    exact ⟨vs, hk.trans h1, RVs_grow b g ds vs h2⟩
  | .dct ks ds, h => by
    obtain ⟨vs, h1, h2, h3⟩ := h
    exact ⟨vs, hk.trans h1, h2, RVs_grow b g ds _ h3⟩
  | .non, h => h.elim
  | .bl _, h => h.elim
  | .int _, h => h.elim
  | .str _, h => h.elim
  | .tup _, h => h.elim
  | .ref _, h => h.elim
  | .scr _, h => h.elim
  | .fn _, h => h.elim
theorem RS.no_keep {H' : Hp} {α' : List Addr} (rs : RS T α H S) (g : Grow α α' H H') : ∀ a ∈ T.no, (∃ o, H' a = some o) ∧ a ∉ α' := fun a ha => by
  obtain ⟨⟨o, h⟩, n⟩ := rs.no a ha
  exact ⟨⟨o, g.keep a o h n⟩, g.noin h n⟩
/-- a new object, no box -/
theorem grow_upd {o : HO} {p : Addr} (b : Bx α H) (hp : H p = none) : Grow α α H (upd H p o) := by
  have ne : ∀ a o', H a = some o' → a ≠ p := fun a o' h => ne_of_none h hp
  refine ⟨⟨[], by simp, by simp⟩, fun a o' h _ => ?_, fun a ha => ?_⟩
  · rw [upd_ne (ne a o' h)]; exact h
  · obtain ⟨o', h, m⟩ := b a ha
    exact ⟨o', by rw [upd_ne (ne a o' h)]; exact h, m⟩
theorem nxt_upd {o : HO} {p : Addr} (rs : RS T α H S) (hp : H p = none) : Nxt T m α S H α S (upd H p o) := by
  have g := grow_upd (o := o) rs.bx hp
  refine ⟨g, ⟨rs.len, rs.nd, fun n a d h1 h2 => ?_, rs.no_keep g⟩, fun _ _ h => h⟩
  obtain ⟨o', h', _⟩ := rs.bx a (List.mem_of_getElem? h1)
  exact BoxAt_grow rs.bx g (by rw [upd_ne (ne_of_none h' hp)]) (rs.box n a d h1 h2)
/-- what is laid, and its data -/
def Laid (T : Tp) (α : List Addr) (H : Hp) : HO → D → Prop
  | .lst vs, .lst ds => RVs T α H ds vs
  | .dK es, .dct ks ds => ks.map keyD = es.map (fun e => some e.1) ∧ RVs T α H ds (es.map (·.2))
  | _, _ => False
theorem Laid.mut {o : HO} {d : D} (l : Laid T α H o d) : MutO o := by
  cases o <;> cases d <;> first | trivial | exact l.elim
theorem Laid.box {α' : List Addr} {H' : Hp} {o : HO} {d : D} {p : Addr} (l : Laid T α H o d) (b : Bx α H) (g : Grow α α' H H') (hp : H' p = some o) : BoxAt T α' H' p d := by
  cases o with
  | lst vs => cases d with
    | lst ds => exact ⟨vs, hp, RVs_grow b g ds vs l⟩
    | _ => exact l.elim
  | dK es => cases d with
    | dct ks ds => exact ⟨es, hp, l.1, RVs_grow b g ds _ l.2⟩
    | _ => exact l.elim
  | _ => cases d <;> exact l.elim
/-- as plain data -/
theorem Laid.data {H' : Hp} {o : HO} {d : D} {p : Addr} (l : Laid T α H o d) (b : Bx α H) (g : Grow α α H H') (hp : H' p = some o) (np : NoBox T α p) : RV T α H' d (.ref p) := by
  cases o with
  | lst vs => cases d with
    | lst ds => rw [RV]; exact ⟨p, vs, rfl, hp, np, RVs_grow b g ds vs l⟩
    | _ => exact l.elim
  | dK es => cases d with
    | dct ks ds => rw [RV]; exact ⟨p, es, rfl, hp, np, l.1, RVs_grow b g ds _ l.2⟩
    | _ => exact l.elim
  | _ => cases d <;> exact l.elim
theorem Laid.refs {o : HO} {d : D} (l : Laid T α H o d) : refsLt α.length d = true := by
  cases o with
  | lst vs => cases d with
    | lst ds => rw [refsLt]; exact RVs_refs ds vs l
    | _ => exact l.elim
  | dK es => cases d with
    | dct ks ds => rw [refsLt, RVs_refs ds _ l.2, keys_refs l.1 somes_ne]; rfl
    | _ => exact l.elim
  | _ => cases d <;> exact l.elim
theorem RS.free (rs : RS T α H S) {p : Addr} (hp : H p = none) : p ∉ α := fun z => by
  obtain ⟨o', h', _⟩ := rs.bx p z
  rw [hp] at h'; cases h'
theorem RS.freeN (rs : RS T α H S) {p : Addr} (hp : H p = none) : NoBox T α p := ⟨rs.free hp, fun z => by
  obtain ⟨⟨o, h⟩, _⟩ := rs.no p z
  rw [hp] at h; cases h⟩
/-- a new list, a box -/
theorem nxt_box {p : Addr} {d : D} {o : HO} (hm : m ≤ S.length) (rs : RS T α H S) (hp : H p = none) (l : Laid T α H o d) : Nxt T m α S H (α ++ [p]) (S ++ [d]) (upd H p o) := by
  have g0 := grow_upd (o := o) rs.bx hp
  have g : Grow α (α ++ [p]) H (upd H p o) := by
    refine ⟨⟨[p], rfl, fun a ha => ?_⟩, g0.keep, fun a ha => ?_⟩
    · obtain rfl : a = p := by simpa using ha
      exact hp
    · rcases List.mem_append.mp ha with z | z
      · exact g0.bx a z
      · obtain rfl : a = p := by simpa using z
        exact ⟨o, upd_same, l.mut⟩
  refine ⟨g, ⟨by simp [rs.len], ?_, fun n a e h1 h2 => ?_, rs.no_keep g⟩, fun k hk h n e hn he => ?_⟩
  · rw [List.nodup_append]
    refine ⟨rs.nd, by simp, fun a ha b hb' => ?_⟩
    obtain rfl : b = p := by simpa using hb'
    exact fun z => rs.free hp (z ▸ ha)
  · by_cases hn : n < α.length
    · rw [List.getElem?_append_left hn] at h1
      rw [List.getElem?_append_left (by rw [← rs.len]; exact hn)] at h2
      obtain ⟨o', h', _⟩ := rs.bx a (List.mem_of_getElem? h1)
      exact BoxAt_grow rs.bx g (by rw [upd_ne (ne_of_none h' hp)]) (rs.box n a e h1 h2)
    · have hl : n < (α ++ [p]).length := (List.getElem?_eq_some_iff.mp h1).1
      have : n = α.length := by simp at hl; omega
      subst this
      simp at h1
      rw [rs.len] at h2
      simp at h2
      subst h1 h2
      exact l.box rs.bx g upd_same
  · have hn' : n < S.length := by omega
    rw [List.getElem?_append_left hn'] at he
    exact h n e hn he
theorem Nxt.len {α' : List Addr} {S' : Store} {H' : Hp} (rs : RS T α H S) (n : Nxt T m α S H α' S' H') : S.length ≤ S'.length := by
  obtain ⟨β, e, _⟩ := n.g.pre
  rw [← rs.len, ← n.rs.len, e, List.length_append]
  omega
/-- a new list -/
theorem Done.mkL {Q : VK} {ds : List D} {vs : List V} {bx : Bool} {p : Addr} (hm : m ≤ S.length) (rs : RS T α H S) (h : Done T m (rV T) α S H (mkL bx ds) Q) (r : RVs T α H ds vs) (hp : H p = none) : Q (.ref p) (upd H p (.lst vs)) := by
  obtain ⟨b, S', e, k⟩ := h
  have l : Laid T α H (.lst vs) (.lst ds) := r
  cases bx with
  | true =>
    simp only [Vm.mkL, if_true, Option.some.injEq, Rs.ok.injEq] at e
    obtain ⟨rfl, rfl⟩ := e
    refine k _ _ _ (nxt_box hm rs hp l) ?_
    show RV _ _ _ _ _
    rw [RV]
    exact ⟨p, by rw [← rs.len]; simp, rfl⟩
  | false =>
    simp only [Vm.mkL, Bool.false_eq_true, if_false, Option.some.injEq, Rs.ok.injEq] at e
    obtain ⟨rfl, rfl⟩ := e
    exact k _ _ _ (nxt_upd rs hp) (l.data rs.bx (grow_upd rs.bx hp) upd_same (rs.freeN hp))
/-- a new dict -/
theorem Done.mkK {Q : VK} {ks ds : List D} {es : List (Key × V)} {bx : Bool} {p : Addr} (hm : m ≤ S.length) (rs : RS T α H S) (h : Done T m (rV T) α S H (mkK bx ks ds) Q) (hk : ks.map keyD = es.map (fun e => some e.1)) (r : RVs T α H ds (es.map (·.2))) (hp : H p = none) : Q (.ref p) (upd H p (.dK es)) := by
  obtain ⟨b, S', e, k⟩ := h
  have l : Laid T α H (.dK es) (.dct ks ds) := ⟨hk, r⟩
  cases bx with
  | true =>
    simp only [Vm.mkK, if_true, Option.some.injEq, Rs.ok.injEq] at e
    obtain ⟨rfl, rfl⟩ := e
    refine k _ _ _ (nxt_box hm rs hp l) ?_
    show RV _ _ _ _ _
    rw [RV]
    exact ⟨p, by rw [← rs.len]; simp, rfl⟩
  | false =>
    simp only [Vm.mkK, Bool.false_eq_true, if_false, Option.some.injEq, Rs.ok.injEq] at e
    obtain ⟨rfl, rfl⟩ := e
    exact k _ _ _ (nxt_upd rs hp) (l.data rs.bx (grow_upd rs.bx hp) upd_same (rs.freeN hp))
/-- a new tuple -/
theorem RV_tup {ds : List D} {vs : List V} {p : Addr} (rs : RS T α H S) (r : RVs T α H ds vs) (hp : H p = none) : RV T α (upd H p (.tup vs)) (.tup ds) (.ref p) := by
  rw [RV]
  exact ⟨p, vs, rfl, .of upd_same, RVs_grow rs.bx (grow_upd rs.bx hp) ds vs r⟩
theorem Done.tup {Q : VK} {ds : List D} {vs : List V} {p : Addr} (rs : RS T α H S) (h : Done T m (rV T) α S H (M.ret (.tup ds)) Q) (r : RVs T α H ds vs) (hp : H p = none) : Q (.ref p) (upd H p (.tup vs)) := by
  obtain ⟨b, S', e, k⟩ := h
  cases e
  exact k _ _ _ (nxt_upd rs hp) (RV_tup rs r hp)
end
end Vm
/-! Vm 6: operators and comparisons by values. -/
namespace Vm
open PySem L2

/-- the context fits the law's top -/
structure XT (T : Tp) (X : Cx) : Prop where
  K : X.K = T.K
  mg : X.mg = T.mg
  calm : X.calm = true
  nd : X.N.Nodup
  un : X.A.units + 199 < cLine
section
variable {T : Tp} {X : Cx} {m : Nat} {α : List Addr} {S : Store} {H : Hp}
theorem lstOf_ok {d : D} {v : V} {ds : List D} (rs : RS T α H S) (r : RV T α H d v) (e : lstOf S d = some ds) : ∃ p vs, v = .ref p ∧ H p = some (.lst vs) ∧ RVs T α H ds vs := by
  unfold lstOf at e
  split at e
  · cases e
    rw [RV] at r
    obtain ⟨a, vs, h1, h2, _, h3⟩ := r
    exact ⟨a, vs, h1, h2, h3⟩
  · rename_i n
    split at e
    · rename_i ds' h
      cases e
      rw [RV] at r
      obtain ⟨a, h1, h2⟩ := r
      obtain ⟨vs, h3, h4⟩ := rs.box n a _ h1 h
      exact ⟨a, vs, h2, h3, h4⟩
    · cases e
  · cases e
theorem RVs_ints {T : Tp} {α : List Addr} {H : Hp} : ∀ ns : List Int, RVs T α H (ns.map .int) (ns.map V.int)
  | [] => RVs_nil
  | n :: ns => RVs_cons (by rw [RV]) (RVs_ints ns)
theorem seqOf_ok {d : D} {v : V} {ds : List D} (rs : RS T α H S) (r : RV T α H d v) (e : seqOf S d = some ds) : ∃ p vs, v = .ref p ∧ (SqL T.K H p vs ∨ SqT T.K H p vs) ∧ RVs T α H ds vs := by
  unfold seqOf at e
  split at e
  · cases e
    rw [RV] at r
    obtain ⟨a, vs, h1, h2, _, h3⟩ := r
    exact ⟨a, vs, h1, .inl (.of h2), h3⟩
  · cases e
    rw [RV] at r
    obtain ⟨a, vs, h1, h2, h3⟩ := r
    exact ⟨a, vs, h1, .inr h2, h3⟩
  · rename_i n
    split at e
    · rename_i ds' h
      cases e
      rw [RV] at r
      obtain ⟨a, h1, h2⟩ := r
      obtain ⟨vs, h3, h4⟩ := rs.box n a _ h1 h
      exact ⟨a, vs, h2, .inl (.of h3), h4⟩
    · cases e
  · rename_i ns
    cases e
    rw [RV] at r
    obtain ⟨a, h1, h2⟩ := r
    refine ⟨a, _, h1, .inl ?_, RVs_ints ns⟩
    rcases h2 with ⟨h2, _⟩ | h2
    · exact .inl h2
    · exact .inr h2
  · cases e
theorem fits_ok {n : Nat} (h : fits n = true) : n ≤ 1000000 := of_decide_eq_true h
theorem fits_line {n : Nat} (h : fits n = true) : n ≤ sizeLine := by
  have := fits_ok h
  have e : sizeLine = 16777216 := sizeLine_eq
  omega

/-! ### operators -/
theorem int_op {op : Operator} {i j k : Int} (e : binI op i j = some k) {pins : List (Addr × Obj)} {s : Shared} {σ : L2.St} {v u : Value} {Q : VK} (I : Inv X pins σ H s) (rx : RelV (.int i) v) (ry : RelV (.int j) u) (q : Q (.int k) H) :
    wpAny (model X.prog X.w) X.A (binaryOp op v u) (EP X pins σ Q) X.xe s := by
  cases op <;> simp only [binI, reduceCtorEq] at e
  case Add => cases e; exact op_add pins s σ H _ _ v u Q I rx ry ⟨i, j, rfl, rfl, q⟩
  case Sub => cases e; exact op_sub pins s σ H _ _ v u Q I rx ry ⟨i, j, rfl, rfl, q⟩
  case Mult =>
    split at e
    · rename_i h
      cases e
      refine op_mul pins s σ H _ _ v u Q I rx ry ⟨i, j, rfl, rfl, ?_, q⟩
      unfold cmulB at h
      simp only [Bool.or_eq_true, Bool.and_eq_true, decide_eq_true_eq] at h
      exact h
    · cases e
  case Mod =>
    split at e
    · cases e
    · rename_i h
      cases e
      exact op_modN pins s σ H _ _ v u Q I rx ry ⟨i, j, rfl, rfl, h, q⟩
  case Pow =>
    split at e
    · rename_i h
      cases e
      exact op_pow pins s σ H _ _ v u Q I rx ry ⟨i, j, rfl, rfl, h, q⟩
    · cases e
  case LShift =>
    split at e
    · rename_i h
      cases e
      exact op_shl pins s σ H _ _ v u Q I rx ry ⟨i, j, rfl, rfl, h, q⟩
    · cases e
  case RShift =>
    split at e
    · rename_i h
      cases e
      exact op_shr pins s σ H _ _ v u Q I rx ry ⟨i, j, rfl, rfl, h, q⟩
    · cases e
  case BitOr => cases e; exact op_or pins s σ H _ _ v u Q I rx ry ⟨i, j, rfl, rfl, q⟩
  case BitXor => cases e; exact op_xor pins s σ H _ _ v u Q I rx ry ⟨i, j, rfl, rfl, q⟩
  case BitAnd => cases e; exact op_and pins s σ H _ _ v u Q I rx ry ⟨i, j, rfl, rfl, q⟩
  case FloorDiv =>
    split at e
    · cases e
    · rename_i h
      cases e
      refine op_fdivN pins s σ H _ _ v u Q I rx ry ⟨i, j, rfl, rfl, ?_, q⟩
      unfold CDivN
      constructor
      · exact fun z => h (.inl z)
      · exact Decidable.of_not_not fun z => h (.inr z)
/-- a tuple once: the same object -/
theorem tuple_mul1 (l : Addr) (items : Array Value) (n : Nat) (dd : Option Addr) (sl : Array (Option Value)) (u : Tok) :
    Meets (Builtin.«tuple.__mul__» ⟨[.ref l, .int 1 u], []⟩) (fun _ R s => s.heap.get? l = some { cls := .type "tuple", dict := dd, data := .seq items n, slots := sl } ∧ R (.ok (.ret (.ref l))) s) :=
  .of_wp fun prog w A R s h => by
    obtain ⟨hp, g, d, tk, os⟩ := s
    obtain ⟨hl, h⟩ := h
    have f1 := AutoSeq1.idx_int
    wp_walk using wpAny_loadPart' hl
    exact ⟨_, rfl, h⟩
theorem op_rep1 : OpR X (binaryOp .Mult) (fun x y H Q => ∃ l xs, x = .ref l ∧ y = .int 1 ∧ SqT X.K H l xs ∧ Q (.ref l) H) := by
  intro pins s σ H x y v u Q I rx ry h
  obtain ⟨l, xs, rfl, rfl, hT, q⟩ := h
  cases rx
  obtain ⟨t, rfl⟩ := ry
  obtain ⟨its, r, ⟨⟨cls, dd, data, sl⟩, ho, hc, n, hd⟩, hs⟩ := I.tuple hT
  simp only at hc hd
  subst hc hd
  refine wpAny_binaryOp_repeat_ref (T := "tuple") (U := "int") (by decide) ⟨_, ho, rfl⟩ (fun s' => typeIs_int s' 1 t) noFill_tuple_mul F.fills_int_mul F.slot_int_rmul repeat_tuple F.slot_int_index.lookup ?_
  refine call_meets F.slot_int_rmul (typeIs_int s 1 t) F.entry_int_rmul (F.args_int_rmul_2 _ _) (int_rmul_tuple 1 t l its.toArray n dd sl) ⟨ho, rfl, ⟨_, ho, rfl⟩, ?_⟩
  exact call_meets F.slot_tuple_mul ⟨_, ho, rfl⟩ F.entry_tuple_mul (F.args_tuple_mul_2 _ _) (tuple_mul1 l its.toArray n dd sl t) ⟨ho, ⟨.ref l, H, I, rfl, q⟩⟩
/-- what an operator may meet -/
inductive BinC (S : Store) : Operator → D → D → Ou → Prop
  | cI {op i j k} (h : binI op i j = some k) : BinC S op (.int i) (.int j) (.v (.int k))
  | cS {x y} (h : fits (x.length + y.length) = true) : BinC S .Add (.str x) (.str y) (.v (.str (x ++ y)))
  | tups {xs ys} (h : fits (xs.length + ys.length) = true) : BinC S .Add (.tup xs) (.tup ys) (.v (.tup (xs ++ ys)))
  | tup1 {xs} : BinC S .Mult (.tup xs) (.int 1) (.v (.tup xs))
  | tupN {xs k} (h : xs ≠ [] ∧ 2 ≤ k ∧ k ≤ 1000 ∧ xs.length ≤ 1000) : BinC S .Mult (.tup xs) (.int k) (.v (.tup (List.replicate k.toNat xs).flatten))
  | lstN {a xs k} (h1 : lstOf S a = some xs) (h : 0 ≤ k ∧ k ≤ 1000000 ∧ fits (xs.length * k.toNat) = true) : BinC S .Mult a (.int k) (.l (List.replicate k.toNat xs).flatten)
  | lsts {a b xs ys} (h1 : lstOf S a = some xs) (h2 : lstOf S b = some ys) (h : fits (xs.length + ys.length) = true) : BinC S .Add a b (.l (xs ++ ys))
theorem binD_cases {op : Operator} {a b : D} {o : Ou} (e : binD S op a b = some o) : BinC S op a b o := by
  unfold binD at e
  split at e
  · obtain ⟨k, h, rfl⟩ := Option.map_eq_some_iff.mp e
    exact .cI h
  · split at e
    · rename_i h
      obtain ⟨rfl, h⟩ := h
      cases e
      exact .cS h
    · cases e
  · split at e
    · rename_i h
      obtain ⟨rfl, h⟩ := h
      cases e
      exact .tups h
    · cases e
  · split at e
    · rename_i h
      obtain ⟨rfl, rfl⟩ := h
      cases e
      exact .tup1
    split at e
    · rename_i h
      obtain ⟨rfl, h⟩ := h
      cases e
      exact .tupN h
    · cases e
  · split at e
    · rename_i h
      subst h
      obtain ⟨xs, h1, e⟩ := Option.bind_eq_some_iff.mp e
      split at e
      · rename_i h
        cases e
        exact .lstN h1 h
      · cases e
    · cases e
  · split at e
    · rename_i h
      subst h
      obtain ⟨xs, h1, e⟩ := Option.bind_eq_some_iff.mp e
      obtain ⟨ys, h2, e⟩ := Option.bind_eq_some_iff.mp e
      split at e
      · rename_i h
        cases e
        exact .lsts h1 h2 h
      · cases e
    · cases e
def rBin (T : Tp) (m : Nat) (op : Operator) (bx : Bool) : R2 := fun x y H Q => ∃ α S d1 d2 o, m ≤ S.length ∧ RS T α H S ∧ RV T α H d1 x ∧ RV T α H d2 y ∧ binD S op d1 d2 = some o ∧ Done T m (rV T) α S H (mkO bx o) Q
theorem RVs_rep {ds : List D} {vs : List V} (h : RVs T α H ds vs) : ∀ k : Nat, RVs T α H (List.replicate k ds).flatten (List.replicate k vs).flatten
  | 0 => RVs_nil
  | k + 1 => by
    simp only [List.replicate_succ, List.flatten_cons]
    exact RVs_app h (RVs_rep h k)
theorem op_bin (x : XT T X) {op : Operator} {bx : Bool} : OpR X (binaryOp op) (rBin T m op bx) := by
  intro pins s σ H x1 y1 v u Q I rx ry h
  obtain ⟨α, S, d1, d2, o, hm, rs, r1, r2, e, q⟩ := h
  cases binD_cases e with
  | cI h =>
    rw [RV] at r1 r2
    subst r1 r2
    exact int_op h I rx ry (q.ret rs (by rw [RV]))
  | cS h =>
    rw [RV] at r1 r2
    subst r1 r2
    exact op_add_str pins s σ H _ _ v u Q I rx ry ⟨_, _, rfl, rfl, fits_line h, q.ret rs (by rw [RV])⟩
  | @tups xs ys h =>
    have r1' := r1
    have r2' := r2
    rw [RV] at r1 r2
    obtain ⟨a, vs, rfl, h1, h2⟩ := r1
    obtain ⟨b, ws, rfl, h3, h4⟩ := r2
    have l1 := RVs_len h2
    have l2 := RVs_len h4
    refine op_catA pins s σ H _ _ v u Q I rx ry ⟨a, b, vs, ws, rfl, rfl, by rw [x.K]; exact h1, by rw [x.K]; exact h3, by rw [← l1, ← l2]; exact fits_line h, fun z => ?_, fun z1 z2 => ?_, fun _ _ p hp => ?_⟩
    · have : xs = [] := by cases xs; rfl; subst z; simp at l1
      subst this
      exact q.ret rs r2'
    · have : ys = [] := by cases ys; rfl; subst z2; simp at l2
      subst this
      exact q.ret rs (by rw [List.append_nil]; exact r1')
    · exact q.tup rs (RVs_app h2 h4) hp
  | tup1 =>
    have r1' := r1
    rw [RV] at r1
    rw [RV] at r2
    obtain ⟨a, vs, rfl, h1, h2⟩ := r1
    subst r2
    exact op_rep1 pins s σ H _ _ v u Q I rx ry ⟨a, vs, rfl, rfl, by rw [x.K]; exact h1, q.ret rs r1'⟩
  | @tupN xs k h =>
    rw [RV] at r1
    rw [RV] at r2
    obtain ⟨a, vs, rfl, h1, h2⟩ := r1
    subst r2
    have l1 := RVs_len h2
    refine op_repT pins s σ H _ _ v u Q I rx ry ⟨a, k, vs, rfl, rfl, by rw [x.K]; exact h1, fun z => h.1 (by cases xs; rfl; subst z; simp at l1), h.2.1, h.2.2.1, by rw [← l1]; exact h.2.2.2, fun p hp => ?_⟩
    exact q.tup rs (RVs_rep h2 _) hp
  | @lstN a xs k h1 h =>
    rw [RV] at r2
    subst r2
    obtain ⟨p, vs, rfl, h3, h4⟩ := lstOf_ok rs r1 h1
    have l1 := RVs_len h4
    refine op_rep pins s σ H _ _ v u Q I rx ry ⟨p, k, vs, rfl, rfl, h3, by omega, by omega, by rw [← l1]; exact fits_line h.2.2, fun p hp => ?_⟩
    exact q.mkL hm rs (RVs_rep h4 _) hp
  | lsts h1 h2 h =>
    obtain ⟨p, vs, rfl, h3, h4⟩ := lstOf_ok rs r1 h1
    obtain ⟨p', vs', rfl, h3', h4'⟩ := lstOf_ok rs r2 h2
    refine op_cat pins s σ H _ _ v u Q I rx ry ⟨p, p', vs, vs', rfl, rfl, h3, h3', by rw [← RVs_len h4, ← RVs_len h4']; exact fits_line h, fun p hp => ?_⟩
    exact q.mkL hm rs (RVs_app h4 h4') hp

/-! ### comparisons -/
mutual
def toP : D → PyData
  | .bl b => .bool b
  | .int i => .int i
  | .str x => .str x
  | .tup ds => .tuple (toPs ds)
  | .lst ds => .list (toPs ds)
  | _ => .none
def toPs : List D → List PyData
  | [] => []
  | d :: ds => toP d :: toPs ds
end
mutual
theorem okD_ok : ∀ (d : D) (n : Nat), okD n d = true → (toP d).canLay0 = true ∧ (toP d).depth ≤ n
  | .non, n, _ => by simp [toP, PyData.canLay0, PyData.depth]
  | .bl _, n, _ => by simp [toP, PyData.canLay0, PyData.depth]
  | .int _, n, _ => by simp [toP, PyData.canLay0, PyData.depth]
  | .str x, n, h => by simpa [toP, PyData.canLay0, PyData.depth, okD] using h
  | .tup ds, 0, h => by simp [okD] at h
  | .lst ds, 0, h => by simp [okD] at h
  | .tup ds, n + 1, h => by
    have q := okDs_ok ds n (by simpa [okD] using h)
    simp only [toP, PyData.canLay0, PyData.depth]
    exact ⟨q.1, by omega⟩
  | .lst ds, n + 1, h => by
    have q := okDs_ok ds n (by simpa [okD] using h)
    simp only [toP, PyData.canLay0, PyData.depth]
    exact ⟨q.1, by omega⟩
  | .dct _ _, n, h => by cases n <;> simp [okD] at h
  | .ref _, n, h => by cases n <;> simp [okD] at h
  | .scr _, n, h => by cases n <;> simp [okD] at h
  | .fn _, n, h => by cases n <;> simp [okD] at h
theorem okDs_ok : ∀ (ds : List D) (n : Nat), (∀ d ∈ ds, okD n d = true) → PyData.canLayAll0 (toPs ds) = true ∧ PyData.depthAll (toPs ds) ≤ n
  | [], n, _ => by simp [toPs, PyData.canLayAll0, PyData.depthAll]
  | d :: ds, n, h => by
    have q := okD_ok d n (h d List.mem_cons_self)
    have r := okDs_ok ds n fun d hd => h d (List.mem_cons_of_mem _ hd)
    simp only [toPs, PyData.canLayAll0, PyData.depthAll, Bool.and_eq_true]
    exact ⟨⟨q.1, r.1⟩, Nat.max_le.mpr ⟨q.2, r.2⟩⟩
end
mutual
theorem eqv_toP : ∀ (d e : D) (n : Nat), okD n d = true → okD n e = true → PyData.eqv (toP d) (toP e) = eqD d e
  | .non, e, n, _, h => by cases e <;> cases n <;> simp_all [okD, toP, PyData.eqv, eqD]
  | .bl _, e, n, _, h => by cases e <;> cases n <;> simp_all [okD, toP, PyData.eqv, eqD]
  | .int _, e, n, _, h => by cases e <;> cases n <;> simp_all [okD, toP, PyData.eqv, eqD]
  | .str _, e, n, _, h => by cases e <;> cases n <;> simp_all [okD, toP, PyData.eqv, eqD]
  | .tup ds, e, 0, h, _ => by simp [okD] at h
  | .lst ds, e, 0, h, _ => by simp [okD] at h
  | .tup ds, e, n + 1, h, g => by
    cases e with
    | tup es =>
      simp only [toP, PyData.eqv, eqD]
      exact eqvs_toP ds es n (by simpa [okD] using h) (by simpa [okD] using g)
    | _ => simp_all [okD, toP, PyData.eqv, eqD]
  | .lst ds, e, n + 1, h, g => by
    cases e with
    | lst es =>
      simp only [toP, PyData.eqv, eqD]
      exact eqvs_toP ds es n (by simpa [okD] using h) (by simpa [okD] using g)
    | _ => simp_all [okD, toP, PyData.eqv, eqD]
  | .dct _ _, _, n, h, _ => by cases n <;> simp [okD] at h
  | .ref _, _, n, h, _ => by cases n <;> simp [okD] at h
  | .scr _, _, n, h, _ => by cases n <;> simp [okD] at h
  | .fn _, _, n, h, _ => by cases n <;> simp [okD] at h
theorem eqvs_toP : ∀ (ds es : List D) (n : Nat), (∀ d ∈ ds, okD n d = true) → (∀ d ∈ es, okD n d = true) → PyData.eqvAll (toPs ds) (toPs es) = eqDs ds es
  | [], [], _, _, _ => by simp [toPs, PyData.eqvAll, eqDs]
  | [], _ :: _, _, _, _ => by simp [toPs, PyData.eqvAll, eqDs]
  | _ :: _, [], _, _, _ => by simp [toPs, PyData.eqvAll, eqDs]
  | d :: ds, e :: es, n, h, g => by
    simp only [toPs, PyData.eqvAll, eqDs]
    rw [eqv_toP d e n (h d List.mem_cons_self) (g e List.mem_cons_self), eqvs_toP ds es n (fun d hd => h d (List.mem_cons_of_mem _ hd)) fun d hd => g d (List.mem_cons_of_mem _ hd)]
end
mutual
theorem dp_of {T : Tp} {H : Hp} : ∀ (d : D) (n : Nat) (v : V), okD n d = true → RV T [] H d v → Dp T.K H v (toP d)
  | .non, n, v, _, h => by rw [RV] at h; subst h; exact .non
  | .bl b, n, v, _, h => by rw [RV] at h; subst h; exact .bl b
  | .int b, n, v, _, h => by rw [RV] at h; subst h; exact .int b
  | .str b, n, v, _, h => by rw [RV] at h; subst h; exact .str b
  | .tup ds, 0, _, h, _ => by simp [okD] at h
  | .lst ds, 0, _, h, _ => by simp [okD] at h
  | .tup ds, n + 1, v, h, r => by
    rw [RV] at r
    obtain ⟨a, vs, rfl, h1, h2⟩ := r
    rw [toP]
    exact .tup h1 (dps_of ds n vs (by simpa [okD] using h) h2)
  | .lst ds, n + 1, v, h, r => by
    rw [RV] at r
    obtain ⟨a, vs, rfl, h1, _, h2⟩ := r
    rw [toP]
    exact .lst (.of h1) (dps_of ds n vs (by simpa [okD] using h) h2)
  | .dct _ _, n, _, h, _ => by cases n <;> simp [okD] at h
  | .ref _, n, _, h, _ => by cases n <;> simp [okD] at h
  | .scr _, n, _, h, _ => by cases n <;> simp [okD] at h
  | .fn _, n, _, h, _ => by cases n <;> simp [okD] at h
theorem dps_of {T : Tp} {H : Hp} : ∀ (ds : List D) (n : Nat) (vs : List V), (∀ d ∈ ds, okD n d = true) → RVs T [] H ds vs → DpAll T.K H vs (toPs ds)
  | [], n, vs, _, r => by
    have e : vs = [] := by simpa [RVs] using r
    subst e
    exact .nil
  | d :: ds, n, vs, h, r => by
    rw [RVs] at r
    obtain ⟨v, r', rfl, h1, h2⟩ := r
    rw [toPs]
    exact .cons (dp_of d n v (h d List.mem_cons_self) h1) (dps_of ds n r' (fun d hd => h d (List.mem_cons_of_mem _ hd)) h2)
end
theorem flat_ok {d e : D} {v : V} (rs : RS T α H S) (r : RV T α H d v) (h : flat S d = some e) : RV T [] H e v := by
  have q := unb_ok rs unbF d e v h r
  rwa [List.take_zero] at q
theorem shaped_ok {d : D} (h : okD okN d = true) : SeqAt.shaped (toP d) = true := by
  obtain ⟨h1, h2⟩ := okD_ok d okN h
  unfold SeqAt.shaped
  rw [h1, Bool.true_and]
  exact decide_eq_true (Nat.le_trans h2 (by decide))
def rCmp (T : Tp) (op : CmpOp) : R2 := fun x y H Q => ∃ α S d1 d2 k, RS T α H S ∧ RV T α H d1 x ∧ RV T α H d2 y ∧ cmpD S op d1 d2 = some k ∧ Q (.bl k) H
theorem eqS_ok {a b : D} {v w : V} {k : Bool} (rs : RS T α H S) (r1 : RV T α H a v) (r2 : RV T α H b w) (h : eqS S a b = some k) :
    ∃ d e, Dp T.K H v d ∧ Dp T.K H w e ∧ SeqAt.shaped d = true ∧ SeqAt.shaped e = true ∧ k = PyData.eqv d e := by
  unfold eqS at h
  obtain ⟨x, h1, h⟩ := Option.bind_eq_some_iff.mp h
  obtain ⟨y, h2, h⟩ := Option.bind_eq_some_iff.mp h
  split at h
  · rename_i hk
    simp only [Bool.and_eq_true] at hk
    cases h
    exact ⟨toP x, toP y, dp_of x _ v hk.1 (flat_ok rs r1 h1), dp_of y _ w hk.2 (flat_ok rs r2 h2), shaped_ok hk.1, shaped_ok hk.2, (eqv_toP x y _ hk.1 hk.2).symm⟩
  · cases h
theorem any_toPs {x : D} {n : Nat} (hx : okD n x = true) : ∀ ds : List D, (∀ d ∈ ds, okD n d = true) → ((toPs ds).any fun z => PyData.eqv z (toP x)) = ds.any fun z => eqD z x
  | [], _ => rfl
  | d :: ds, h => by
    simp only [toPs, List.any_cons]
    rw [eqv_toP d x n (h d List.mem_cons_self) hx, any_toPs hx ds fun d hd => h d (List.mem_cons_of_mem _ hd)]
theorem okD_le : ∀ {n : Nat} {d : D}, okD n d = true → okD (n + 1) d = true
  | n, .non, _ => by cases n <;> simp [okD]
  | n, .bl _, _ => by cases n <;> simp [okD]
  | n, .int _, _ => by cases n <;> simp [okD]
  | n, .str _, h => by cases n <;> simpa [okD] using h
  | 0, .tup _, h => by simp [okD] at h
  | 0, .lst _, h => by simp [okD] at h
  | n + 1, .tup ds, h => by
    rw [okD, List.all_eq_true] at h ⊢
    exact fun d hd => okD_le (h d hd)
  | n + 1, .lst ds, h => by
    rw [okD, List.all_eq_true] at h ⊢
    exact fun d hd => okD_le (h d hd)
  | n, .dct _ _, h => by cases n <;> simp [okD] at h
  | n, .ref _, h => by cases n <;> simp [okD] at h
  | n, .scr _, h => by cases n <;> simp [okD] at h
  | n, .fn _, h => by cases n <;> simp [okD] at h
theorem dctOf_ok {d : D} {v : V} {ks ds : List D} (rs : RS T α H S) (r : RV T α H d v) (e : dctOf S d = some (ks, ds)) : ∃ p es, v = .ref p ∧ H p = some (.dK es) ∧ ks.map keyD = es.map (fun e => some e.1) ∧ RVs T α H ds (es.map (·.2)) := by
  unfold dctOf at e
  split at e
  · cases e
    rw [RV] at r
    obtain ⟨a, es, h1, h2, _, h3, h4⟩ := r
    exact ⟨a, es, h1, h2, h3, h4⟩
  · rename_i n
    split at e
    · rename_i ks' vs' h
      cases e
      rw [RV] at r
      obtain ⟨a, h1, h2⟩ := r
      obtain ⟨es, h3, h4, h5⟩ := rs.box n a _ h1 h
      exact ⟨a, es, h2, h3, h4, h5⟩
    · cases e
  · cases e
theorem key_ok {kd : D} (h : isKey kd = true) : ∃ k, keyD kd = some k := by cases kd <;> first | exact ⟨_, rfl⟩ | cases h
theorem same_key {x y : D} {a b : Key} (hx : keyD x = some a) (hy : keyD y = some b) : same x y = decide (a = b) := by
  cases x <;> first | cases hx | skip
  all_goals (cases y <;> first | cases hy | skip)
  · simp only [same]
    rename_i i j
    by_cases h : i = j <;> simp [h]
  · simp [same]
  · simp [same]
  · simp only [same]
    rename_i i j
    by_cases h : i = j <;> simp [h]
theorem any_key {kd : D} {k : Key} (hk : keyD kd = some k) : ∀ {ks : List D} {es : List (Key × V)}, ks.map keyD = es.map (fun e => some e.1) → ks.any (fun x => same x kd) = es.any fun kv => decide (kv.1 = k)
  | [], [], _ => rfl
  | [], _ :: _, h => by simp at h
  | _ :: _, [], h => by simp at h
  | x :: ks, e :: es, h => by
    simp only [List.map_cons, List.cons.injEq] at h
    rw [List.any_cons, List.any_cons, same_key h.1 hk, any_key hk h.2]
theorem dget_ok {kd d : D} {k : Key} (hk : keyD kd = some k) : ∀ {ks ds : List D} {es : List (Key × V)}, ks.map keyD = es.map (fun e => some e.1) → RVs T α H ds (es.map (·.2)) → dgetL ks ds kd = some d → ∃ v, valV es k = some v ∧ RV T α H d v
  | [], ds, es, h1, h2, h => by cases ds <;> simp [dgetL] at h
  | x :: ks, ds, es, h1, h2, h => by
    cases es with
    | nil => simp at h1
    | cons e es =>
      cases ds with
      | nil => simp [dgetL] at h
      | cons y ds =>
        simp only [List.map_cons, List.cons.injEq] at h1
        rw [List.map_cons, RVs] at h2
        obtain ⟨v', r', h3, h4, h5⟩ := h2
        cases h3
        rw [dgetL, same_key h1.1 hk] at h
        unfold valV
        rw [List.find?_cons]
        by_cases hkk : e.1 = k
        · rw [if_pos (decide_eq_true hkk)] at h
          cases h
          exact ⟨e.2, by simp [hkk], h4⟩
        · rw [if_neg (by simpa using hkk)] at h
          obtain ⟨v, q1, q2⟩ := dget_ok hk h1.2 h5 h
          unfold valV at q1
          exact ⟨v, by simpa [hkk] using q1, q2⟩
theorem valV_some {es : List (Key × V)} {k : Key} : (valV es k).isSome = es.any fun kv => decide (kv.1 = k) := by
  unfold valV
  induction es with
  | nil => rfl
  | cons e es ih =>
    rw [List.find?_cons, List.any_cons]
    cases h : decide (e.1 = k) with
    | true => rfl
    | false => simpa using ih
theorem ix_dictD {X : Cx} (hu : X.A.units + 1 < cLine) : IxR X (fun x y H Q => ∃ a v, x = .ref a ∧ DGet H a y (some v) ∧ Q v H) := by
  intro value slice pins s σ H x y v u Q I rx ry h hs
  obtain ⟨a, r, rfl, g, q⟩ := h
  obtain rfl : v = Value.ref a := rx
  exact PyProof.Rows.tail_any (dict_typeIs I g) PySem.F.slot_dict_getitem.lookup (d_getItem hu I g ry fun w' s3 I3 rw' => ⟨r, H, I3, rw', q⟩) hs
/-- x in a list or a tuple, by data -/
theorem inD_ok (x : XT T X) {a b : D} {v w : V} {k : Bool} (neg : Bool) {pins : List (Addr × Obj)} {s : Shared} {σ : L2.St} {u1 u2 : Value} {Q : VK} (I : Inv X pins σ H s) (rx : RelV v u1) (ry : RelV w u2)
    (rs : RS T α H S) (r1 : RV T α H a v) (r2 : RV T α H b w) (h : cmpD.inD S a b = some k) (q : Q (.bl (if neg then !k else k)) H) :
    wpAny (model X.prog X.w) X.A (compareOp (if neg then .NotIn else .In) u1 u2) (EP X pins σ Q) X.xe s := by
  unfold cmpD.inD at h
  split at h
  · rename_i q0 hq
    obtain ⟨ks, ds⟩ := q0
    split at h
    · rename_i hkey
      cases h
      have un := x.un
      obtain ⟨p, es, rfl, h1, h2, h3⟩ := dctOf_ok rs r2 hq
      obtain ⟨kk, ek⟩ := key_ok hkey
      have ev : v = kV kk := by
        cases a <;> first | cases hkey | skip
        · rw [RV] at r1; cases ek; exact r1
        · rw [RV] at r1; cases ek; exact r1
      subst ev
      obtain rfl : u2 = Value.ref p := ry
      have hb : (ks.any fun z => same z a) = (valV es kk).isSome := by rw [valV_some, any_key ek h2]
      rw [hb] at q
      cases neg with
      | false => exact d_in (by omega) I (DGet.k h1) rx fun s3 I3 => ⟨.bl _, H, I3, rfl, q⟩
      | true => exact d_notIn (by omega) I (DGet.k h1) rx fun s3 I3 => ⟨.bl _, H, I3, rfl, q⟩
    · cases h
  obtain ⟨d, h1, h⟩ := Option.bind_eq_some_iff.mp h
  obtain ⟨e, h2, h⟩ := Option.bind_eq_some_iff.mp h
  have un := x.un
  split at h
  · rename_i ds
    split at h
    · rename_i hk
      simp only [Bool.and_eq_true] at hk
      cases h
      have ds_ok : ∀ d ∈ ds, okD okN d = true := fun d hd => okD_le (by have := hk.2; rw [show okN = 19 + 1 from rfl, okD, List.all_eq_true] at this; exact this d hd)
      have p1 := dp_of d _ v hk.1 (flat_ok rs r1 h1)
      have p2 := dp_of _ _ w hk.2 (flat_ok rs r2 h2)
      rw [← x.K] at p1 p2
      have s2 := shaped_ok hk.2
      rw [toP] at p2 s2
      cases neg with
      | false => exact op_inD (by omega) pins s σ H v w u1 u2 Q I rx ry ⟨_, _, p1, p2, shaped_ok hk.1, s2, by rw [any_toPs hk.1 ds ds_ok]; exact q⟩
      | true => exact op_notInD (by omega) pins s σ H v w u1 u2 Q I rx ry ⟨_, _, p1, p2, shaped_ok hk.1, s2, by rw [any_toPs hk.1 ds ds_ok]; exact q⟩
    · cases h
  · rename_i ds
    split at h
    · rename_i hk
      simp only [Bool.and_eq_true] at hk
      cases h
      have ds_ok : ∀ d ∈ ds, okD okN d = true := fun d hd => okD_le (by have := hk.2; rw [show okN = 19 + 1 from rfl, okD, List.all_eq_true] at this; exact this d hd)
      have p1 := dp_of d _ v hk.1 (flat_ok rs r1 h1)
      have p2 := dp_of _ _ w hk.2 (flat_ok rs r2 h2)
      rw [← x.K] at p1 p2
      have s1 := shaped_ok hk.1
      have s2 := shaped_ok hk.2
      rw [toP] at p2 s2
      obtain ⟨as, q1⟩ := Dp.reads I _ v u1 p1 rx
      obtain ⟨bs, q2⟩ := Dp.reads I _ w u2 p2 ry
      have cl : PyData.canLayAll0 (toPs ds) = true := by
        have := SeqAt.canLay_of_shaped s2
        rwa [PyData.canLay0] at this
      have rm : X.A.units + 1 + min (PyData.depthAll (toPs ds)) (toP d).depth < cLine := by
        have := SeqAt.depth_of_shaped s1
        have := Nat.min_le_right (PyData.depthAll (toPs ds)) (toP d).depth
        omega
      cases neg with
      | false => exact SeqAt.in_tuple_reads q2 q1 cl (SeqAt.canLay_of_shaped s1) rm ⟨.bl _, H, I, rfl, by rw [any_toPs hk.1 ds ds_ok]; exact q⟩
      | true => exact SeqAt.notIn_tuple_reads q2 q1 cl (SeqAt.canLay_of_shaped s1) rm ⟨.bl _, H, I, rfl, by rw [any_toPs hk.1 ds ds_ok]; exact q⟩
    · cases h
  · cases h
theorem isNon_iff {d : D} {v : V} (r : RV T α H d v) : decide (v = .non) = isNonD d := by
  cases d <;> rw [RV] at r
  all_goals first
    | (subst r; rfl)
    | (obtain ⟨_, _, rfl, _⟩ := r; rfl)
    | (obtain ⟨_, rfl, _⟩ := r; rfl)
    | (obtain ⟨_, _, rfl⟩ := r; rfl)
theorem op_cmp (x : XT T X) {op : CmpOp} : OpR X (compareOp op) (rCmp T op) := by
  intro pins s σ H x1 y1 v u Q I rx ry h
  obtain ⟨α, S, d1, d2, k, rs, r1, r2, e, q⟩ := h
  have un := x.un
  cases op with
  | Eq =>
    obtain ⟨p1, p2, q1, q2, s1, s2, rfl⟩ := eqS_ok rs r1 r2 e
    exact op_eqD (by omega) pins s σ H _ _ v u Q I rx ry ⟨p1, p2, by rw [x.K]; exact q1, by rw [x.K]; exact q2, s1, s2, q⟩
  | NotEq =>
    obtain ⟨k', e', rfl⟩ := Option.map_eq_some_iff.mp (show (eqS S d1 d2).map (fun k => !k) = some k from e)
    obtain ⟨p1, p2, q1, q2, s1, s2, rfl⟩ := eqS_ok rs r1 r2 e'
    exact op_neD (by omega) pins s σ H _ _ v u Q I rx ry ⟨p1, p2, by rw [x.K]; exact q1, by rw [x.K]; exact q2, s1, s2, q⟩
  | Lt =>
    simp only [cmpD] at e
    split at e
    · cases e
      rw [RV] at r1 r2
      subst r1 r2
      exact op_lt pins s σ H _ _ v u Q I rx ry ⟨_, _, rfl, rfl, q⟩
    · cases e
  | LtE =>
    simp only [cmpD] at e
    split at e
    · cases e
      rw [RV] at r1 r2
      subst r1 r2
      exact op_le pins s σ H _ _ v u Q I rx ry ⟨_, _, rfl, rfl, q⟩
    · cases e
  | Gt =>
    simp only [cmpD] at e
    split at e
    · cases e
      rw [RV] at r1 r2
      subst r1 r2
      exact op_gt pins s σ H _ _ v u Q I rx ry ⟨_, _, rfl, rfl, q⟩
    · cases e
  | GtE =>
    simp only [cmpD] at e
    split at e
    · cases e
      rw [RV] at r1 r2
      subst r1 r2
      exact op_ge pins s σ H _ _ v u Q I rx ry ⟨_, _, rfl, rfl, q⟩
    · cases e
  | Is =>
    simp only [cmpD] at e
    split at e
    · simp only [Option.some.injEq] at e
      have i1 := isNon_iff r1
      rw [RV] at r2
      subst r2
      exact op_isN pins s σ H _ _ v u Q I rx ry ⟨rfl, by rw [i1, e]; exact q⟩
    · cases e
      rw [RV] at r1 r2
      subst r1 r2
      exact op_is_bl pins s σ H _ _ v u Q I rx ry ⟨_, _, rfl, rfl, q⟩
    · cases e
  | IsNot =>
    simp only [cmpD] at e
    split at e
    · simp only [Option.some.injEq] at e
      have i1 := isNon_iff r1
      rw [RV] at r2
      subst r2
      exact op_notN pins s σ H _ _ v u Q I rx ry ⟨rfl, by rw [i1, e]; exact q⟩
    · cases e
      rw [RV] at r1 r2
      subst r1 r2
      exact op_isnot_bl pins s σ H _ _ v u Q I rx ry ⟨_, _, rfl, rfl, q⟩
    · cases e
  | In => exact inD_ok x false I rx ry rs r1 r2 e q
  | NotIn =>
    obtain ⟨k', e', rfl⟩ := Option.map_eq_some_iff.mp (show (cmpD.inD S d1 d2).map (fun k => !k) = some k from e)
    exact inD_ok x true I rx ry rs r1 r2 e' q
end
end Vm
/-! Vm 7: truth, built-ins, methods, items, by values. -/
namespace Vm
open PySem L2
section
variable {T : Tp} {X : Cx} {m : Nat} {α : List Addr} {S : Store} {H : Hp}
theorem isEmpty_RVs {ds : List D} {vs : List V} (r : RVs T α H ds vs) : vs.isEmpty = ds.isEmpty := by
  have := RVs_len r
  cases ds <;> cases vs <;> simp_all
theorem truth_ok (x : XT T X) {d : D} {v : V} {k : Bool} (rs : RS T α H S) (r : RV T α H d v) (h : truth S d = some k) : TruV X.K v H k := by
  have r0 := r
  cases d with
  | non => rw [RV] at r; subst r; cases h; rfl
  | bl b => rw [RV] at r; subst r; cases h; rfl
  | int i => rw [RV] at r; subst r; cases h; rfl
  | str y =>
    rw [RV] at r; subst r
    simp only [truth] at h
    split at h
    · rename_i hf
      cases h
      refine ⟨fits_line hf, ?_⟩
      rw [show ((y.length : Int) != 0) = (y.length != 0) by cases y.length <;> rfl]
    · cases h
  | tup ds =>
    rw [RV] at r
    obtain ⟨a, vs, rfl, h1, h2⟩ := r
    cases h
    exact .inr (.inl ⟨vs, by rw [x.K]; exact h1, by rw [isEmpty_RVs h2]⟩)
  | lst ds =>
    rw [RV] at r
    obtain ⟨a, vs, rfl, h1, _, h2⟩ := r
    cases h
    exact .inl ⟨vs, .of h1, by rw [isEmpty_RVs h2]⟩
  | ref n =>
    simp only [truth] at h
    split at h
    · rename_i ds e
      cases h
      rw [RV] at r
      obtain ⟨a, h1, rfl⟩ := r
      obtain ⟨vs, h3, h4⟩ := rs.box n a _ h1 e
      exact .inl ⟨vs, .of h3, by rw [isEmpty_RVs h4]⟩
    · cases h
  | dct _ _ => cases h
  | scr _ => cases h
  | fn _ => cases h
/-! ### isinstance -/
def tyNames : List String := ["NoneType", "bool", "int", "str", "tuple", "list", "dict"]
def kds : List Kd := [.int, .bool, .str, .list, .tuple, .dict, .set]
theorem kit_all : (tyNames.all fun t => kds.all fun k => decide (kitB t k.name = some (isK t k))) = true := by decide +kernel
theorem kit_one {t : String} (ht : t ∈ tyNames) (k : Kd) {K : PySem.W.Frag} : PySem.W.kitOne K (.type t) (.type k.name) = some (isK t k) := by
  have h := List.all_eq_true.mp kit_all t ht
  have hk : k ∈ kds := by cases k <;> decide
  exact kit_ty (of_decide_eq_true (List.all_eq_true.mp h k hk))
theorem kit_any {t : String} (ht : t ∈ tyNames) {K : PySem.W.Frag} : ∀ ks : List Kd, PySem.W.kitAny K (.type t) (ks.map fun k => .type k.name) = some (ks.any (isK t))
  | [] => rfl
  | k :: ks => by
    rw [List.map_cons, List.any_cons]
    refine kitAny_cons (kit_one ht k) (fun e => ?_) fun e => by rw [e]; rfl
    rw [kit_any ht ks, e]
    rfl
theorem tyName_in {d : D} {t : String} (h : tyName S d = some t) : t ∈ tyNames := by
  cases d <;> simp only [tyName, Option.some.injEq, reduceCtorEq] at h
  all_goals first
    | (subst h; decide)
    | (split at h
       · cases h; decide
       · cases h; decide
       · cases h)
theorem tyX_ok (x : XT T X) {d : D} {v : V} {t : String} (rs : RS T α H S) (r : RV T α H d v) (h : tyName S d = some t) : TyX X.K H v (.type t) := by
  cases d with
  | non => rw [RV] at r; subst r; cases h; exact .base .non
  | bl b => rw [RV] at r; subst r; cases h; exact .base (.bl b)
  | int i => rw [RV] at r; subst r; cases h; exact .base (.int i)
  | str y => rw [RV] at r; subst r; cases h; exact .base (.str y)
  | tup ds =>
    rw [RV] at r
    obtain ⟨a, vs, rfl, (h1 | ⟨o, h1⟩) | ⟨o, its, n, h1, h2, _⟩, _⟩ := r
    · cases h; exact .base (.tup h1)
    · cases h; exact .fTuple h1
    · cases h; exact .kTuple (by rw [x.K]; exact h1) h2
  | lst ds =>
    rw [RV] at r
    obtain ⟨a, vs, rfl, h1, _⟩ := r
    cases h; exact .base (.lst h1)
  | dct ks ds =>
    rw [RV] at r
    obtain ⟨a, es, rfl, h1, _⟩ := r
    cases h; exact .base (.dK h1)
  | scr ns =>
    rw [RV] at r
    obtain ⟨a, rfl, ⟨h1 | ⟨o, h1⟩, _⟩ | ⟨o, its, n, h1, h2, _⟩⟩ := r
    · cases h; exact .base (.lst h1)
    · cases h; exact .base (.frz h1)
    · cases h; exact .kList (by rw [x.K]; exact h1) h2
  | ref n =>
    rw [RV] at r
    obtain ⟨a, h1, rfl⟩ := r
    simp only [tyName] at h
    split at h
    · rename_i ds e
      cases h
      obtain ⟨vs, h3, h4⟩ := rs.box n a _ h1 e
      exact .base (.lst h3)
    · rename_i ks ds e
      cases h
      obtain ⟨es, h3, h4⟩ := rs.box n a _ h1 e
      exact .base (.dK h3)
    · cases h
  | fn g => cases h
/-! ### calls of built-ins -/
def rBt (T : Tp) (m : Nat) (f : Bt) (bx : Bool) : List V → Hp → VK → Prop := fun vs H Q => ∃ α S ds o, m ≤ S.length ∧ RS T α H S ∧ RVs T α H ds vs ∧ btD S f ds = some o ∧ Done T m (rV T) α S H (mkO bx o) Q
def Bt.fn : Bt → Value
  | .len => .builtin "len" | .abs => .builtin "abs" | .int => .type "int" | .sum => .builtin "sum" | .max2 => .builtin "max" | .min2 => .builtin "min" | .max1 => .builtin "max" | .min1 => .builtin "min"
  | .all => .builtin "all" | .any => .builtin "any" | .list => .type "list" | .tuple => .type "tuple" | .sorted => .builtin "sorted" | .bool => .type "bool" | .dict => .type "dict" | .ord => .builtin "ord" | .chr => .builtin "chr"
theorem RVs_one {d : D} {vs : List V} (r : RVs T α H [d] vs) : ∃ v, vs = [v] ∧ RV T α H d v := by
  rw [RVs] at r
  obtain ⟨v, w, rfl, h1, h2⟩ := r
  rw [RVs] at h2
  subst h2
  exact ⟨v, rfl, h1⟩
theorem RVs_two {d e : D} {vs : List V} (r : RVs T α H [d, e] vs) : ∃ v w, vs = [v, w] ∧ RV T α H d v ∧ RV T α H e w := by
  rw [RVs] at r
  obtain ⟨v, w0, rfl, h1, h2⟩ := r
  obtain ⟨w, rfl, h3⟩ := RVs_one h2
  exact ⟨v, w, rfl, h1, h3⟩
theorem intsOf_ok : ∀ {ds : List D} {vs : List V} {ns : List Int}, RVs T α H ds vs → intsOf ds = some ns → vs = ns.map V.int
  | [], vs, ns, r, e => by
    cases e
    have : vs = [] := by simpa [RVs] using r
    subst this
    rfl
  | d :: ds, vs, ns, r, e => by
    rw [RVs] at r
    obtain ⟨v, w, rfl, h1, h2⟩ := r
    cases d <;> simp only [intsOf, reduceCtorEq, Option.map_eq_some_iff] at e
    obtain ⟨t, e, rfl⟩ := e
    rw [RV] at h1
    subst h1
    rw [intsOf_ok h2 e]
    rfl
theorem blsOf_ok : ∀ {ds : List D} {vs : List V} {ns : List Bool}, RVs T α H ds vs → blsOf ds = some ns → vs = ns.map V.bl
  | [], vs, ns, r, e => by
    cases e
    have : vs = [] := by simpa [RVs] using r
    subst this
    rfl
  | d :: ds, vs, ns, r, e => by
    rw [RVs] at r
    obtain ⟨v, w, rfl, h1, h2⟩ := r
    cases d <;> simp only [blsOf, reduceCtorEq, Option.map_eq_some_iff] at e
    obtain ⟨t, e, rfl⟩ := e
    rw [RV] at h1
    subst h1
    rw [blsOf_ok h2 e]
    rfl
theorem maxI_spec : ∀ {ns : List Int} {k : Int}, maxI ns = some k → ∀ c, c ∈ ns → (∀ y, y ∈ ns → y ≤ c) → c = k := by
  intro ns k h c hc hm
  cases ns with
  | nil => cases h
  | cons a r =>
    simp only [maxI, Option.some.injEq] at h
    subst h
    have key : ∀ (l : List Int) (b : Int), (l.foldl (fun m x => if x > m then x else m) b = b ∨ l.foldl (fun m x => if x > m then x else m) b ∈ l) ∧ b ≤ l.foldl (fun m x => if x > m then x else m) b ∧ ∀ y ∈ l, y ≤ l.foldl (fun m x => if x > m then x else m) b := by
      intro l
      induction l with
      | nil => intro b; simp
      | cons z l ih =>
        intro b
        simp only [List.foldl_cons]
        obtain ⟨h1, h2, h3⟩ := ih (if z > b then z else b)
        refine ⟨?_, ?_, fun y hy => ?_⟩
        · rcases h1 with h1 | h1
          · by_cases hz : z > b
            · rw [if_pos hz] at h1 ⊢; right; rw [h1]; exact List.mem_cons_self
            · rw [if_neg hz] at h1 ⊢; left; exact h1
          · right; exact List.mem_cons_of_mem _ h1
        · split at h2 <;> (split <;> omega)
        · rcases List.mem_cons.mp hy with rfl | hy
          · split at h2 <;> (split <;> omega)
          · exact h3 y hy
    obtain ⟨h1, h2, h3⟩ := key r a
    have e1 : r.foldl (fun m x => if x > m then x else m) a ≤ c := by
      rcases h1 with h1 | h1
      · rw [h1]; exact hm a List.mem_cons_self
      · exact hm _ (List.mem_cons_of_mem _ h1)
    rcases List.mem_cons.mp hc with rfl | hc
    · omega
    · have := h3 c hc; omega
theorem minI_spec : ∀ {ns : List Int} {k : Int}, minI ns = some k → ∀ c, c ∈ ns → (∀ y, y ∈ ns → c ≤ y) → c = k := by
  intro ns k h c hc hm
  cases ns with
  | nil => cases h
  | cons a r =>
    simp only [minI, Option.some.injEq] at h
    subst h
    have key : ∀ (l : List Int) (b : Int), (l.foldl (fun m x => if x < m then x else m) b = b ∨ l.foldl (fun m x => if x < m then x else m) b ∈ l) ∧ l.foldl (fun m x => if x < m then x else m) b ≤ b ∧ ∀ y ∈ l, l.foldl (fun m x => if x < m then x else m) b ≤ y := by
      intro l
      induction l with
      | nil => intro b; simp
      | cons z l ih =>
        intro b
        simp only [List.foldl_cons]
        obtain ⟨h1, h2, h3⟩ := ih (if z < b then z else b)
        refine ⟨?_, ?_, fun y hy => ?_⟩
        · rcases h1 with h1 | h1
          · by_cases hz : z < b
            · rw [if_pos hz] at h1 ⊢; right; rw [h1]; exact List.mem_cons_self
            · rw [if_neg hz] at h1 ⊢; left; exact h1
          · right; exact List.mem_cons_of_mem _ h1
        · split at h2 <;> (split <;> omega)
        · rcases List.mem_cons.mp hy with rfl | hy
          · split at h2 <;> (split <;> omega)
          · exact h3 y hy
    obtain ⟨h1, h2, h3⟩ := key r a
    have e1 : c ≤ r.foldl (fun m x => if x < m then x else m) a := by
      rcases h1 with h1 | h1
      · rw [h1]; exact hm a List.mem_cons_self
      · exact hm _ (List.mem_cons_of_mem _ h1)
    rcases List.mem_cons.mp hc with rfl | hc
    · omega
    · have := h3 c hc; omega
theorem seqLen_ok {d : D} {v : V} {ds : List D} {n : Nat} (rs : RS T α H S) (r : RV T α H d v) (e : seqOf S d = some ds) (hn : n = ds.length) (x : XT T X) : LenV X.K v H n := by
  obtain ⟨p, vs, rfl, h1, h2⟩ := seqOf_ok rs r e
  have := RVs_len h2
  rcases h1 with h1 | h1
  · exact .inl ⟨vs, by rw [x.K]; exact h1, by omega⟩
  · exact .inr ⟨vs, by rw [x.K]; exact h1, by omega⟩

theorem len_ok (x : XT T X) {d : D} {v : V} {n : Nat} (rs : RS T α H S) (r : RV T α H d v) (e : lenD S d = some n) : LenV X.K v H n ∨ ∃ a es, v = .ref a ∧ H a = some (.dK es) ∧ n = es.length := by
  cases d with
  | str y =>
    rw [RV] at r; subst r
    simp only [lenD] at e
    split at e
    · rename_i hf
      cases e
      exact .inl ⟨fits_line hf, rfl⟩
    · cases e
  | dct ks ds =>
    rw [RV] at r
    obtain ⟨a, es, rfl, h1, _, h2, _⟩ := r
    cases e
    exact .inr ⟨a, es, rfl, h1, by have := congrArg List.length h2; simpa using this⟩
  | ref k =>
    have r0 := r
    rw [RV] at r
    obtain ⟨a, h1, rfl⟩ := r
    simp only [lenD] at e
    split at e
    · rename_i ds e'
      cases e
      exact .inl (seqLen_ok rs r0 (ds := ds) (by simp [seqOf, e']) rfl x)
    · rename_i ks ds e'
      cases e
      obtain ⟨es, h3, h4, _⟩ := rs.box k a _ h1 e'
      exact .inr ⟨a, es, rfl, h3, by have := congrArg List.length h4; simpa using this⟩
    · cases e
  | non => cases e
  | bl _ => cases e
  | int _ => cases e
  | fn _ => cases e
  | tup ds =>
    cases e
    exact .inl (seqLen_ok rs r rfl rfl x)
  | lst ds =>
    cases e
    exact .inl (seqLen_ok rs r rfl rfl x)
  | scr ns =>
    cases e
    exact .inl (seqLen_ok rs r rfl rfl x)
theorem ne_nil_int {ns : List Int} {k : Int} (h : maxI ns = some k ∨ minI ns = some k) : 0 < ns.length := by
  cases ns with
  | nil => rcases h with h | h <;> cases h
  | cons _ _ => exact Nat.succ_pos _
theorem insI_perm (x : Int) : ∀ l : List Int, (insI x l).Perm (x :: l)
  | [] => .refl _
  | y :: r => by
    unfold insI
    split
    · exact .refl _
    · exact (List.Perm.cons y (insI_perm x r)).trans (.swap x y r)
theorem sortI_perm : ∀ l : List Int, (sortI l).Perm l
  | [] => .refl _
  | x :: r => (insI_perm x _).trans ((sortI_perm r).cons x)
theorem insI_pw (x : Int) : ∀ l : List Int, l.Pairwise (· ≤ ·) → (insI x l).Pairwise (· ≤ ·)
  | [], _ => by simp [insI]
  | y :: r, h => by
    unfold insI
    have h' := List.pairwise_cons.mp h
    split
    · rename_i hx
      exact List.pairwise_cons.mpr ⟨fun z hz => by
        rcases List.mem_cons.mp hz with rfl | hz
        · exact hx
        · exact Int.le_trans hx (h'.1 z hz), h⟩
    · rename_i hx
      refine List.pairwise_cons.mpr ⟨fun z hz => ?_, insI_pw x r h'.2⟩
      rcases List.mem_cons.mp ((insI_perm x r).mem_iff.mp hz) with rfl | hz
      · omega
      · exact h'.1 z hz
theorem sortI_pw : ∀ l : List Int, (sortI l).Pairwise (· ≤ ·)
  | [] => .nil
  | x :: r => insI_pw x _ (sortI_pw r)
theorem pw_uniq : ∀ {a b : List Int}, a.Perm b → a.Pairwise (· ≤ ·) → b.Pairwise (· ≤ ·) → a = b
  | [], b, p, _, _ => (List.Perm.nil_eq p)
  | x :: a, [], p, _, _ => absurd p.length_eq (by simp)
  | x :: a, y :: b, p, h1, h2 => by
    have h1' := List.pairwise_cons.mp h1
    have h2' := List.pairwise_cons.mp h2
    have e : x = y := by
      have hx : x ∈ y :: b := p.mem_iff.mp List.mem_cons_self
      have hy : y ∈ x :: a := p.mem_iff.mpr List.mem_cons_self
      rcases List.mem_cons.mp hx with e | hx
      · exact e
      · rcases List.mem_cons.mp hy with e | hy
        · exact e.symm
        · have := h1'.1 y hy
          have := h2'.1 x hx
          omega
    subst e
    rw [pw_uniq p.cons_inv h1'.2 h2'.2]
theorem op_bt (x : XT T X) {f : Bt} {bx : Bool} : CallR X f.fn (rBt T m f bx) := by
  intro pins s σ H vs us Q I rv h
  obtain ⟨α, S, ds, o, hm, rs, rd, e, q⟩ := h
  unfold btD at e
  split at e
  · -- len
    obtain ⟨v, rfl, r⟩ := RVs_one rd
    obtain ⟨n, e1, rfl⟩ := Option.map_eq_some_iff.mp e
    have qv : Q (.int n) H := q.ret rs (by rw [RV])
    rcases len_ok x rs r e1 with h | ⟨a, es, rfl, h, rfl⟩
    · exact call_len pins s σ H _ us Q I rv ⟨v, n, rfl, h, qv⟩
    · exact call_lenD pins s σ H _ us Q I rv ⟨a, es, rfl, h, qv⟩
  · obtain ⟨v, rfl, r⟩ := RVs_one rd
    rw [RV] at r; subst r
    cases e
    exact call_abs pins s σ H _ us Q I rv ⟨_, rfl, q.ret rs (by rw [RV])⟩
  · obtain ⟨v, rfl, r⟩ := RVs_one rd
    rw [RV] at r; subst r
    cases e
    exact call_int1 pins s σ H _ us Q I rv (.inl ⟨_, rfl, q.ret rs (by rw [RV])⟩)
  · obtain ⟨v, rfl, r⟩ := RVs_one rd
    rw [RV] at r; subst r
    cases e
    exact call_int1 pins s σ H _ us Q I rv (.inr ⟨_, rfl, q.ret rs (by rw [RV])⟩)
  · obtain ⟨v, rfl, r⟩ := RVs_one rd
    rw [RV] at r; subst r
    cases e
    exact call_bool1 pins s σ H _ us Q I rv (.inl ⟨_, rfl, q.ret rs (by rw [RV])⟩)
  · obtain ⟨v, rfl, r⟩ := RVs_one rd
    rw [RV] at r; subst r
    cases e
    exact call_bool1 pins s σ H _ us Q I rv (.inr ⟨_, rfl, q.ret rs (by rw [RV])⟩)
  · -- sum
    obtain ⟨v, rfl, r⟩ := RVs_one rd
    obtain ⟨ds, e1, e⟩ := Option.bind_eq_some_iff.mp e
    obtain ⟨ns, e2, rfl⟩ := Option.map_eq_some_iff.mp e
    obtain ⟨p, ws, rfl, h1, h2⟩ := lstOf_ok rs r e1
    obtain rfl := intsOf_ok h2 e2
    exact cr_sum x.calm pins s σ H _ us Q I rv ⟨p, ns, rfl, .of h1, q.ret rs (by rw [RV])⟩
  · obtain ⟨v, w, rfl, r1, r2⟩ := RVs_two rd
    rw [RV] at r1 r2; subst r1 r2
    cases e
    exact call_max2 x.calm pins s σ H _ us Q I rv ⟨_, _, rfl, q.ret rs (by rw [RV])⟩
  · obtain ⟨v, w, rfl, r1, r2⟩ := RVs_two rd
    rw [RV] at r1 r2; subst r1 r2
    cases e
    exact call_min2 x.calm pins s σ H _ us Q I rv ⟨_, _, rfl, q.ret rs (by rw [RV])⟩
  · obtain ⟨v, rfl, r⟩ := RVs_one rd
    obtain ⟨ds, e1, e⟩ := Option.bind_eq_some_iff.mp e
    obtain ⟨ns, e2, e⟩ := Option.bind_eq_some_iff.mp e
    obtain ⟨k, e3, rfl⟩ := Option.map_eq_some_iff.mp e
    obtain ⟨p, ws, rfl, h1, h2⟩ := lstOf_ok rs r e1
    obtain rfl := intsOf_ok h2 e2
    refine cr_max x.calm pins s σ H _ us Q I rv ⟨p, ns, rfl, .of h1, ne_nil_int (.inl e3), fun c hc hl => ?_⟩
    rw [maxI_spec e3 c hc hl]
    exact q.ret rs (by rw [RV])
  · obtain ⟨v, rfl, r⟩ := RVs_one rd
    obtain ⟨ds, e1, e⟩ := Option.bind_eq_some_iff.mp e
    obtain ⟨ns, e2, e⟩ := Option.bind_eq_some_iff.mp e
    obtain ⟨k, e3, rfl⟩ := Option.map_eq_some_iff.mp e
    obtain ⟨p, ws, rfl, h1, h2⟩ := lstOf_ok rs r e1
    obtain rfl := intsOf_ok h2 e2
    refine cr_min x.calm pins s σ H _ us Q I rv ⟨p, ns, rfl, .of h1, ne_nil_int (.inr e3), fun c hc hl => ?_⟩
    rw [minI_spec e3 c hc hl]
    exact q.ret rs (by rw [RV])
  · obtain ⟨v, rfl, r⟩ := RVs_one rd
    obtain ⟨ds, e1, e⟩ := Option.bind_eq_some_iff.mp e
    obtain ⟨ns, e2, rfl⟩ := Option.map_eq_some_iff.mp e
    obtain ⟨p, ws, rfl, h1, h2⟩ := lstOf_ok rs r e1
    obtain rfl := blsOf_ok h2 e2
    exact cr_all x.calm pins s σ H _ us Q I rv ⟨p, ns, rfl, .of h1, q.ret rs (by rw [RV])⟩
  · obtain ⟨v, rfl, r⟩ := RVs_one rd
    obtain ⟨ds, e1, e⟩ := Option.bind_eq_some_iff.mp e
    obtain ⟨ns, e2, rfl⟩ := Option.map_eq_some_iff.mp e
    obtain ⟨p, ws, rfl, h1, h2⟩ := lstOf_ok rs r e1
    obtain rfl := blsOf_ok h2 e2
    exact cr_any x.calm pins s σ H _ us Q I rv ⟨p, ns, rfl, .of h1, q.ret rs (by rw [RV])⟩
  · -- list
    obtain ⟨v, rfl, r⟩ := RVs_one rd
    obtain ⟨ds, e1, rfl⟩ := Option.map_eq_some_iff.mp e
    obtain ⟨p, ws, rfl, h1, h2⟩ := seqOf_ok rs r e1
    exact call_list_of pins s σ H _ us Q I rv ⟨p, ws, rfl, by rw [x.K]; exact h1, fun l hl => q.mkL hm rs h2 hl⟩
  · -- tuple of a tuple
    obtain ⟨v, rfl, r⟩ := RVs_one rd
    cases e
    have r0 := r
    rw [RV] at r
    obtain ⟨a, vs, rfl, h1, h2⟩ := r
    exact call_tuple_of pins s σ H _ us Q I rv ⟨a, vs, rfl, .inr ⟨by rw [x.K]; exact h1, q.ret rs r0⟩⟩
  · rename_i a hn
    obtain ⟨v, rfl, r⟩ := RVs_one rd
    obtain ⟨ds, e1, rfl⟩ := Option.map_eq_some_iff.mp e
    obtain ⟨p, ws, rfl, h1, h2⟩ := seqOf_ok rs r e1
    rcases h1 with h1 | h1
    · exact call_tuple_of pins s σ H _ us Q I rv ⟨p, ws, rfl, .inl ⟨by rw [x.K]; exact h1, fun l hl => q.tup rs h2 hl⟩⟩
    · refine call_tuple_of pins s σ H _ us Q I rv ⟨p, ws, rfl, .inr ⟨by rw [x.K]; exact h1, q.ret rs ?_⟩⟩
      rw [RV]
      exact ⟨p, ws, rfl, h1, h2⟩
  · -- dict
    obtain ⟨v, rfl, r⟩ := RVs_one rd
    obtain ⟨q0, e1, rfl⟩ := Option.map_eq_some_iff.mp e
    obtain ⟨ks, ds⟩ := q0
    obtain ⟨p, es, rfl, h1, h2, h3⟩ := dctOf_ok rs r e1
    exact call_dictD pins s σ H _ us Q I rv ⟨p, es, rfl, .inl h1, fun l hl => q.mkK hm rs h2 h3 hl⟩
  · -- sorted
    obtain ⟨v, rfl, r⟩ := RVs_one rd
    obtain ⟨ds, e1, e⟩ := Option.bind_eq_some_iff.mp e
    obtain ⟨ns, e2, rfl⟩ := Option.map_eq_some_iff.mp e
    obtain ⟨p, ws, rfl, h1, h2⟩ := lstOf_ok rs r e1
    obtain rfl := intsOf_ok h2 e2
    refine cr_sortedI pins s σ H _ us Q I rv ⟨p, ns, rfl, .of h1, fun ns' l hp hw hl => ?_⟩
    obtain rfl := pw_uniq (hp.trans (sortI_perm ns).symm) hw (sortI_pw ns)
    exact q.mkL hm rs (RVs_ints _) hl
  · cases e

/-! ### a box written -/
theorem refsLt_mono {j k : Nat} (h : j ≤ k) : (∀ d : D, refsLt j d = true → refsLt k d = true) ∧ ∀ ds : List D, refsLts j ds = true → refsLts k ds = true := by
  have key : ∀ n : Nat, (∀ d : D, sizeOf d < n → refsLt j d = true → refsLt k d = true) ∧ ∀ ds : List D, sizeOf ds < n → refsLts j ds = true → refsLts k ds = true := by
    intro n
    induction n with
    | zero => exact ⟨fun _ z => absurd z (Nat.not_lt_zero _), fun _ z => absurd z (Nat.not_lt_zero _)⟩
    | succ n ih =>
      refine ⟨fun d hd hr => ?_, fun ds hd hr => ?_⟩
      · cases d with
        | tup ds => rw [refsLt] at hr ⊢; exact ih.2 ds (by simp at hd; omega) hr
        | lst ds => rw [refsLt] at hr ⊢; exact ih.2 ds (by simp at hd; omega) hr
        | dct ks ds =>
          rw [refsLt, Bool.and_eq_true] at hr ⊢
          exact ⟨ih.2 ks (by simp at hd; omega) hr.1, ih.2 ds (by simp at hd; omega) hr.2⟩
        | ref i => rw [refsLt, decide_eq_true_eq] at hr ⊢; omega
        | _ => rfl
      · cases ds with
        | nil => rfl
        | cons d ds =>
          rw [refsLts, Bool.and_eq_true] at hr ⊢
          exact ⟨ih.1 d (by simp at hd; omega) hr.1, ih.2 ds (by simp at hd; omega) hr.2⟩
  exact ⟨fun d => (key (sizeOf d + 1)).1 d (Nat.lt_succ_self _), fun ds => (key (sizeOf ds + 1)).2 ds (Nat.lt_succ_self _)⟩
theorem refsLts_app {k : Nat} : ∀ {xs ys : List D}, refsLts k (xs ++ ys) = (refsLts k xs && refsLts k ys)
  | [], ys => by simp [refsLts]
  | x :: xs, ys => by simp [refsLts, refsLts_app (xs := xs), Bool.and_assoc]
theorem refsLts_mem {k : Nat} : ∀ {xs : List D}, refsLts k xs = true ↔ ∀ x ∈ xs, refsLt k x = true
  | [] => by simp [refsLts]
  | x :: xs => by simp [refsLts, refsLts_mem (xs := xs)]
theorem nxt_write {n : Nat} {a : Addr} {xs ds : List D} {vs : List V} (rs : RS T α H S) (ha : α[n]? = some a) (hn : S[n]? = some (.lst xs)) (r : RVs T α H ds vs) (hb : n < m → ∀ k, k ≤ m → refsLts k xs = true → refsLts k ds = true) :
    Nxt T m α S H α (S.set n (.lst ds)) (upd H a (.lst vs)) := by
  have hma : a ∈ α := List.mem_of_getElem? ha
  have g : Grow α α H (upd H a (.lst vs)) := by
    refine ⟨⟨[], by simp, by simp⟩, fun b o h nb => ?_, fun b hb' => ?_⟩
    · rw [upd_ne (fun z => nb (by rw [z]; exact hma))]; exact h
    · by_cases e : b = a
      · subst e; exact ⟨_, upd_same, trivial⟩
      · obtain ⟨o, h, mo⟩ := rs.bx b hb'
        exact ⟨o, by rw [upd_ne e]; exact h, mo⟩
  have hlt : n < S.length := (List.getElem?_eq_some_iff.mp hn).1
  refine ⟨g, ⟨by simp [rs.len], rs.nd, fun j b e h1 h2 => ?_, rs.no_keep g⟩, fun k hk h j e hj he => ?_⟩
  · by_cases hj : j = n
    · subst hj
      rw [ha] at h1; cases h1
      rw [List.getElem?_set_self hlt] at h2; cases h2
      exact ⟨vs, upd_same, RVs_grow rs.bx g ds vs r⟩
    · rw [List.getElem?_set_ne (Ne.symm hj)] at h2
      have ne : b ≠ a := fun z => hj (L2.nd_ix rs.nd h1 (by rw [z]; exact ha))
      exact BoxAt_grow rs.bx g (by rw [upd_ne ne]) (rs.box j b e h1 h2)
  · by_cases hjn : j = n
    · subst hjn
      rw [List.getElem?_set_self hlt] at he; cases he
      have q := h j _ hj hn
      rw [refsLt] at q ⊢
      exact hb (by omega) k hk q
    · rw [List.getElem?_set_ne (Ne.symm hjn)] at he
      exact h j e hj he
def rMt (T : Tp) (m : Nat) (f : Mt) : V → List V → Hp → VK → Prop := fun x vs H Q => ∃ α S d ds b S', m ≤ S.length ∧ RS T α H S ∧ RV T α H d x ∧ RVs T α H ds vs ∧ mtD m f d ds S = some (.ok b S') ∧ ∀ α' H' v, Nxt T m α S H α' S' H' → RV T α' H' b v → Q v H'
def Mt.id : Mt → String
  | .append => "list.append" | .extend => "list.extend" | .pop => "list.pop" | .popAt => "list.pop"
def Mt.name : Mt → Str
  | .append => "append" | .extend => "extend" | .pop => "pop" | .popAt => "pop"
theorem barr_ok {n : Nat} {as : List D} (h : barr m n as = true) (hn : n < m) (k : Nat) : refsLts k as = true := by
  unfold barr at h
  simp only [Bool.or_eq_true, decide_eq_true_eq] at h
  rcases h with h | h
  · omega
  · exact (refsLt_mono (Nat.zero_le k)).2 as h
theorem RVs_dropLast {ds : List D} {vs : List V} (r : RVs T α H ds vs) : RVs T α H ds.dropLast vs.dropLast := by
  refine RVs_of (by simp [RVs_len r]) fun i d v h1 h2 => ?_
  rw [List.getElem?_dropLast] at h1 h2
  split at h1
  · obtain ⟨w, e, q⟩ := RVs_get r h1
    split at h2
    · rw [e] at h2; cases h2; exact q
    · cases h2
  · cases h1
theorem RVs_erase {ds : List D} {vs : List V} (r : RVs T α H ds vs) (k : Nat) : RVs T α H (ds.eraseIdx k) (vs.eraseIdx k) := by
  refine RVs_of (by simp [List.length_eraseIdx, RVs_len r]) fun i d v h1 h2 => ?_
  rw [List.getElem?_eraseIdx] at h1 h2
  split at h1
  · rename_i hlt
    rw [if_pos hlt] at h2
    obtain ⟨w, e, q⟩ := RVs_get r h1
    rw [e] at h2; cases h2; exact q
  · rename_i hlt
    rw [if_neg hlt] at h2
    obtain ⟨w, e, q⟩ := RVs_get r h1
    rw [e] at h2; cases h2; exact q
theorem RVs_set {ds : List D} {vs : List V} {d : D} {v : V} (r : RVs T α H ds vs) (q : RV T α H d v) (k : Nat) : RVs T α H (ds.set k d) (vs.set k v) := by
  refine RVs_of (by simp [RVs_len r]) fun i e w h1 h2 => ?_
  by_cases hk : k = i
  · subst hk
    have hl : k < ds.length := by have := (List.getElem?_eq_some_iff.mp h1).1; simpa using this
    rw [List.getElem?_set_self hl] at h1
    rw [List.getElem?_set_self (by rw [← RVs_len r]; exact hl)] at h2
    cases h1; cases h2; exact q
  · rw [List.getElem?_set_ne hk] at h1 h2
    obtain ⟨w', e, q⟩ := RVs_get r h1
    rw [e] at h2; cases h2; exact q
theorem refsLts_sub {k : Nat} {xs ys : List D} (h : ∀ y ∈ ys, y ∈ xs) (r : refsLts k xs = true) : refsLts k ys = true := refsLts_mem.mpr fun y hy => refsLts_mem.mp r y (h y hy)

end
section
open PyProof.Rows
/-- list.extend of a tuple -/
theorem ext_tup (l : Addr) (items : Array Value) (n : Nat) (b : Addr) (items2 : Array Value) (n2 : Nat) (dd : Option Addr) (sl : Array (Option Value)) (hs0 : ¬(!items.isEmpty && Builtin.List.listTooLong (items.size + items2.size)) = true) (hs1 : items.size ≤ sizeLine) (hs2 : items.size + items2.size ≤ sizeLine + 1) :
    Meets (Builtin.«list.extend» ⟨[.ref l, .ref b], []⟩) (fun _ R s => s.heap.get? l = some { cls := .type "list", dict := none, data := .seq items n, slots := #[] } ∧ s.heap.get? b = some { cls := .type "tuple", dict := dd, data := .seq items2 n2, slots := sl } ∧ R (.ok (.ret Value.none)) { s with heap := s.heap.update l (Obj.mapSeq fun x => x ++ items2), toks := s.toks }) :=
  .of_wp fun prog w A R s h => by
    obtain ⟨hp, g, d, tk, os⟩ := s; obtain ⟨hl, hb, h⟩ := h; have f1 := PySem.AutoSeq1.idx_int; have f2 := PySem.AutoSeq1.sub_tuple_tuple; have f3 := PySem.AutoSeq1.sub_list_list; have f4 := PySem.AutoSeq1.sub_tuple_list; have f5 := PySem.AutoSeq1.sub_list_tuple;
    have hz' : (items ++ items2).size ≤ sizeLine + 1 := by rw [Array.size_append]; exact hs2
    wp_walk using (wpAny_updateSeq hl rfl (hz := hs1) (_hz' := hz')), wpAny_loadPart' hl, wpAny_loadPart' hb; exact ⟨_, rfl, h⟩
variable {T : Tp} {X : Cx} {m : Nat} {α : List Addr} {S : Store} {H : Hp}
def rExtendT (K : PySem.W.Frag) : V → List V → Hp → VK → Prop := fun x vs H Q => ∃ l b xs zs, x = .ref l ∧ vs = [.ref b] ∧ H l = some (.lst xs) ∧ SqT K H b zs ∧ xs.length + zs.length ≤ sizeLine ∧ Q .non (upd H l (.lst (xs ++ zs)))
theorem mt_extendT : MtM X "list.extend" (rExtendT X.K) := by
  intro pins s σ H x vs v us Q I rx rv h
  obtain ⟨l, b, xs, zs, rfl, rfl, hH, hB, hz, q⟩ := h
  cases rx
  obtain ⟨u, rfl, ru⟩ := rv.one
  cases ru
  obtain ⟨z, its, n, r, hl, e⟩ := I.lstM hH
  obtain ⟨its2, r2, ⟨⟨c2, dd, data, sl⟩, e2, hc, n2, hd⟩, hz2⟩ := I.tuple hB
  simp only at hc hd
  subst hc hd
  have hl2 : zs.length = its2.length := r2.length
  have hsz : its.toArray.size + its2.toArray.size ≤ sizeLine := by rw [List.size_toArray, List.size_toArray]; omega
  have hlong : ¬ (!its.toArray.isEmpty && Builtin.List.listTooLong (its.toArray.size + its2.toArray.size)) = true := by
    rw [notLongL hsz, Bool.and_false]
    exact Bool.false_ne_true
  refine call_meets F.slot_list_extend ⟨_, e, rfl⟩ F.entry_list_extend (F.args_list_extend_2 _ _)
    (ext_tup l its.toArray n b its2.toArray n2 dd sl hlong (by rw [List.size_toArray]; omega) (by omega)) ⟨e, e2, ?_⟩
  refine ⟨.non, _, I.lset (its' := its ++ its2) hH e (by simp) (r.append r2) ?_, rfl, q⟩
  rw [List.length_append]
  omega
theorem extOf_ok {d : D} {v : V} {ds : List D} (rs : RS T α H S) (r : RV T α H d v) (e : extOf S d = some ds) : ∃ p vs, v = .ref p ∧ (H p = some (.lst vs) ∨ SqT T.K H p vs) ∧ RVs T α H ds vs := by
  unfold extOf at e
  split at e
  · cases e
    rw [RV] at r
    obtain ⟨a, vs, h1, h2, h3⟩ := r
    exact ⟨a, vs, h1, .inr h2, h3⟩
  · obtain ⟨p, vs, h1, h2, h3⟩ := lstOf_ok rs r e
    exact ⟨p, vs, h1, .inl h2, h3⟩
theorem op_mt (x : XT T X) {f : Mt} : MtM X f.id (rMt T m f) := by
  intro pins s σ H v vs u us Q I rx rv h
  obtain ⟨α, S, d, ds, b, S', hm, rs, rd, rds, e, q⟩ := h
  unfold mtD at e
  split at e
  · rename_i n
    rw [RV] at rd
    obtain ⟨a, ha, rfl⟩ := rd
    split at e
    · rename_i xs hn
      obtain ⟨ws, hw, rw'⟩ := rs.box n a _ ha hn
      have lw := RVs_len rw'
      split at e
      · -- append
        rename_i d
        obtain ⟨y, rfl, ry⟩ := RVs_one rds
        split at e
        · rename_i hf
          simp only [Bool.and_eq_true] at hf
          simp only [Option.some.injEq, Rs.ok.injEq] at e
          obtain ⟨rfl, rfl⟩ := e
          have hz := fits_ok hf.1
          have hs : sizeLine = 16777216 := sizeLine_eq
          refine mt_append pins s σ H _ _ u us Q I rx rv ⟨a, ws, y, rfl, rfl, hw, by omega, ?_⟩
          refine q _ _ _ (nxt_write rs ha hn (RVs_app rw' (RVs_cons ry RVs_nil)) fun hlt k _ hk => ?_) (by rw [RV])
          rw [refsLts_app, hk, barr_ok hf.2 hlt k]; rfl
        · cases e
      · -- extend
        rename_i d
        obtain ⟨y, rfl, ry⟩ := RVs_one rds
        split at e
        · rename_i ys hy
          split at e
          · rename_i hf
            simp only [Bool.and_eq_true] at hf
            simp only [Option.some.injEq, Rs.ok.injEq] at e
            obtain ⟨rfl, rfl⟩ := e
            have hz := fits_line hf.1
            obtain ⟨p, zs, rfl, h1, h2⟩ := extOf_ok rs ry hy
            have lz := RVs_len h2
            have fin := q _ _ _ (nxt_write rs ha hn (RVs_app rw' h2) fun hlt k _ hk => by rw [refsLts_app, hk, barr_ok hf.2 hlt k]; rfl) (show RV T α _ .non .non by rw [RV])
            rcases h1 with h1 | h1
            · exact mt_extend pins s σ H _ _ u us Q I rx rv ⟨a, p, ws, zs, rfl, rfl, hw, h1, by omega, fin⟩
            · exact mt_extendT pins s σ H _ _ u us Q I rx rv ⟨a, p, ws, zs, rfl, rfl, hw, by rw [x.K]; exact h1, by omega, fin⟩
          · cases e
        · cases e
      · -- pop
        split at e
        · rename_i y hy
          simp only [Option.some.injEq, Rs.ok.injEq] at e
          obtain ⟨rfl, rfl⟩ := e
          have hvs : vs = [] := by simpa [RVs] using rds
          subst hvs
          rw [List.getLast?_eq_getElem?] at hy
          obtain ⟨w, hw1, rwy⟩ := RVs_get rw' hy
          rw [lw] at hw1
          refine mt_pop pins s σ H _ _ u us Q I rx rv ⟨a, ws, w, rfl, rfl, hw, hw1, ?_⟩
          have n := nxt_write (m := m) rs ha hn (RVs_dropLast rw') fun hlt k _ hk => refsLts_sub (fun y hy => List.dropLast_subset _ hy) hk
          exact q _ _ _ n (RV_grow rs.bx n.g _ _ rwy)
        · cases e
      · -- popAt
        split at e
        · rename_i k hk
          split at e
          · rename_i y hy
            split at e
            · rename_i hb
              simp only [Option.some.injEq, Rs.ok.injEq] at e
              obtain ⟨rfl, rfl⟩ := e
              obtain ⟨iv, rfl, ri⟩ := RVs_one rds
              rw [RV] at ri; subst ri
              obtain ⟨w, hw1, rwy⟩ := RVs_get rw' hy
              refine mt_popAt pins s σ H _ _ u us Q I rx rv ⟨a, ws, _, k, w, rfl, rfl, hw, hb.1, hb.2, by rw [← lw]; exact (ixN_seq hk).1, hw1, ?_⟩
              have n := nxt_write (m := m) rs ha hn (RVs_erase rw' k) fun hlt k' _ hk => refsLts_sub (fun y hy => List.mem_of_mem_eraseIdx hy) hk
              exact q _ _ _ n (RV_grow rs.bx n.g _ _ rwy)
            · cases e
          · cases e
        · cases e
      · cases e
    · cases e
  · cases e
end
end Vm
/-! Vm 8: items, slices, stores; what a loop walks. -/
namespace Vm
open PySem L2
section
variable {T : Tp} {X : Cx} {m : Nat} {α : List Addr} {S : Store} {H : Hp}
theorem atI_RVs {ds : List D} {vs : List V} {i : Int} {d : D} (r : RVs T α H ds vs) (e : atI ds i = some d) : ∃ v, atI vs i = some v ∧ RV T α H d v := by
  unfold atI at e ⊢
  obtain ⟨j, e1, e2⟩ := Option.bind_eq_some_iff.mp e
  obtain ⟨v, h1, h2⟩ := RVs_get r e2
  exact ⟨v, by rw [← RVs_len r, e1]; exact h1, h2⟩
def rSub (T : Tp) : R2 := fun x y H Q => ∃ α S d1 d2 b, RS T α H S ∧ RV T α H d1 x ∧ RV T α H d2 y ∧ subD S d1 d2 = some b ∧ ∀ v, RV T α H b v → Q v H
theorem ix_sub (x : XT T X) : IxR X (rSub T) := by
  intro a b pins s σ H x1 y1 v u Q I rx ry h hp
  obtain ⟨α, S, d1, d2, k, rs, r1, r2, e, q⟩ := h
  unfold subD at e
  split at e
  · rw [RV] at r1
    rw [RV] at r2
    subst r1 r2
    split at e
    · rename_i hf
      obtain ⟨c, e1, rfl⟩ := Option.map_eq_some_iff.mp e
      exact ix_str a b pins s σ H _ _ v u Q I rx ry ⟨_, _, c, rfl, rfl, fits_line hf, e1, q _ (by rw [RV])⟩ hp
    · cases e
  · split at e
    · rename_i q0 hq
      obtain ⟨ks, ds⟩ := q0
      split at e
      · rename_i hkey
        have un := x.un
        obtain ⟨p, es, rfl, h1, h2, h3⟩ := dctOf_ok rs r1 hq
        obtain ⟨kk, ek⟩ := key_ok hkey
        have ey : y1 = kV kk := by
          cases d2 <;> first | cases hkey | skip
          · rw [RV] at r2; cases ek; exact r2
          · rw [RV] at r2; cases ek; exact r2
        obtain ⟨w, e3, r3⟩ := dget_ok ek h2 h3 e
        exact ix_dictD (by omega) a b pins s σ H _ _ v u Q I rx ry ⟨p, w, rfl, by rw [ey, ← e3]; exact DGet.k h1, q w r3⟩ hp
      · cases e
    split at e
    rotate_left
    · cases e
    rename_i hn
    rw [RV] at r2
    subst r2
    obtain ⟨xs, e1, e2⟩ := Option.bind_eq_some_iff.mp e
    obtain ⟨p, vs, rfl, h1, h2⟩ := seqOf_ok rs r1 e1
    obtain ⟨w, e3, r3⟩ := atI_RVs h2 e2
    rcases h1 with h1 | h1
    · exact ix_list a b pins s σ H _ _ v u Q I rx ry ⟨p, vs, _, w, rfl, rfl, by rw [x.K]; exact h1, e3, q w r3⟩ hp
    · exact ix_tup a b pins s σ H _ _ v u Q I rx ry ⟨p, vs, _, w, rfl, rfl, by rw [x.K]; exact h1, e3, q w r3⟩ hp
theorem RVs_drop {ds : List D} {vs : List V} (r : RVs T α H ds vs) (k : Nat) : RVs T α H (ds.drop k) (vs.drop k) := by
  refine RVs_of (by simp [RVs_len r]) fun i d v h1 h2 => ?_
  rw [List.getElem?_drop] at h1 h2
  obtain ⟨w, e, q⟩ := RVs_get r h1
  rw [e] at h2; cases h2; exact q
theorem RVs_takeN {ds : List D} {vs : List V} (r : RVs T α H ds vs) (k : Nat) : RVs T α H (ds.take k) (vs.take k) := by
  refine RVs_of (by simp [RVs_len r]) fun i d v h1 h2 => ?_
  rw [List.getElem?_take] at h1 h2
  split at h1
  · rename_i hi
    rw [if_pos hi] at h2
    obtain ⟨w, e, q⟩ := RVs_get r h1
    rw [e] at h2; cases h2; exact q
  · cases h1
theorem RVs_cut {ds : List D} {vs : List V} (r : RVs T α H ds vs) (lo hi : Option Int) : RVs T α H (cutL ds lo hi) (cutV vs lo hi) := by
  unfold cutL cutV
  rw [← RVs_len r]
  exact RVs_takeN (RVs_drop r _) _
theorem list_ne_tup : Value.type "list" ≠ Value.type "tuple" := fun h => absurd (Value.type.inj h) (by decide)
def rSlc (T : Tp) (m : Nat) (bx : Bool) : V → Option Int → Option Int → Hp → VK → Prop := fun x lo hi H Q => ∃ α S d o, m ≤ S.length ∧ RS T α H S ∧ RV T α H d x ∧ slcD S d lo hi = some o ∧ Done T m (rV T) α S H (mkO bx o) Q
theorem sl_slc (x : XT T X) {bx : Bool} : SlR X (rSlc T m bx) := by
  intro pins s σ H x1 v vl vu lo hi sl Q I rx hs pl pu h
  obtain ⟨α, S, d, o, hm, rs, r, e, q⟩ := h
  unfold slcD at e
  split at e
  · rename_i xs
    cases e
    have r0 := r
    rw [RV] at r
    obtain ⟨a, vs, rfl, h1, h2⟩ := r
    refine sl_tupA pins s σ H _ v vl vu lo hi sl Q I rx hs pl pu ⟨a, vs, rfl, by rw [x.K]; exact h1, fun hw => ?_, fun _ p hp => ?_⟩
    · have e : cutL xs lo hi = xs := by
        unfold cutL
        rw [← RVs_len h2] at hw
        rw [hw.1, hw.2, List.drop_zero, Nat.sub_zero, List.take_length]
      have q' : Done T m (rV T) α S H (M.ret (.tup (cutL xs lo hi))) Q := q
      rw [e] at q'
      exact q'.ret rs r0
    · exact q.tup rs (RVs_cut h2 lo hi) hp
  · rename_i z
    split at e
    · rename_i hf
      cases e
      rw [RV] at r
      refine sl_str pins s σ H _ v vl vu lo hi sl Q I rx hs pl pu ⟨z, r, fits_line hf, ?_⟩
      have ec : cutS z lo hi = ⟨(cutL z.cps.toList lo hi).toArray⟩ := by
        unfold cutS cutL
        rw [show z.length = z.cps.toList.length from (Array.length_toList).symm]
      rw [ec]
      exact q.ret rs (by rw [RV])
    · cases e
  · rename_i hn _
    obtain ⟨xs, e1, rfl⟩ := Option.map_eq_some_iff.mp e
    obtain ⟨p, vs, rfl, h1, h2⟩ := seqOf_ok rs r e1
    rcases h1 with h1 | h1
    · exact sl_list pins s σ H _ v vl vu lo hi sl Q I rx hs pl pu ⟨p, vs, rfl, by rw [x.K]; exact h1, fun p hp => q.mkL hm rs (RVs_cut h2 lo hi) hp⟩
    · -- a tuple is a tuple
      exfalso
      cases d with
      | tup ds => exact hn ds rfl
      | lst ds =>
        rw [RV] at r
        obtain ⟨a, ws, e, h3, _⟩ := r
        cases e
        obtain ⟨its, _, ⟨o, ho, hc, _⟩, _⟩ := I.tuple (by rw [x.K]; exact h1)
        obtain ⟨_, its2, n, _, ho2⟩ := I.hok _ _ h3
        rw [ho2] at ho; cases ho; exact list_ne_tup hc
      | ref n =>
        rw [RV] at r
        obtain ⟨a, h3, e⟩ := r
        cases e
        simp only [seqOf] at e1
        split at e1
        · rename_i ds e'
          obtain ⟨ws, h4, _⟩ := rs.box n _ _ h3 e'
          obtain ⟨its, _, ⟨o, ho, hc, _⟩, _⟩ := I.tuple (by rw [x.K]; exact h1)
          obtain ⟨_, its2, n, _, ho2⟩ := I.hok _ _ h4
          rw [ho2] at ho; cases ho; exact list_ne_tup hc
        · cases e1
      | scr ns =>
        rw [RV] at r
        obtain ⟨a, e, h3⟩ := r
        cases e
        have hl : SqL X.K H p (ns.map V.int) := by
          rw [x.K]
          rcases h3 with ⟨h3, _⟩ | h3
          · exact .inl h3
          · exact .inr h3
        obtain ⟨its, _, ⟨o, ho, hc, _⟩, _⟩ := I.tuple (by rw [x.K]; exact h1)
        obtain ⟨its2, _, ⟨o2, _, ho2, hc2, _⟩, _⟩ := I.list hl
        rw [ho2] at ho; cases ho; rw [hc2] at hc; exact list_ne_tup hc
      | _ => cases e1
def rPut (T : Tp) (m : Nat) : V → V → V → Hp → (Hp → Prop) → Prop := fun o i v H Q => ∃ α S d1 d2 d S', m ≤ S.length ∧ RS T α H S ∧ RV T α H d1 o ∧ RV T α H d2 i ∧ RV T α H d v ∧ putD m d1 d2 d S = some (.ok () S') ∧ ∀ α' H', Nxt T m α S H α' S' H' → Q H'
theorem nxt_writeD {n : Nat} {a : Addr} {o : HO} {d d0 : D} (rs : RS T α H S) (ha : α[n]? = some a) (hn : S[n]? = some d0) (l : Laid T α H o d) (hb : n < m → ∀ k, k ≤ m → refsLt k d0 = true → refsLt k d = true) :
    Nxt T m α S H α (S.set n d) (upd H a o) := by
  have hma : a ∈ α := List.mem_of_getElem? ha
  have g : Grow α α H (upd H a o) := by
    refine ⟨⟨[], by simp, by simp⟩, fun b o h nb => ?_, fun b hb' => ?_⟩
    · rw [upd_ne (fun z => nb (by rw [z]; exact hma))]; exact h
    · by_cases e : b = a
      · subst e; exact ⟨_, upd_same, l.mut⟩
      · obtain ⟨o, h, mo⟩ := rs.bx b hb'
        exact ⟨o, by rw [upd_ne e]; exact h, mo⟩
  have hlt : n < S.length := (List.getElem?_eq_some_iff.mp hn).1
  refine ⟨g, ⟨by simp [rs.len], rs.nd, fun j b e h1 h2 => ?_, rs.no_keep g⟩, fun k hk h j e hj he => ?_⟩
  · by_cases hj : j = n
    · subst hj
      rw [ha] at h1; cases h1
      rw [List.getElem?_set_self hlt] at h2; cases h2
      exact l.box rs.bx g upd_same
    · rw [List.getElem?_set_ne (Ne.symm hj)] at h2
      have ne : b ≠ a := fun z => hj (L2.nd_ix rs.nd h1 (by rw [z]; exact ha))
      exact BoxAt_grow rs.bx g (by rw [upd_ne ne]) (rs.box j b e h1 h2)
  · by_cases hjn : j = n
    · subst hjn
      rw [List.getElem?_set_self hlt] at he; cases he
      exact hb (by omega) k hk (h j _ hj hn)
    · rw [List.getElem?_set_ne (Ne.symm hjn)] at he
      exact h j e hj he
theorem dmap_ok {d : D} {v : V} {kd : D} {k : Key} (hk : keyD kd = some k) (rv : RV T α H d v) : ∀ {ks ds : List D} {es : List (Key × V)}, ks.map keyD = es.map (fun e => some e.1) → RVs T α H ds (es.map (·.2)) →
    RVs T α H (dmap ks ds kd d) ((es.map fun kv => if kv.1 = k then (kv.1, v) else kv).map (·.2))
  | [], ds, es, h1, h2 => by
    have : es = [] := by cases es with
      | nil => rfl
      | cons _ _ => simp at h1
    subst this
    have e : dmap [] ds kd d = [] := by cases ds <;> rfl
    rw [e]
    exact RVs_nil
  | x :: ks, ds, es, h1, h2 => by
    cases es with
    | nil => simp at h1
    | cons e es =>
      cases ds with
      | nil => rw [List.map_cons, RVs] at h2; cases h2
      | cons y ds =>
        simp only [List.map_cons, List.cons.injEq] at h1
        rw [List.map_cons, RVs] at h2
        obtain ⟨v', r', h3, h4, h5⟩ := h2
        cases h3
        rw [List.map_cons, List.map_cons, dmap, same_key h1.1 hk]
        by_cases hkk : e.1 = k
        · rw [if_pos (decide_eq_true hkk), if_pos hkk]
          exact RVs_cons rv (dmap_ok hk rv h1.2 h5)
        · rw [if_neg (by simpa using hkk), if_neg hkk]
          exact RVs_cons h4 (dmap_ok hk rv h1.2 h5)
theorem dput_ok {d : D} {v : V} {kd : D} {k : Key} (hk : keyD kd = some k) (rv : RV T α H d v) {ks ds : List D} {es : List (Key × V)} (h1 : ks.map keyD = es.map (fun e => some e.1)) (h2 : RVs T α H ds (es.map (·.2))) :
    (dput ks ds kd d).1.map keyD = (putK es k v).map (fun e => some e.1) ∧ RVs T α H (dput ks ds kd d).2 ((putK es k v).map (·.2)) := by
  unfold dput putK
  rw [any_key hk h1]
  by_cases h : (es.any fun kv => decide (kv.1 = k)) = true
  · rw [if_pos h, if_pos h]
    refine ⟨?_, dmap_ok hk rv h1 h2⟩
    rw [h1, List.map_map]
    refine List.map_congr_left fun z _ => ?_
    show some z.1 = some (if z.1 = k then (z.1, v) else z).1
    split <;> rfl
  · rw [if_neg h, if_neg h]
    refine ⟨by rw [List.map_append, List.map_append, h1, List.map_singleton, List.map_singleton, hk], ?_⟩
    rw [List.map_append]
    exact RVs_app h2 (RVs_cons rv RVs_nil)
theorem dmap_refs {kd d : D} {j : Nat} (hd : refsLt j d = true) : ∀ {ks vs : List D}, refsLts j vs = true → refsLts j (dmap ks vs kd d) = true
  | [], vs, _ => by
    have e : dmap [] vs kd d = [] := by cases vs <;> rfl
    rw [e]; rfl
  | x :: ks, [], _ => rfl
  | x :: ks, y :: vs, h2 => by
    rw [refsLts, Bool.and_eq_true] at h2
    rw [dmap, refsLts, dmap_refs hd h2.2, Bool.and_true]
    split
    · exact hd
    · exact h2.1
theorem dput_refs {kd d : D} {j : Nat} (hk : refsLt j kd = true) (hd : refsLt j d = true) {ks vs : List D} (h1 : refsLts j ks = true) (h2 : refsLts j vs = true) : refsLts j (dput ks vs kd d).1 = true ∧ refsLts j (dput ks vs kd d).2 = true := by
  unfold dput
  split
  · exact ⟨h1, dmap_refs hd h2⟩
  · rw [refsLts_app, refsLts_app, h1, h2]
    simp [refsLts, hk, hd]
theorem isKey_refs {kd : D} (h : isKey kd = true) (j : Nat) : refsLt j kd = true := by cases kd <;> first | rfl | cases h
theorem set_put (x : XT T X) : PSet X (rPut T m) := by
  intro pins s σ H o i v ov iv u Q I ro ri rv h
  obtain ⟨α, S, d1, d2, d, S', hm, rs, r1, r2, r3, e, q⟩ := h
  unfold putD at e
  split at e
  · rename_i n
    rw [RV] at r1
    obtain ⟨a, ha, rfl⟩ := r1
    split at e
    · rename_i xs hn
      split at e
      · rename_i k
        rw [RV] at r2
        subst r2
        obtain ⟨ws, hw, rw'⟩ := rs.box n a _ ha hn
        split at e
        · rename_i j hj
          split at e
          · rename_i hb
            simp only [Option.some.injEq, Rs.ok.injEq, true_and] at e
            subst e
            refine set_list pins s σ H _ _ _ ov iv u Q I ro ri rv ⟨a, ws, k, j, rfl, rfl, hw, by rw [← RVs_len rw']; exact hj, ?_⟩
            refine q _ _ (nxt_write rs ha hn (RVs_set rw' r3 j) fun hlt k' _ hk => refsLts_mem.mpr fun y hy => ?_)
            rcases List.mem_or_eq_of_mem_set hy with hy | rfl
            · exact refsLts_mem.mp hk y hy
            · have := barr_ok hb hlt k'
              rw [refsLts, Bool.and_eq_true] at this
              exact this.1
          · cases e
        · cases e
      · cases e
    · rename_i ks vs hn
      obtain ⟨es, hw, hk, rw'⟩ := rs.box n a _ ha hn
      split at e
      · rename_i hc
        simp only [Bool.and_eq_true] at hc
        obtain ⟨⟨hkey, hfit⟩, hb⟩ := hc
        simp only [Option.some.injEq, Rs.ok.injEq, true_and] at e
        subst e
        obtain ⟨k, ek⟩ := key_ok hkey
        have ei : i = kV k := by
          cases d2 <;> first | cases hkey | skip
          · rw [RV] at r2; cases ek; exact r2
          · rw [RV] at r2; cases ek; exact r2
        obtain ⟨q1, q2⟩ := dput_ok ek r3 hk rw'
        have hl : ks.length = es.length := by have := congrArg List.length hk; simpa using this
        have un := x.un
        refine set_dict (by omega) pins s σ H _ _ _ ov iv u Q I ro ri rv ⟨a, _, rfl, by rw [ei]; exact DPut.k hw (by have := fits_ok hfit; have e : sizeLine = 16777216 := sizeLine_eq; omega), ?_⟩
        refine q _ _ (nxt_writeD (o := .dK (putK es k v)) rs ha hn ⟨q1, q2⟩ fun hlt k' _ hkr => ?_)
        have hr := barr_ok hb hlt k'
        rw [refsLts, Bool.and_eq_true] at hr
        rw [refsLt, Bool.and_eq_true] at hkr ⊢
        exact dput_refs (isKey_refs hkey k') hr.1 hkr.1 hkr.2
      · cases e
    · cases e
  · cases e

/-! ### what a loop walks -/
structure Yld (T : Tp) (J : L2.It) (t : Its) (α1 : List Addr) (H1 : Hp) : Prop where
  go : ∀ (no α : List Addr) (H : Hp) (S : Store) (i : Nat) (d : D), (∀ a ∈ no, a ∈ T.no ∨ H1 a = none) → GrowN T.no α1 α H1 H → RS (T.wn no) α H S → t.still S = true → t.ds[i]? = some d → J.go i H ∧ ∀ x H', J.yld i H x H' → (∀ a o, H a = some o → H' a = some o) ∧ RV (T.wn no) α H' d x
  stop : ∀ (no α : List Addr) (H : Hp) (S : Store), (∀ a ∈ no, a ∈ T.no ∨ H1 a = none) → GrowN T.no α1 α H1 H → RS (T.wn no) α H S → t.still S = true → J.stop t.ds.length H
theorem still_none {ds : List D} {S : Store} : (Its.mk ds none).still S = true := rfl
theorem still_some {ds : List D} {n : Nat} {S : Store} (h : S[n]? = some (.lst ds)) : (Its.mk ds (some n)).still S = true := by
  unfold Its.still
  exact decide_eq_true h
theorem Grow.get {α α' : List Addr} {H H' : Hp} (g : Grow α α' H H') {n : Nat} {a : Addr} (h : α[n]? = some a) : α'[n]? = some a := by
  obtain ⟨β, rfl, _⟩ := g.pre
  rw [List.getElem?_append_left (List.getElem?_eq_some_iff.mp h).1]
  exact h
/-- a list that stays: at every later state it reads as the items -/
theorem yld_list {t : Its} {a : Addr} {α1 : List Addr} {H1 : Hp} (h : ∀ (no α : List Addr) (H : Hp) (S : Store), (∀ a ∈ no, a ∈ T.no ∨ H1 a = none) → GrowN T.no α1 α H1 H → RS (T.wn no) α H S → t.still S = true → ∃ vs, SqL T.K H a vs ∧ RVs (T.wn no) α H t.ds vs) : Yld T (Itl T.K a) t α1 H1 where
  go := fun no α H S i d hn g rs st e => by
    obtain ⟨vs, q, r⟩ := h no α H S hn g rs st
    obtain ⟨v, h1, h2⟩ := RVs_get r e
    refine ⟨⟨vs, v, q, h1⟩, fun x H' y => ?_⟩
    obtain ⟨rfl, y⟩ := y
    have := y vs q
    rw [h1] at this
    cases this
    exact ⟨fun _ _ z => z, h2⟩
  stop := fun no α H S hn g rs st => by
    obtain ⟨vs, q, r⟩ := h no α H S hn g rs st
    exact ⟨vs, q, Nat.le_of_eq (RVs_len r).symm⟩
theorem yld_tup {t : Its} {a : Addr} {α1 : List Addr} {H1 : Hp} (h : ∀ (no α : List Addr) (H : Hp) (S : Store), (∀ a ∈ no, a ∈ T.no ∨ H1 a = none) → GrowN T.no α1 α H1 H → RS (T.wn no) α H S → t.still S = true → ∃ vs, SqT T.K H a vs ∧ RVs (T.wn no) α H t.ds vs) : Yld T (Itt T.K a) t α1 H1 where
  go := fun no α H S i d hn g rs st e => by
    obtain ⟨vs, q, r⟩ := h no α H S hn g rs st
    obtain ⟨v, h1, h2⟩ := RVs_get r e
    refine ⟨⟨vs, v, q, h1⟩, fun x H' y => ?_⟩
    obtain ⟨rfl, y⟩ := y
    have := y vs q
    rw [h1] at this
    cases this
    exact ⟨fun _ _ z => z, h2⟩
  stop := fun no α H S hn g rs st => by
    obtain ⟨vs, q, r⟩ := h no α H S hn g rs st
    exact ⟨vs, q, Nat.le_of_eq (RVs_len r).symm⟩
theorem yld_str {y : Str} {α1 : List Addr} {H1 : Hp} : Yld T (L2.Its y) ⟨y.cps.toList.map fun c => .str ⟨#[c]⟩, none⟩ α1 H1 where
  go := fun no α H S i d hn g rs st e => by
    rw [List.getElem?_map, Option.map_eq_some_iff] at e
    obtain ⟨c, e1, rfl⟩ := e
    have e2 : y.cps[i]? = some c := by simpa using e1
    refine ⟨(Array.getElem?_eq_some_iff.mp e2).1, fun x H' q => ?_⟩
    obtain ⟨rfl, c', h1, rfl⟩ := q
    rw [e2] at h1; cases h1
    exact ⟨fun _ _ z => z, by rw [RV]⟩
  stop := fun no α H S hn g rs st => by
    show y.cps.size ≤ _
    simp
theorem yld_rng {lo : Int} {n : Nat} {α1 : List Addr} {H1 : Hp} : Yld T (Itr lo n) ⟨rngL lo n, none⟩ α1 H1 where
  go := fun no α H S i d hn g rs st e => by
    unfold rngL at e
    rw [List.getElem?_map, Option.map_eq_some_iff] at e
    obtain ⟨j, e1, rfl⟩ := e
    have hj : i < n ∧ j = i := by
      obtain ⟨h, e⟩ := List.getElem?_eq_some_iff.mp e1
      simp at h e
      exact ⟨h, e.symm⟩
    obtain ⟨hj, rfl⟩ := hj
    refine ⟨hj, fun x H' q => ?_⟩
    obtain ⟨rfl, rfl⟩ := q
    exact ⟨fun _ _ z => z, by rw [RV]⟩
  stop := fun no α H S hn g rs st => by
    show n ≤ _
    unfold rngL
    simp

theorem enumL_get : ∀ (ds : List D) (k i : Nat), (enumL k ds)[i]? = (ds[i]?).map fun d => .tup [.int ((k + i : Nat) : Int), d]
  | [], k, i => by simp [enumL]
  | d :: ds, k, 0 => by simp [enumL]
  | d :: ds, k, i + 1 => by
    rw [enumL, List.getElem?_cons_succ, enumL_get ds (k + 1) i, List.getElem?_cons_succ]
    congr 1
    funext d
    rw [show k + 1 + i = k + (i + 1) by omega]
theorem enumL_length : ∀ (ds : List D) (k : Nat), (enumL k ds).length = ds.length
  | [], _ => rfl
  | d :: ds, k => by rw [enumL, List.length_cons, List.length_cons, enumL_length ds]
theorem zipL_get : ∀ (xs ys : List D) (i : Nat) (d : D), (zipL xs ys)[i]? = some d → ∃ x y, xs[i]? = some x ∧ ys[i]? = some y ∧ d = .tup [x, y]
  | x :: xs, y :: ys, 0, d, h => by simp [zipL] at h; exact ⟨x, y, rfl, rfl, h.symm⟩
  | x :: xs, y :: ys, i + 1, d, h => by
    rw [zipL, List.getElem?_cons_succ] at h
    obtain ⟨a, b, h1, h2, h3⟩ := zipL_get xs ys i d h
    exact ⟨a, b, by simpa using h1, by simpa using h2, h3⟩
  | [], _, i, d, h => by simp [zipL] at h
  | _ :: _, [], i, d, h => by simp [zipL] at h
theorem zipL_length : ∀ (xs ys : List D), (zipL xs ys).length = min xs.length ys.length
  | [], _ => by simp [zipL]
  | _ :: _, [] => by simp [zipL]
  | x :: xs, y :: ys => by simp [zipL, zipL_length xs ys]
theorem RS.keep {H' : Hp} (rs : RS T α H S) (k : ∀ a o, H a = some o → H' a = some o) : Grow α α H H' := ⟨⟨[], by simp, by simp⟩, fun a o h _ => k a o h, fun a ha => let ⟨o, h, m⟩ := rs.bx a ha; ⟨o, k a o h, m⟩⟩
theorem RS.kept {H' : Hp} (rs : RS T α H S) (k : ∀ a o, H a = some o → H' a = some o) : Nxt T m α S H α S H' := by
  have g := rs.keep k
  refine ⟨g, ⟨rs.len, rs.nd, fun n a d h1 h2 => ?_, rs.no_keep g⟩, fun _ _ h => h⟩
  obtain ⟨o', h', _⟩ := rs.bx a (List.mem_of_getElem? h1)
  exact BoxAt_grow rs.bx g (by rw [k a o' h', h']) (rs.box n a d h1 h2)
theorem yld_enum {ds : List D} {a : Addr} {α1 : List Addr} {H1 : Hp} (h : ∀ (no α : List Addr) (H : Hp) (S : Store), (∀ a ∈ no, a ∈ T.no ∨ H1 a = none) → GrowN T.no α1 α H1 H → RS (T.wn no) α H S → ∃ vs, SqL T.K H a vs ∧ RVs (T.wn no) α H ds vs) : Yld T (Ite T.K a) ⟨enumL 0 ds, none⟩ α1 H1 where
  go := fun no α H S i d hn g rs st e => by
    rw [enumL_get, Option.map_eq_some_iff] at e
    obtain ⟨d, e, rfl⟩ := e
    obtain ⟨vs, q, r⟩ := h no α H S hn g rs
    obtain ⟨v, h1, h2⟩ := RVs_get r e
    refine ⟨⟨vs, v, q, h1⟩, fun x H' y => ?_⟩
    obtain ⟨p, w, rfl, hp, rfl, y⟩ := y
    have := y vs q
    rw [h1] at this
    cases this
    refine ⟨fun b o z => by rw [upd_ne (ne_of_none z hp)]; exact z, RV_tup rs (RVs_cons ?_ (RVs_cons h2 RVs_nil)) hp⟩
    rw [RV, Nat.zero_add]
  stop := fun no α H S hn g rs st => by
    obtain ⟨vs, q, r⟩ := h no α H S hn g rs
    exact ⟨vs, q, by rw [enumL_length, RVs_len r]; exact Nat.le_refl _⟩
theorem yld_zipL {xs ys : List D} {a b : Addr} {α1 : List Addr} {H1 : Hp} (h : ∀ (no α : List Addr) (H : Hp) (S : Store), (∀ a ∈ no, a ∈ T.no ∨ H1 a = none) → GrowN T.no α1 α H1 H → RS (T.wn no) α H S → ∃ vs ws, SqL T.K H a vs ∧ RVs (T.wn no) α H xs vs ∧ SqL T.K H b ws ∧ RVs (T.wn no) α H ys ws) : Yld T (Itz T.K a b) ⟨zipL xs ys, none⟩ α1 H1 where
  go := fun no α H S i d hn g rs st e => by
    obtain ⟨x, y, e1, e2, rfl⟩ := zipL_get xs ys i d e
    obtain ⟨vs, ws, q1, r1, q2, r2⟩ := h no α H S hn g rs
    obtain ⟨v, h1, h2⟩ := RVs_get r1 e1
    obtain ⟨w, h3, h4⟩ := RVs_get r2 e2
    refine ⟨⟨vs, ws, v, w, q1, q2, h1, h3⟩, fun x H' z => ?_⟩
    obtain ⟨p, v', w', rfl, hp, rfl, z1, z2⟩ := z
    have z1 := z1 vs q1
    have z2 := z2 ws q2
    rw [h1] at z1; rw [h3] at z2
    cases z1; cases z2
    exact ⟨fun b o z => by rw [upd_ne (ne_of_none z hp)]; exact z, RV_tup rs (RVs_cons h2 (RVs_cons h4 RVs_nil)) hp⟩
  stop := fun no α H S hn g rs st => by
    obtain ⟨vs, ws, q1, r1, q2, r2⟩ := h no α H S hn g rs
    have l1 := RVs_len r1
    have l2 := RVs_len r2
    have l3 := zipL_length xs ys
    refine ⟨vs, ws, q1, q2, ?_⟩
    simp only [l3]
    omega
theorem yld_zipT {xs ys : List D} {a b : Addr} {α1 : List Addr} {H1 : Hp} (h : ∀ (no α : List Addr) (H : Hp) (S : Store), (∀ a ∈ no, a ∈ T.no ∨ H1 a = none) → GrowN T.no α1 α H1 H → RS (T.wn no) α H S → ∃ vs ws, SqT T.K H a vs ∧ RVs (T.wn no) α H xs vs ∧ SqT T.K H b ws ∧ RVs (T.wn no) α H ys ws) : Yld T (RZ.ItzT T.K a b) ⟨zipL xs ys, none⟩ α1 H1 where
  go := fun no α H S i d hn g rs st e => by
    obtain ⟨x, y, e1, e2, rfl⟩ := zipL_get xs ys i d e
    obtain ⟨vs, ws, q1, r1, q2, r2⟩ := h no α H S hn g rs
    obtain ⟨v, h1, h2⟩ := RVs_get r1 e1
    obtain ⟨w, h3, h4⟩ := RVs_get r2 e2
    refine ⟨⟨vs, ws, v, w, q1, q2, h1, h3⟩, fun x H' z => ?_⟩
    obtain ⟨p, v', w', rfl, hp, rfl, z1, z2⟩ := z
    have z1 := z1 vs q1
    have z2 := z2 ws q2
    rw [h1] at z1; rw [h3] at z2
    cases z1; cases z2
    exact ⟨fun b o z => by rw [upd_ne (ne_of_none z hp)]; exact z, RV_tup rs (RVs_cons h2 (RVs_cons h4 RVs_nil)) hp⟩
  stop := fun no α H S hn g rs st => by
    obtain ⟨vs, ws, q1, r1, q2, r2⟩ := h no α H S hn g rs
    have l1 := RVs_len r1
    have l2 := RVs_len r2
    have l3 := zipL_length xs ys
    refine ⟨vs, ws, q1, q2, ?_⟩
    simp only [l3]
    omega
/-- zip of a text and a tuple -/
def ItzST (K : PySem.W.Frag) (x : Str) (b : Addr) (n : Nat) : L2.It where
  go i H := ∃ (ys : List V) (y : V), i < x.cps.size ∧ SqT K H b ys ∧ ys.length = n ∧ ys[i]? = some y
  yld i H v H' := ∃ T c y, v = .ref T ∧ H T = none ∧ x.cps[i]? = some c ∧ H' = upd H T (.tup [.str ⟨#[c]⟩, y]) ∧ ∀ ys, SqT K H b ys → ys[i]? = some y
  stop i H := ∃ ys : List V, SqT K H b ys ∧ ys.length = n ∧ (x.cps.size ≤ i ∨ n ≤ i)
theorem yld_zipST {x : Str} {ys : List D} {b : Addr} {α1 : List Addr} {H1 : Hp} (h : ∀ (no α : List Addr) (H : Hp) (S : Store), (∀ a ∈ no, a ∈ T.no ∨ H1 a = none) → GrowN T.no α1 α H1 H → RS (T.wn no) α H S → ∃ ws, SqT T.K H b ws ∧ RVs (T.wn no) α H ys ws) : Yld T (ItzST T.K x b ys.length) ⟨zipL (x.cps.toList.map fun c => .str ⟨#[c]⟩) ys, none⟩ α1 H1 where
  go := fun no α H S i d hn g rs st e => by
    obtain ⟨z, y, e1, e2, rfl⟩ := zipL_get _ ys i d e
    rw [List.getElem?_map, Option.map_eq_some_iff] at e1
    obtain ⟨c, e1, rfl⟩ := e1
    have e3 : x.cps[i]? = some c := by simpa using e1
    obtain ⟨ws, q2, r2⟩ := h no α H S hn g rs
    obtain ⟨w, h3, h4⟩ := RVs_get r2 e2
    refine ⟨⟨ws, w, (Array.getElem?_eq_some_iff.mp e3).1, q2, (RVs_len r2).symm, h3⟩, fun v H' z => ?_⟩
    obtain ⟨p, c', w', rfl, hp, hc, rfl, z2⟩ := z
    have z2 := z2 ws q2
    rw [h3] at z2; rw [e3] at hc
    cases z2; cases hc
    exact ⟨fun b o z => by rw [upd_ne (ne_of_none z hp)]; exact z, RV_tup rs (RVs_cons (by rw [RV]) (RVs_cons h4 RVs_nil)) hp⟩
  stop := fun no α H S hn g rs st => by
    obtain ⟨ws, q2, r2⟩ := h no α H S hn g rs
    have l2 := RVs_len r2
    have l3 := zipL_length (x.cps.toList.map fun c => .str ⟨#[c]⟩) ys
    refine ⟨ws, q2, l2.symm, ?_⟩
    simp only [l3, List.length_map, Array.length_toList]
    omega
/-- a thing whose value is walked: a list, a tuple, a text -/
def iVal (K : PySem.W.Frag) (te : TE) : TI := fun σ H R => te σ H fun x H1 => (∃ a xs, x = .ref a ∧ SqL K H1 a xs ∧ R (Itl K a) H1) ∨ (∃ a xs, x = .ref a ∧ SqT K H1 a xs ∧ R (Itt K a) H1) ∨ ∃ y, x = .str y ∧ R (L2.Its y) H1
end
section
open PyProof.Rows
variable {X : Cx} {tg e : Expr} {te : TE}
theorem pi_val (he : PE X e te) : PI X tg e (iVal X.K te) := by
  refine ⟨fun pins s σ H R I h => ?_⟩
  refine thn (he.run pins s σ H _ I h) fun v s1 ⟨x, H1, I1, r1, q1⟩ => ?_
  rcases q1 with ⟨a, xs, ex, hq, q⟩ | ⟨a, xs, ex, hq, q⟩ | ⟨y, ex, q⟩
  · subst ex
    cases r1
    obtain ⟨its, rv, p, hz⟩ := I1.list hq
    refine wpAny_pyIter_list p.isList ?_
    refine ⟨s1.heap.objs.size, [s1.heap.objs.size], _, _, H1, rfl, I1.kept (t' := s1.toks) fun b o e => Heap.get?_push_of_some _ e, turn_list a _, ⟨_, Heap.get?_push_size _ rfl, rfl, rfl⟩, fun b hb => ?_, q⟩
    have e : b = s1.heap.objs.size := by simpa using hb
    subst e
    exact I1.fpOk (Nat.le_refl _) (I1.hok.fresh (Nat.le_refl _))
  · subst ex
    cases r1
    obtain ⟨its, rv, p, hz⟩ := I1.tuple hq
    refine wpAny_pyIter_tuple (show s1.heap.IsTuple a its.toArray from p) ?_
    refine ⟨s1.heap.objs.size, [s1.heap.objs.size], _, _, H1, rfl, I1.kept (t' := s1.toks) fun b o e => Heap.get?_push_of_some _ e, turn_tuple a _, ⟨_, Heap.get?_push_size _ rfl, rfl, rfl⟩, fun b hb => ?_, q⟩
    have e : b = s1.heap.objs.size := by simpa using hb
    subst e
    exact I1.fpOk (Nat.le_refl _) (I1.hok.fresh (Nat.le_refl _))
  · subst ex
    obtain ⟨t, rfl⟩ := r1
    cases ha : y.cps.all (· < 128)
    · exact wpAny_pyIter_wide ha (pi_one (tk := s1.toks) I1 _ (turn_str _ y t "str_iterator" (.inr rfl)) ⟨_, Heap.get?_push_size _ rfl, rfl, rfl⟩ q)
    · exact wpAny_pyIter_ascii ha (pi_one (tk := s1.toks) I1 _ (turn_str _ y t "str_ascii_iterator" (.inl rfl)) ⟨_, Heap.get?_push_size _ rfl, rfl, rfl⟩ q)
end
end Vm
/-! Vm 9: from the text to the IR: expressions. -/
namespace Vm
open PySem L2

structure Cfg where
  sc : Scope
  N : List Str
  fn : Str → Option Nat
  gl : Str → Bool
  hint : Nat → Nat → Nat → Nat → Bool
  kw : Nat → List Str → Option (List Nat)
  gd : Str → Bool := fun _ => false
def Cfg.bx (g : Cfg) (p : Pos) : Bool := g.hint p.line p.col p.endLine p.endCol
def isVis (g : Cfg) (x : Str) : Bool := match g.sc.names.lookup x with
  | some .local => true
  | some .cell => true
  | some .free => true
  | _ => false
def isGl (g : Cfg) (x : Str) : Bool := g.sc.names.lookup x == some .globalImplicit
/-- a name of a dict of the module -/
def gdOf (g : Cfg) : Expr → Option Str
  | .Name x _ => if isGl g x = true ∧ g.gd x = true ∧ g.gl x = true ∧ x ≠ "__debug__" then some x else none
  | _ => none
def inOf : CmpOp → Option Bool
  | .In => some false
  | .NotIn => some true
  | _ => none
def slotN (N : List Str) (x : Str) : Option Nat := let i := N.idxOf x; if N[i]? = some x then some i else none
def slot (g : Cfg) (x : Str) : Option Nat := if isVis g x then slotN g.N x else none
def btTab : List (Str × Nat × Bt) := [("len", 1, .len), ("abs", 1, .abs), ("int", 1, .int), ("bool", 1, .bool), ("sum", 1, .sum), ("max", 2, .max2), ("min", 2, .min2), ("max", 1, .max1), ("min", 1, .min1), ("all", 1, .all), ("any", 1, .any), ("sorted", 1, .sorted), ("list", 1, .list), ("tuple", 1, .tuple), ("dict", 1, .dict)]
def kdTab : List (Str × Kd) := [("int", .int), ("bool", .bool), ("str", .str), ("list", .list), ("tuple", .tuple), ("dict", .dict), ("set", .set)]
def btOf (x : Str) (n : Nat) : Option Bt := (btTab.find? fun q => decide (q.1 = x) && q.2.1 == n).map (·.2.2)
def kdOf (x : Str) : Option Kd := kdTab.lookup x
def mtTab : List (Str × Nat × Mt) := [("append", 1, .append), ("extend", 1, .extend), ("pop", 0, .pop), ("pop", 1, .popAt)]
def mtOf (x : Str) (n : Nat) : Option Mt := (mtTab.find? fun q => decide (q.1 = x) && q.2.1 == n).map (·.2.2)
def cKd (g : Cfg) : Expr → Option Kd
  | .Name x _ => if isGl g x then kdOf x else none
  | _ => none
def cKds (g : Cfg) : Expr → Option (List Kd)
  | .Tuple es _ _ => es.mapM (cKd g)
  | e => (cKd g e).map fun k => [k]
def cConst : Const → Option D
  | .none => some .non
  | .bool b => some (.bl b)
  | .int i => some (.int i)
  | .str x => some (.str x)
  | _ => none
mutual
def tgV : Tg → List Nat
  | .nm i => [i]
  | .tup ts => tgVs ts
def tgVs : List Tg → List Nat
  | [] => []
  | t :: ts => tgV t ++ tgVs ts
end
mutual
def cTg (g : Cfg) : Nat → Expr → Option Tg
  | 0, _ => none
  | n + 1, .Name x _ => match g.sc.names.lookup x with
    | some .local => (slotN g.N x).map .nm
    | some .cell => (slotN g.N x).map .nm
    | _ => none
  | n + 1, .Tuple es _ _ => (cTgs g n es).map .tup
  | _, _ => none
def cTgs (g : Cfg) : Nat → List Expr → Option (List Tg)
  | 0, _ => none
  | _, [] => some []
  | n + 1, e :: es => (cTg g n e).bind fun t => (cTgs g n es).map fun ts => t :: ts
end
def isRng : Expr → Bool
  | .Call (.Name x _) _ _ _ => decide (x = "range")
  | _ => false
def isItm : Expr → Bool
  | .Call (.Attribute _ m _) [] [] _ => decide (m = "items")
  | _ => false
def noSet : Expr → Bool
  | .Set _ _ _ => false
  | _ => true
def noCall : Expr → Bool
  | .Call _ _ _ _ => false
  | _ => true
def kwNames : List Keyword → Option (List Str)
  | [] => some []
  | ⟨some x, _, _⟩ :: r => (kwNames r).map fun t => x :: t
  | _ :: _ => none
/-- a block's own names with their places -/
def ownOf (N : List Str) (sc : Scope) : List (Str × Nat) := sc.names.filterMap fun y => match y.2 with
  | .local => (slotN N y.1).map fun i => (y.1, i)
  | .cell => (slotN N y.1).map fun i => (y.1, i)
  | _ => none
def cKeys : List (Option Expr) → Option (List D)
  | [] => some []
  | some (.Constant c _ _) :: r => (cConst c).bind fun d => if isKey d then (cKeys r).map fun ds => d :: ds else none
  | _ => none
mutual
def cE (g : Cfg) : Nat → Expr → Option Ex
  | 0, _ => none
  | n + 1, .Name x _ => match slot g x with
    | some i => if x = "__debug__" ∨ x = "__classdict__" then none else some (.nm i)
    | none => if isGl g x ∧ g.gl x ∧ x ≠ "__debug__" then some (.glb x) else none
  | n + 1, .Constant c _ _ => (cConst c).map .cst
  | n + 1, .Tuple (.Starred a _ :: es) _ _ => (cE g n a).bind fun x => (cEs g n es).bind fun cs => if cs.length ≤ 1000 then some (.tupS x cs) else none
  | n + 1, .List (.Starred a _ :: es) p => (cE g n a).bind fun x => (cEs g n es).bind fun cs => if cs.length ≤ 1000 then some (.lstS (g.bx p) x cs) else none
  | n + 1, .Tuple es _ _ => (cEs g n es).bind fun cs => if cs.length ≤ 1000 then some (.tup cs) else none
  | n + 1, .List es p => (cEs g n es).bind fun cs => if cs.length ≤ 1000 then some (.lst (g.bx p) cs) else none
  | _ + 1, .Dict [] [] p => some (.dct0 (g.bx p))
  | n + 1, .Dict (k :: ks) vs p => (cKeys (k :: ks)).bind fun cs => (cEs g n vs).bind fun es => if cs.length == es.length && decide (cs.length ≤ 15) then some (.dct (g.bx p) cs es) else none
  | n + 1, .BinOp a op b p => (cE g n a).bind fun x => (cE g n b).map fun y => .bin op (g.bx p) x y
  | n + 1, .UnaryOp .Not a _ => (cE g n a).map fun x => .notE (.v x)
  | n + 1, .UnaryOp op a _ => (cE g n a).map fun x => .una op x
  | n + 1, .BoolOp .And es _ => (cEs g n es).bind fun xs => match xs.getLast? with
    | some l => some (.conj xs.dropLast l)
    | none => none
  | n + 1, .BoolOp .Or es _ => (cEs g n es).bind fun xs => match xs.getLast? with
    | some l => some (.disj xs.dropLast l)
    | none => none
  | n + 1, .IfExp t a b _ => (cT g n t).bind fun u => (cE g n a).bind fun x => (cE g n b).map fun y => .ite u x y
  | n + 1, .Compare a [op] [b] _ => match gdOf g b, inOf op with
    | some x, some ng => (cE g n a).map fun y => .gin ng x y
    | _, _ => if noSet b then (cE g n a).bind fun x => (cE g n b).map fun y => .cmp op x y else none
  | n + 1, .Compare a [op, op'] [b, c] _ => if noSet b && noSet c then (cE g n a).bind fun x => (cE g n b).bind fun y => (cE g n c).map fun z => .chn op op' x y z else none
  | n + 1, .Call (.Name x px) as ks p => if isGl g x ∧ x ≠ "__debug__" then match g.fn x, ks with
      | some id, [] => (cEs g n as).map fun es => .call id (g.bx p) es (List.range es.length)
      | some id, ks => match as, kwNames ks with
        | [], some nms => (cKs g n ks).bind fun es => (g.kw id nms).map fun pm => .call id (g.bx p) es pm
        | _, _ => none
      | none, [] => match as with
        | [a] => if isRng a then cRng g n x a p else if isItm a then cItm g n x a p else match btOf x 1 with
          | some f => (cE g n a).map fun y => .blt f (g.bx p) [y]
          | none => none
        | [a, b] => if x = "isinstance" then (cE g n a).bind fun y => (cKds g b).bind fun ks => if ks.length ≤ 1000 then some (.isi y ks) else none else match btOf x 2 with
          | some f => (cE g n a).bind fun y => (cE g n b).map fun z => .blt f (g.bx p) [y, z]
          | none => none
        | _ => none
      | none, _ => none
    else none
  | n + 1, .Call (.Attribute o x ap) as [] p => if ap.endLine == p.line && noCall o then match as with
      | [] => match mtOf x 0 with
        | some f => (cE g n o).map fun y => .met f y []
        | none => none
      | [a] => match mtOf x 1 with
        | some f => (cE g n o).bind fun y => (cE g n a).map fun z => .met f y [z]
        | none => none
      | _ => none
    else none
  | n + 1, .Subscript a (.Slice lo hi none _) p => (cE g n a).bind fun x => (cO g n lo).bind fun l => (cO g n hi).map fun h => .slc (g.bx p) x l h
  | n + 1, .Subscript a (.Slice _ _ (some _) _) _ => none
  | n + 1, .Subscript a i _ => match gdOf g a with
    | some x => (cE g n i).map fun y => .gsub x y
    | none => (cE g n a).bind fun x => (cE g n i).map fun y => .sub x y
  | n + 1, .ListComp elt [⟨tg, it, ifs, 0⟩] sc p =>
    let own := ownOf g.N sc
    let g' : Cfg := { g with sc := sc }
    if blkC g.N g.sc sc own && decide (ifs.length ≤ 1) then (cTg g' n tg).bind fun t => if (tgV t).all (fun j => decide (j ∈ own.map (·.2))) then (cI g n tg it).bind fun i => (cTs g' n ifs).bind fun us => (cE g' n elt).map fun x => .lc (g.bx p) t (own.map (·.2)) i us x else none
    else none
  | n + 1, .ListComp elt [⟨tg, it, ifs, 0⟩, ⟨tg1, it1, ifs1, 0⟩] sc p =>
    let own := ownOf g.N sc
    let g' : Cfg := { g with sc := sc }
    if blkC g.N g.sc sc own && decide (ifs.length ≤ 1) && decide (ifs1.length ≤ 1) then (cTg g' n tg).bind fun t => (cTg g' n tg1).bind fun t1 =>
      if (tgV t).all (fun j => decide (j ∈ own.map (·.2))) && (tgV t1).all (fun j => decide (j ∈ own.map (·.2))) then (cI g n tg it).bind fun i => (cTs g' n ifs).bind fun us => (cI g' n tg1 it1).bind fun i1 => (cTs g' n ifs1).bind fun us1 => (cE g' n elt).map fun x =>
        .lc2 (g.bx p) t (own.map (·.2)) i us t1 (tgV t1) i1 us1 x else none
    else none
  | _, _ => none
def cEs (g : Cfg) : Nat → List Expr → Option (List Ex)
  | 0, _ => none
  | _, [] => some []
  | n + 1, e :: es => (cE g n e).bind fun x => (cEs g n es).map fun xs => x :: xs
def cKs (g : Cfg) : Nat → List Keyword → Option (List Ex)
  | 0, _ => none
  | _, [] => some []
  | n + 1, ⟨_, e, _⟩ :: es => (cE g n e).bind fun x => (cKs g n es).map fun xs => x :: xs
def cO (g : Cfg) : Nat → Option Expr → Option Op
  | 0, _ => none
  | _, none => some .no
  | n + 1, some e => (cE g n e).map .yes
/-- list(range(..)), tuple(range(..)) -/
def cRng (g : Cfg) : Nat → Str → Expr → Pos → Option Ex
  | 0, _, _, _ => none
  | n + 1, x, .Call (.Name y _) as [] _, p => if isGl g y ∧ y = "range" then
      if x = "list" then match as with
        | [a] => (cE g n a).map fun z => .rng1 (g.bx p) false z
        | [a, b] => (cE g n a).bind fun z => (cE g n b).map fun w => .rng2 (g.bx p) false z w
        | _ => none
      else if x = "tuple" then match as with
        | [a] => (cE g n a).map fun z => .rng1 false true z
        | [a, b] => (cE g n a).bind fun z => (cE g n b).map fun w => .rng2 false true z w
        | _ => none
      else none
    else none
  | _, _, _, _ => none
/-- list(e.items()) -/
def cItm (g : Cfg) : Nat → Str → Expr → Pos → Option Ex
  | 0, _, _, _ => none
  | n + 1, x, .Call (.Attribute o m ap) [] [] cp, p => if x = "list" ∧ m = "items" ∧ noCall o = true ∧ (ap.endLine == cp.line) = true then (cE g n o).map fun y => .items (g.bx p) y else none
  | _, _, _, _ => none
def cT (g : Cfg) : Nat → Expr → Option Te
  | 0, _ => none
  | n + 1, .UnaryOp .Not a _ => (cT g n a).map .neg
  | n + 1, .BoolOp .And es _ => (cTs g n es).bind fun ts => if ts.isEmpty then none else some (.conj ts)
  | n + 1, .BoolOp .Or es _ => (cTs g n es).bind fun ts => if ts.isEmpty then none else some (.disj ts)
  | n + 1, .IfExp _ _ _ _ => none
  | n + 1, .Compare a [op] [b] _ => match gdOf g b, inOf op with
    | some x, some ng => (cE g n a).map fun y => .v (.gin ng x y)
    | _, _ => if noSet b then (cE g n a).bind fun x => (cE g n b).map fun y => .cmp op x y else none
  | n + 1, .Compare a [op, op'] [b, c] _ => if noSet b && noSet c then (cE g n a).bind fun x => (cE g n b).bind fun y => (cE g n c).map fun z => .chn op op' x y z else none
  | n + 1, .Compare _ _ _ _ => none
  | n + 1, e => (cE g n e).map .v
def cTs (g : Cfg) : Nat → List Expr → Option (List Te)
  | 0, _ => none
  | _, [] => some []
  | n + 1, e :: es => (cT g n e).bind fun x => (cTs g n es).map fun xs => x :: xs
/-- what is walked (tg: the target) -/
def cI (g : Cfg) : Nat → Expr → Expr → Option It
  | 0, _, _ => none
  | n + 1, tg, .Call (.Name x px) as [] p =>
    if isGl g x ∧ g.fn x = none ∧ (x = "range" ∨ x = "enumerate" ∨ x = "zip") then
      if x = "range" then match as with
        | [a] => (cE g n a).map .rng1
        | [a, b] => (cE g n a).bind fun y => (cE g n b).map fun z => .rng2 y z
        | _ => none
      else match tg with
        | .Tuple _ _ _ => if x = "enumerate" then match as with
            | [a] => (cE g n a).map .enum
            | _ => none
          else match as with
            | [a, b] => (cE g n a).bind fun y => (cE g n b).map fun z => .zip y z
            | _ => none
        | _ => none
    else (cE g n (.Call (.Name x px) as [] p)).map .val
  | n + 1, tg, e => if noSet e then (cE g n e).map .val else none
end
end Vm
/-! Vm 10: the IR's run is the text's: expressions. -/
namespace Vm
open PySem L2

def ScK (sc : Scope) (x : Str) : NameKind → Prop
  | .local => sc.names.lookup x = some .local
  | .cell => sc.names.lookup x = some .cell
  | .free => sc.names.lookup x = some .cell ∨ sc.names.lookup x = some .free
  | .globalImplicit => sc.names.lookup x = some .globalImplicit
  | .globalExplicit => True
/-- the promise of a def: what its run tells -/
def spV (T : Tp) (call : Nat → List D → M D) (id : Nat) : Sp := fun vs H Q E => ∃ no α S ds r, RS (T.wn no) α H S ∧ RVs (T.wn no) α H ds vs ∧ call id ds S = some r ∧
  PostR (T.wn no) S.length (fun cls dd _ H' => E cls dd H') (rV (T.wn no)) α S H [] Q r
/-- the names of built-ins -/
def blNames : List Str := ["sorted", "len", "abs", "int", "bool", "sum", "max", "min", "all", "any", "list", "tuple", "str", "dict", "set", "isinstance", "range", "enumerate", "zip"]
structure CallOk (T : Tp) (X : Cx) (call : Nat → List D → M D) (kw : Nat → List Str → Option (List Nat)) (x : Str) (id : Nat) : Prop where
  mg : T.mg x = some (.ref (T.fa id))
  kp : PySem.W.keepIn X.K (.ref (T.fa id)) = true
  fn : ∃ (k : Nat) (fd : FuncData) (ps : List Str), Room k X.A ∧ FnOk X.prog X.w X.K X.mg X.base (L2.CX X.prog X.w) k (T.fa id) fd ps (spV T call id) ∧ Binds X.K fd ps [] ∧
    ∀ ks pm, kw id ks = some pm → pm.length = ps.length ∧ (∀ i ∈ pm, i < ks.length) ∧ ∀ (s : Shared) (ws : List Value), X.K.In s.heap → ws.length = ks.length → BindsTo s fd ⟨[], ks.zip ws⟩ (ps.zip (pm.map fun i => ws.getD i .none))
/-- the keys of a dict of the module: texts -/
def dkeys : List D → List DictEntry → Bool
  | [], [] => true
  | .str z :: ks, e :: es => e.key.isStr z && dkeys ks es
  | _, _ => false
/-- what a name of the module holds -/
def GlV (T : Tp) (w : World) (d : D) (u : Value) : Prop := match d with
  | .dct ks vs => ∃ (a : Addr) (es : Array DictEntry) (n : Nat) (ws : List V), u = .ref a ∧ KDict T.K w a es n ∧ dkeys ks es.toList = true ∧ Vals ws (es.toList.map (·.val)) ∧ ∀ no α H, RVs (T.wn no) α H vs ws
  | d => ∃ v, RelV v u ∧ ∀ no α H, RV (T.wn no) α H d v
structure Ok (T : Tp) (X : Cx) (g : Cfg) (C : Cf) (W : WX) : Prop where
  xt : XT T X
  N : X.N = g.N
  sc : ∀ x k, g.sc.names.lookup x = some k → ScK X.env.scope x k
  tk : Takes X W
  bl : ∀ x ∈ blNames, T.mg x = none
  gl : ∀ x d, g.gl x = true → C.glb x = some d → ∃ u, T.mg x = some u ∧ GlV T X.w d u
  call : ∀ x id, g.fn x = some id → CallOk T X C.call g.kw x id
  fnn : ∀ x, g.sc.names.lookup x = some .cell → X.fn x = true ∨ X.env.scope.names.lookup x = some .local
section
variable {T : Tp} {X : Cx} {g : Cfg} {C : Cf} {W : WX}
theorem _root_.L2.PE.imp {e : Expr} {t t' : TE} (h : PE X e t) (k : ∀ σ H Q, t' σ H Q → t σ H Q) : PE X e t' := ⟨fun pins s σ H Q I q => h.run pins s σ H Q I (k σ H Q q)⟩
theorem _root_.L2.PT.imp {e : Expr} {t t' : TT} (h : PT X e t) (k : ∀ σ H Q, t' σ H Q → t σ H Q) : PT X e t' := ⟨fun pins s σ H Q I q => h.run pins s σ H Q I (k σ H Q q)⟩
theorem _root_.L2.PW.imp {e : Expr} {t t' : TT} (h : PW X e t) (k : ∀ σ H Q, t' σ H Q → t σ H Q) : PW X e t' := ⟨fun wh pins s σ H Q I q => h.run wh pins s σ H Q I (k σ H Q q)⟩
theorem _root_.L2.PA.imp {es : List Expr} {t t' : TA} (h : PA X es t) (k : ∀ σ H Q, t' σ H Q → t σ H Q) : PA X es t' := ⟨fun pos pins s σ H Q I q => h.run pos pins s σ H Q I (k σ H Q q)⟩
theorem _root_.L2.PI.imp {tg e : Expr} {t t' : TI} (h : PI X tg e t) (k : ∀ σ H Q, t' σ H Q → t σ H Q) : PI X tg e t' := ⟨fun pins s σ H Q I q => h.run pins s σ H Q I (k σ H Q q)⟩
abbrev tE (T : Tp) (C : Cf) (W : WX) (c : Ex) : TE := tM T C.m W (ev C c) (rV T)
abbrev tEs (T : Tp) (C : Cf) (W : WX) (c : List Ex) : TA := tM T C.m W (evs C c) (rVs T)
abbrev tTe (T : Tp) (C : Cf) (W : WX) (c : Te) : TT := tM T C.m W (tst C c) rEq
/-- an expression that is no starred one -/
def noStar : Expr → Bool
  | .Starred _ _ => false
  | _ => true
theorem star_cons {e : Expr} {es : List Expr} {env : Env} (h : noStar e = true) : starEach (e :: es) env = (false, eval e env) :: starEach es env := by
  cases e <;> first | rfl | cases h
theorem star_any {pos : Pos} {env : Env} : ∀ {es : List Expr}, (∀ e ∈ es, noStar e = true) → (backTo pos (starEach es env)).any (·.1) = false
  | [], _ => rfl
  | e :: es, h => by
    rw [star_cons (h e List.mem_cons_self)]
    show (false || (backTo pos (starEach es env)).any (·.1)) = false
    rw [star_any fun e he => h e (List.mem_cons_of_mem _ he)]
    rfl
theorem cE_ns {n : Nat} {e : Expr} {c : Ex} (h : cE g n e = some c) : noStar e = true := by
  cases n with
  | zero => simp [cE] at h
  | succ n => cases e <;> first | rfl | (simp [cE] at h)
theorem cEs_paired : ∀ {n : Nat} {es : List Expr} {cs : List Ex}, cEs g n es = some cs → Paired (fun e c => ∃ k, k < n ∧ cE g k e = some c) es cs
  | 0, es, cs, h => by simp [cEs] at h
  | n + 1, [], cs, h => by simp only [cEs, Option.some.injEq] at h; subst h; exact .nil
  | n + 1, e :: es, cs, h => by
    simp only [cEs, Option.bind_eq_some_iff, Option.map_eq_some_iff] at h
    obtain ⟨x, h1, xs, h2, rfl⟩ := h
    exact .cons ⟨n, Nat.lt_succ_self n, h1⟩ (Paired.mapP (cEs_paired h2) fun e c ⟨k, hk, q⟩ => ⟨k, Nat.lt_succ_of_lt hk, q⟩)
theorem cTs_paired : ∀ {n : Nat} {es : List Expr} {cs : List Te}, cTs g n es = some cs → Paired (fun e c => ∃ k, k < n ∧ cT g k e = some c) es cs
  | 0, es, cs, h => by simp [cTs] at h
  | n + 1, [], cs, h => by simp only [cTs, Option.some.injEq] at h; subst h; exact .nil
  | n + 1, e :: es, cs, h => by
    simp only [cTs, Option.bind_eq_some_iff, Option.map_eq_some_iff] at h
    obtain ⟨x, h1, xs, h2, rfl⟩ := h
    exact .cons ⟨n, Nat.lt_succ_self n, h1⟩ (Paired.mapP (cTs_paired h2) fun e c ⟨k, hk, q⟩ => ⟨k, Nat.lt_succ_of_lt hk, q⟩)
theorem cKs_paired : ∀ {n : Nat} {es : List Keyword} {cs : List Ex}, cKs g n es = some cs → Paired (fun e c => ∃ k, k < n ∧ cE g k e.value = some c) es cs
  | 0, es, cs, h => by simp [cKs] at h
  | n + 1, [], cs, h => by simp only [cKs, Option.some.injEq] at h; subst h; exact .nil
  | n + 1, ⟨a, e, p⟩ :: es, cs, h => by
    simp only [cKs, Option.bind_eq_some_iff, Option.map_eq_some_iff] at h
    obtain ⟨x, h1, xs, h2, rfl⟩ := h
    exact .cons ⟨n, Nat.lt_succ_self n, h1⟩ (Paired.mapP (cKs_paired h2) fun e c ⟨k, hk, q⟩ => ⟨k, Nat.lt_succ_of_lt hk, q⟩)
/-- a run that goes on: the first part's reading -/
theorem goM {β δ γ γ' : Type} {m : Nat} {x : Fr → M β} {f : β → M δ} {R : Rel β γ'} {R' : Rel δ γ} {σ : L2.St} {H : Hp} {Q : γ → Hp → Prop} {P : γ' → Hp → Prop} {α : List Addr} {S : Store} {fr : Fr} {r : Rs δ}
    (hm : m ≤ S.length) (rs : RS T α H S) (rf : RF T α H fr σ) (e : bnd (x fr S) f = some r) (p : PostR T m W R' α S H σ Q r)
    (k : ∀ b S1 α1 H1 v, Nxt T m α S H α1 S1 H1 → R α1 H1 b v → m ≤ S1.length → RS T α1 H1 S1 → RF T α1 H1 fr σ → f b S1 = some r → PostR T m W R' α1 S1 H1 σ Q r → x fr S = some (.ok b S1) → P v H1) :
    tM T m W x R σ H P := by
  obtain ⟨r1, e1, p1⟩ := seqM (x := x fr) (f := f) rs rf e p (P := P) fun b S1 α1 H1 g ex n rb rf1 e1 post1 =>
    k b S1 α1 H1 g n rb (Nat.le_trans hm (n.len rs)) n.rs rf1 e1 post1 ex
  exact ⟨α, S, fr, r1, hm, rs, rf, e1, p1⟩
theorem fin {β γ : Type} {m : Nat} {R : Rel β γ} {σ : L2.St} {H : Hp} {Q : γ → Hp → Prop} {α : List Addr} {S : Store} {b : β} {v : γ} {r : Rs β} (rs : RS T α H S) (e : some (Rs.ok b S) = some r) (p : PostR T m W R α S H σ Q r) (h : R α H b v) : Q v H := by
  cases e
  exact p α H v (.refl rs) h
theorem fin1 {β γ : Type} {m : Nat} {R : Rel β γ} {σ : L2.St} {H : Hp} {Q : γ → Hp → Prop} {α : List Addr} {S : Store} {r : Rs β} {x : M β} (hx : ∀ c fs S', x S ≠ some (.ex c fs S')) (e : x S = some r) (p : PostR T m W R α S H σ Q r) : Done T m R α S H x Q := done_of hx e p
theorem pa_ok : ∀ {es : List Expr} {cs : List Ex}, Paired (fun e c => noStar e = true ∧ PE X e (tE T C W c)) es cs → PA X es (tEs T C W cs)
  | _, _, .nil => pa_nil.imp fun σ H Q h => by
    obtain ⟨α, S, fr, r, hm, rs, rf, e, p⟩ := h
    exact fin rs e p RVs_nil
  | _, _, .cons ⟨ns, he⟩ t => (pa_cons he (pa_ok t) (star_cons ns)).imp fun σ H Q h => by
    obtain ⟨α, S, fr, r, hm, rs, rf, e, p⟩ := h
    refine goM hm rs rf e p fun d S1 α1 H1 v n1 rd hm1 rs1 rf1 e1 p1 _ => ?_
    refine goM hm1 rs1 rf1 e1 p1 fun ds S2 α2 H2 vs n2 rds hm2 rs2 rf2 e2 p2 _ => ?_
    exact fin rs2 e2 p2 (RVs_cons (RV_grow rs1.bx n2.g _ _ rd) rds)
theorem pa_one {e : Expr} {c : Ex} (ns : noStar e = true) (he : PE X e (tE T C W c)) : PA X [e] (tEs T C W [c]) := pa_ok (.cons ⟨ns, he⟩ .nil)
theorem pa_two {e e' : Expr} {c c' : Ex} (ns : noStar e = true) (he : PE X e (tE T C W c)) (ns' : noStar e' = true) (he' : PE X e' (tE T C W c')) : PA X [e, e'] (tEs T C W [c, c']) := pa_ok (.cons ⟨ns, he⟩ (.cons ⟨ns', he'⟩ .nil))
theorem pk_ok : ∀ {ks : List Keyword} {cs : List Ex}, Paired (fun e c => PE X e.value (tE T C W c)) ks cs → PK X ks (tEs T C W cs)
  | _, _, .nil => ⟨fun pos pins s σ H Q I h => by
    obtain ⟨α, S, fr, r, hm, rs, rf, e, p⟩ := h
    exact pk_nil.run pos pins s σ H Q I (fin rs e p RVs_nil)⟩
  | ⟨nm, e0, kp⟩ :: _, _, .cons he t => ⟨fun pos pins s σ H Q I h => (pk_cons he (pk_ok t)).run pos pins s σ H Q I (by
    obtain ⟨α, S, fr, r, hm, rs, rf, e, p⟩ := h
    refine goM hm rs rf e p fun d S1 α1 H1 v n1 rd hm1 rs1 rf1 e1 p1 _ => ?_
    refine goM hm1 rs1 rf1 e1 p1 fun ds S2 α2 H2 vs n2 rds hm2 rs2 rf2 e2 p2 _ => ?_
    exact fin rs2 e2 p2 (RVs_cons (RV_grow rs1.bx n2.g _ _ rd) rds))⟩
/-! ### and, or -/
theorem conj_ok {p : Pos} {l : Expr} {cl : Ex} (hl : PE X l (tE T C W cl)) : ∀ {es : List Expr} {cs : List Ex}, Paired (fun e c => PE X e (tE T C W c)) es cs → PE X (.BoolOp .And (es ++ [l]) p) (tE T C W (.conj cs cl))
  | _, _, .nil => (pe_one hl).imp fun σ H Q h => by
    obtain ⟨α, S, fr, r, hm, rs, rf, e, p⟩ := h
    exact ⟨α, S, fr, r, hm, rs, rf, by simpa [ev, evConj] using e, p⟩
  | e :: es, c :: cs, .cons he t => by
    have hr := conj_ok (p := p) hl t
    have key : ∃ b rest, es ++ [l] = b :: rest := by cases es <;> exact ⟨_, _, rfl⟩
    obtain ⟨b, rest, eb⟩ := key
    show PE X (.BoolOp .And (e :: (es ++ [l])) p) _
    rw [eb] at hr ⊢
    refine (pe_and he hr).imp fun σ H Q h => ?_
    obtain ⟨α, S, fr, r, hm, rs, rf, e, p⟩ := h
    have e' : bnd (ev C c fr S) (fun d => match d with
      | .bl true => ev C (.conj cs cl) fr
      | .bl false => M.ret (.bl false)
      | _ => M.stuck) = some r := by
      rw [← e]
      simp only [ev, evConj, M.bind]
      cases ev C c fr S with
      | none => rfl
      | some q => cases q with
        | ex _ _ _ => rfl
        | ok d S1 => cases d with
          | bl b => cases b <;> rfl
          | _ => rfl
    refine goM hm rs rf e' p fun d S1 α1 H1 v n1 rd hm1 rs1 rf1 e1 p1 _ => ?_
    cases d with
    | bl b =>
      have rd : RV T α1 H1 (.bl b) v := rd
      rw [RV] at rd
      refine ⟨b, rd, ?_⟩
      cases b with
      | true => exact iteT ⟨α1, S1, fr, r, hm1, rs1, rf1, e1, p1⟩
      | false => exact iteF (fin rs1 e1 p1 (by show RV _ _ _ _ _; rw [RV]))
    | _ => cases e1
theorem disj_ok {p : Pos} {l : Expr} {cl : Ex} (hl : PE X l (tE T C W cl)) : ∀ {es : List Expr} {cs : List Ex}, Paired (fun e c => PE X e (tE T C W c)) es cs → PE X (.BoolOp .Or (es ++ [l]) p) (tE T C W (.disj cs cl))
  | _, _, .nil => (pe_one hl).imp fun σ H Q h => by
    obtain ⟨α, S, fr, r, hm, rs, rf, e, p⟩ := h
    exact ⟨α, S, fr, r, hm, rs, rf, by simpa [ev, evDisj] using e, p⟩
  | e :: es, c :: cs, .cons he t => by
    have hr := disj_ok (p := p) hl t
    have key : ∃ b rest, es ++ [l] = b :: rest := by cases es <;> exact ⟨_, _, rfl⟩
    obtain ⟨b, rest, eb⟩ := key
    show PE X (.BoolOp .Or (e :: (es ++ [l])) p) _
    rw [eb] at hr ⊢
    refine (pe_or he hr).imp fun σ H Q h => ?_
    obtain ⟨α, S, fr, r, hm, rs, rf, e, p⟩ := h
    have e' : bnd (ev C c fr S) (fun d => match d with
      | .bl true => M.ret (.bl true)
      | .bl false => ev C (.disj cs cl) fr
      | _ => M.stuck) = some r := by
      rw [← e]
      simp only [ev, evDisj, M.bind]
      cases ev C c fr S with
      | none => rfl
      | some q => cases q with
        | ex _ _ _ => rfl
        | ok d S1 => cases d with
          | bl b => cases b <;> rfl
          | _ => rfl
    refine goM hm rs rf e' p fun d S1 α1 H1 v n1 rd hm1 rs1 rf1 e1 p1 _ => ?_
    cases d with
    | bl b =>
      have rd : RV T α1 H1 (.bl b) v := rd
      rw [RV] at rd
      refine ⟨b, rd, ?_⟩
      cases b with
      | true => exact iteT (fin rs1 e1 p1 (by show RV _ _ _ _ _; rw [RV]))
      | false => exact iteF ⟨α1, S1, fr, r, hm1, rs1, rf1, e1, p1⟩
    | _ => cases e1
theorem tconj_ok {p : Pos} : ∀ {es : List Expr} {cs : List Te}, Paired (fun e c => PT X e (tTe T C W c)) es cs → es ≠ [] → PW X (.BoolOp .And es p) (tTe T C W (.conj cs))
  | [e], [c], .cons he .nil, _ => (pw_and1 he).imp fun σ H Q h => by
    obtain ⟨α, S, fr, r, hm, rs, rf, e, p⟩ := h
    have e0 : bnd (tst C c fr S) (fun k => if k then M.ret true else M.ret false) = some r := by simpa [tst, tsConj, M.bind] using e
    refine goM hm rs rf e0 p fun d S1 α1 H1 v n1 rd hm1 rs1 rf1 e1 p1 _ => ?_
    have rd : v = d := rd
    subst rd
    cases v <;> exact fin rs1 e1 p1 rfl
  | e :: e2 :: es, c :: c2 :: cs, .cons he t, _ => by
    refine (pw_and he (tconj_ok t (by simp))).imp fun σ H Q h => ?_
    obtain ⟨α, S, fr, r, hm, rs, rf, e, p⟩ := h
    have e0 : bnd (tst C c fr S) (fun k => if k then tst C (.conj (c2 :: cs)) fr else M.ret false) = some r := by simpa only [tst, tsConj, M.bind] using e
    refine goM hm rs rf e0 p fun d S1 α1 H1 v n1 rd hm1 rs1 rf1 e1 p1 _ => ?_
    have rd : v = d := rd
    subst rd
    cases v with
    | true => exact iteT ⟨α1, S1, fr, r, hm1, rs1, rf1, e1, p1⟩
    | false => exact iteF (fin rs1 e1 p1 rfl)
  | [], _, .nil, h => absurd rfl h
theorem tdisj_ok {p : Pos} : ∀ {es : List Expr} {cs : List Te}, Paired (fun e c => PT X e (tTe T C W c)) es cs → es ≠ [] → PW X (.BoolOp .Or es p) (tTe T C W (.disj cs))
  | [e], [c], .cons he .nil, _ => (pw_or1 he).imp fun σ H Q h => by
    obtain ⟨α, S, fr, r, hm, rs, rf, e, p⟩ := h
    have e0 : bnd (tst C c fr S) (fun k => if k then M.ret true else M.ret false) = some r := by simpa [tst, tsDisj, M.bind] using e
    refine goM hm rs rf e0 p fun d S1 α1 H1 v n1 rd hm1 rs1 rf1 e1 p1 _ => ?_
    have rd : v = d := rd
    subst rd
    cases v <;> exact fin rs1 e1 p1 rfl
  | e :: e2 :: es, c :: c2 :: cs, .cons he t, _ => by
    refine (pw_or he (tdisj_ok t (by simp))).imp fun σ H Q h => ?_
    obtain ⟨α, S, fr, r, hm, rs, rf, e, p⟩ := h
    have e0 : bnd (tst C c fr S) (fun k => if k then M.ret true else tst C (.disj (c2 :: cs)) fr) = some r := by simpa only [tst, tsDisj, M.bind] using e
    refine goM hm rs rf e0 p fun d S1 α1 H1 v n1 rd hm1 rs1 rf1 e1 p1 _ => ?_
    have rd : v = d := rd
    subst rd
    cases v with
    | true => exact iteT (fin rs1 e1 p1 rfl)
    | false => exact iteF ⟨α1, S1, fr, r, hm1, rs1, rf1, e1, p1⟩
  | [], _, .nil, h => absurd rfl h
end
end Vm
/-! Vm 11: the IR's run is the text's: each construct. -/
namespace Vm
open PySem L2
section
variable {T : Tp} {X : Cx} {g : Cfg} {C : Cf} {W : WX} {e e' a b : Expr} {c c' ca cb : Ex} {pos : Pos}
theorem slotN_ok {N : List Str} {x : Str} {i : Nat} (h : slotN N x = some i) : N[i]? = some x := by
  unfold slotN at h
  simp only at h
  split at h
  · cases h; assumption
  · cases h
theorem se_nm {i : Nat} {x : Str} (ok : Ok T X g C W) (h : slot g x = some i) (hd : x ≠ "__debug__" ∧ x ≠ "__classdict__") : PE X (.Name x pos) (tE T C W (.nm i)) := by
  unfold slot at h
  split at h
  · rename_i hv
    have vis : Vis X.env.scope x := by
      unfold isVis at hv
      split at hv
      · rename_i q; exact .inl (ok.sc x _ q)
      · rename_i q; exact .inr (.inl (ok.sc x _ q))
      · rename_i q; exact .inr (ok.sc x _ q)
      · cases hv
    refine (pe_var (i := i) (by rw [ok.N]; exact slotN_ok h) vis (beq_eq_false_iff_ne.mpr hd.1) (beq_eq_false_iff_ne.mpr hd.2)).imp fun σ H Q h => ?_
    obtain ⟨α, S, fr, r, hm, rs, rf, e, p⟩ := h
    simp only [ev, lift] at e
    obtain ⟨d, e1, rfl⟩ := Option.map_eq_some_iff.mp e
    obtain ⟨v, h1, h2⟩ := rf.at_ i d e1
    exact ⟨v, h1, fin rs rfl p h2⟩
  · cases h
theorem se_cst {k : Nat} {cc : Const} {d : D} (h : cConst cc = some d) : PE X (.Constant cc k pos) (tE T C W (.cst d)) := by
  have key : ∀ {v : V} {t : TE}, PE X (.Constant cc k pos) (tC v) → (∀ α H, RV T α H d v) → PE X (.Constant cc k pos) (tE T C W (.cst d)) := fun h1 h2 => h1.imp fun σ H Q h => by
    obtain ⟨α, S, fr, r, hm, rs, rf, e, p⟩ := h
    exact fin rs e p (h2 α H)
  cases cc <;> simp only [cConst, Option.some.injEq, reduceCtorEq] at h <;> subst h
  · exact key (t := tC .non) pe_non fun _ _ => by rw [RV]
  · exact key (t := tC .non) pe_bl fun _ _ => by rw [RV]
  · exact key (t := tC .non) pe_int fun _ _ => by rw [RV]
  · exact key (t := tC .non) pe_str fun _ _ => by rw [RV]
theorem gl_of {x : Str} (ok : Ok T X g C W) (h : isGl g x = true) : Gl X x := by
  unfold isGl at h
  exact ok.sc x _ (beq_iff_eq.mp h)
theorem se_glb {x : Str} (ok : Ok T X g C W) (h1 : isGl g x = true) (h2 : g.gl x = true) (hd : x ≠ "__debug__") : PE X (.Name x pos) (tE T C W (.glb x)) := by
  refine ⟨fun pins s σ H Q I h => ?_⟩
  obtain ⟨α, S, fr, r, hm, rs, rf, e, p⟩ := h
  simp only [ev, lift] at e
  obtain ⟨d, e1, rfl⟩ := Option.map_eq_some_iff.mp e
  have ed : C.glb x = some d ∧ ∀ ks vs, d ≠ .dct ks vs := by
    cases ec : C.glb x with
    | none => rw [ec] at e1; cases e1
    | some d' =>
      rw [ec] at e1
      cases d' with
      | dct ks vs => cases e1
      | _ => cases e1; exact ⟨rfl, fun _ _ => nofun⟩
  obtain ⟨u, hu, hv⟩ := ok.gl x d h2 ed.1
  have hv' : ∃ v, RelV v u ∧ ∀ no α H, RV (T.wn no) α H d v := by
    cases d with
    | dct ks vs => exact absurd rfl (ed.2 ks vs)
    | _ => exact hv
  obtain ⟨v, ru, hr⟩ := hv'
  exact (pe_glob (gl_of ok h1) (by rw [ok.xt.mg]; exact hu) ru (beq_eq_false_iff_ne.mpr hd)).run pins s σ H Q I (fin rs rfl p (hr T.no α H))
theorem evs_len : ∀ {cs : List Ex} {fr : Fr} {S S' : Store} {ds : List D}, evs C cs fr S = some (.ok ds S') → ds.length = cs.length
  | [], fr, S, S', ds, h => by cases h; rfl
  | c :: cs, fr, S, S', ds, h => by
    simp only [evs, M.bind] at h
    cases h1 : ev C c fr S with
    | none => rw [h1] at h; cases h
    | some q =>
      rw [h1] at h
      cases q with
      | ex _ _ _ => cases h
      | ok d S1 =>
        rw [bnd_ok, M.bind_ap] at h
        cases h2 : evs C cs fr S1 with
        | none => rw [h2] at h; cases h
        | some q =>
          rw [h2] at h
          cases q with
          | ex _ _ _ => cases h
          | ok es S2 =>
            rw [bnd_ok] at h
            cases h
            rw [List.length_cons, List.length_cons, evs_len h2]
theorem line1000 {n : Nat} (h : n ≤ 1000) : n ≤ sizeLine := by
  have e : sizeLine = 16777216 := sizeLine_eq
  omega
theorem se_tup {es : List Expr} {cs : List Ex} {k : Nat} (h : PA X es (tEs T C W cs)) (hl : cs.length ≤ 1000) : PE X (.Tuple es k pos) (tE T C W (.tup cs)) := by
  refine (pe_tup h).imp fun σ H Q h => ?_
  obtain ⟨α, S, fr, r, hm, rs, rf, e, p⟩ := h
  refine goM hm rs rf e p fun ds S1 α1 H1 vs n1 rd hm1 rs1 rf1 e1 p1 ex => ?_
  have l1 := evs_len ex
  have l2 := RVs_len rd
  refine ⟨line1000 (by omega), fun q hq => ?_⟩
  exact (fin1 (fun c fs S' z => by cases z) e1 p1).tup rs1 rd hq
theorem se_lst {es : List Expr} {cs : List Ex} {bx : Bool} (h : PA X es (tEs T C W cs)) (hl : cs.length ≤ 1000) : PE X (.List es pos) (tE T C W (.lst bx cs)) := by
  refine (pe_lst h).imp fun σ H Q h => ?_
  obtain ⟨α, S, fr, r, hm, rs, rf, e, p⟩ := h
  refine goM hm rs rf e p fun ds S1 α1 H1 vs n1 rd hm1 rs1 rf1 e1 p1 ex => ?_
  have l1 := evs_len ex
  have l2 := RVs_len rd
  refine ⟨line1000 (by omega), fun q hq => ?_⟩
  exact (fin1 (fun c fs S' z => by cases bx <;> cases z) e1 p1).mkL hm1 rs1 rd hq
theorem se_tupS {es : List Expr} {cs : List Ex} {k : Nat} {sp : Pos} (xt : XT T X) (ha : PE X a (tE T C W ca)) (h : PA X es (tEs T C W cs)) (hl : cs.length ≤ 1000) : PE X (.Tuple (.Starred a sp :: es) k pos) (tE T C W (.tupS ca cs)) := by
  refine (pe_tup (StX.pa_star ha h)).imp fun σ H Q h => ?_
  obtain ⟨α, S, fr, r, hm, rs, rf, e, p⟩ := h
  refine goM hm rs rf e p fun d S1 α1 H1 v n1 rd hm1 rs1 rf1 e1 p1 _ => ?_
  cases hx : seqOf S1 d with
  | none => rw [hx] at e1; cases e1
  | some xs =>
    rw [hx] at e1
    obtain ⟨q, vs, rfl, h1, h2⟩ := seqOf_ok rs1 rd hx
    refine ⟨q, vs, rfl, by rw [xt.K]; exact h1.symm, ?_⟩
    refine goM (x := evs C cs) hm1 rs1 rf1 e1 p1 fun ds S2 α2 H2 ws n2 rd2 hm2 rs2 rf2 e2 p2 ex => ?_
    split at e2
    · rename_i hf
      have l1 := evs_len ex
      have l2 := RVs_len rd2
      have l3 := RVs_len h2
      have l4 := fits_ok hf
      refine ⟨by rw [List.length_append, ← l2, ← l3, l1]; have e : sizeLine = 16777216 := sizeLine_eq; omega, fun q hq => ?_⟩
      exact (fin1 (fun c fs S' z => by cases z) e2 p2).tup rs2 (RVs_app (RVs_grow rs1.bx n2.g _ _ h2) rd2) hq
    · cases e2
theorem se_lstS {es : List Expr} {cs : List Ex} {bx : Bool} {sp : Pos} (xt : XT T X) (ha : PE X a (tE T C W ca)) (h : PA X es (tEs T C W cs)) (hl : cs.length ≤ 1000) : PE X (.List (.Starred a sp :: es) pos) (tE T C W (.lstS bx ca cs)) := by
  refine (pe_lst (StX.pa_star ha h)).imp fun σ H Q h => ?_
  obtain ⟨α, S, fr, r, hm, rs, rf, e, p⟩ := h
  refine goM hm rs rf e p fun d S1 α1 H1 v n1 rd hm1 rs1 rf1 e1 p1 _ => ?_
  cases hx : seqOf S1 d with
  | none => rw [hx] at e1; cases e1
  | some xs =>
    rw [hx] at e1
    obtain ⟨q, vs, rfl, h1, h2⟩ := seqOf_ok rs1 rd hx
    refine ⟨q, vs, rfl, by rw [xt.K]; exact h1.symm, ?_⟩
    refine goM (x := evs C cs) hm1 rs1 rf1 e1 p1 fun ds S2 α2 H2 ws n2 rd2 hm2 rs2 rf2 e2 p2 ex => ?_
    split at e2
    · rename_i hf
      have l1 := evs_len ex
      have l2 := RVs_len rd2
      have l3 := RVs_len h2
      have l4 := fits_ok hf
      refine ⟨by rw [List.length_append, ← l2, ← l3, l1]; have e : sizeLine = 16777216 := sizeLine_eq; omega, fun q hq => ?_⟩
      exact (fin1 (fun c fs S' z => by cases bx <;> cases z) e2 p2).mkL hm2 rs2 (RVs_app (RVs_grow rs1.bx n2.g _ _ h2) rd2) hq
    · cases e2
/-! ### a dict of the module -/
theorem gdOf_ok {x : Str} (h : gdOf g a = some x) : ∃ p, a = .Name x p ∧ isGl g x = true ∧ g.gl x = true ∧ x ≠ "__debug__" := by
  cases a with
  | Name y p =>
    simp only [gdOf] at h
    split at h
    · rename_i hc
      cases h
      exact ⟨p, rfl, hc.1, hc.2.2.1, hc.2.2.2⟩
    · cases h
  | _ => cases h
theorem dkeys_any {z : Str} : ∀ {ks : List D} {es : List DictEntry}, dkeys ks es = true → es.any (·.refKey) = false ∧ (es.find? (·.key.isStr z)).isSome = ks.any fun y => same y (.str z)
  | [], [], _ => ⟨rfl, rfl⟩
  | [], _ :: _, h => by simp [dkeys] at h
  | d :: ks, [], h => by cases d <;> simp [dkeys] at h
  | d :: ks, e :: es, h => by
    cases d with
    | str y =>
      simp only [dkeys, Bool.and_eq_true] at h
      obtain ⟨h1, h2⟩ := h
      obtain ⟨i1, i2⟩ := dkeys_any (z := z) h2
      obtain ⟨hh, ek, ev⟩ := e
      cases ek with
      | str y' t =>
        have e1 : y' = y := by simpa [Value.isStr] using h1
        subst e1
        refine ⟨by rw [List.any_cons, i1]; rfl, ?_⟩
        rw [List.find?_cons, List.any_cons]
        by_cases hz : y' = z
        · subst hz; simp [Value.isStr, same]
        · have hz' : (y' == z) = false := by simpa using hz
          simp only [Value.isStr, same, hz', Bool.false_or]
          exact i2
      | _ => cases h1
    | _ => simp [dkeys] at h
theorem dkeys_get {z : Str} {α : List Addr} {H : Hp} {d : D} : ∀ {ks : List D} {es : List DictEntry} {vs : List D} {ws : List V}, dkeys ks es = true → Vals ws (es.map (·.val)) → RVs T α H vs ws → dgetL ks vs (.str z) = some d → ∃ e v, es.find? (·.key.isStr z) = some e ∧ RelV v e.val ∧ RV T α H d v
  | [], es, vs, ws, _, _, _, h => by cases vs <;> simp [dgetL] at h
  | y :: ks, [], vs, ws, h, _, _, _ => by cases y <;> simp [dkeys] at h
  | y :: ks, e :: es, [], ws, _, _, _, h => by simp [dgetL] at h
  | y :: ks, e :: es, v0 :: vs, ws, h, hw, hr, hd => by
    cases y with
    | str y =>
      simp only [dkeys, Bool.and_eq_true] at h
      obtain ⟨h1, h2⟩ := h
      obtain ⟨hh, ek, ev⟩ := e
      cases ek with
      | str y' t =>
        have e1 : y' = y := by simpa [Value.isStr] using h1
        subst e1
        rw [RVs] at hr
        obtain ⟨w, ws', rfl, r1, r2⟩ := hr
        cases hw with
        | cons q1 q2 =>
          rw [dgetL] at hd
          rw [List.find?_cons]
          by_cases hz : y' = z
          · subst hz
            simp only [same, beq_self_eq_true, if_true] at hd
            cases hd
            exact ⟨_, w, by simp [Value.isStr], q1, r1⟩
          · have hz' : (y' == z) = false := by simpa using hz
            simp only [same, hz', Bool.false_eq_true, if_false] at hd
            simp only [Value.isStr, hz']
            exact dkeys_get h2 q2 r2 hd
      | _ => cases h1
    | _ => simp [dkeys] at h
theorem gd_nsIn {K : PySem.W.Frag} {w : World} {q : Addr} {es : Array DictEntry} {n : Nat} (D : KDict K w q es n) {z : Str} (h : es.toList.any (·.refKey) = false) : PySem.W.nsIn K q z = some ((es.toList.find? (·.key.isStr z)).map (·.val)) := by
  unfold PySem.W.nsIn
  rw [D.at_]
  simp only
  cases es.toList.find? (·.key.isStr z) with
  | none => simp [h]
  | some e => rfl
theorem gd_run {x : Str} {ks vs : List D} (ec : C.glb x = some (.dct ks vs)) {fr : Fr} : ev C (.gsub x cb) fr = (M.bind (ev C cb fr) fun k => lift (gdGet ks vs k)) ∧ ∀ ng, ev C (.gin ng x ca) fr = M.bind (ev C ca fr) fun k => lift ((gdHas ks k).map fun b => .bl (if ng then !b else b)) := by
  refine ⟨?_, fun ng => ?_⟩ <;> simp only [ev, ec]
theorem gd_dct {x : Str} {fr : Fr} {S : Store} {r : Rs D} {ng : Bool} (h : ev C (.gsub x cb) fr S = some r ∨ ev C (.gin ng x cb) fr S = some r) : ∃ ks vs, C.glb x = some (.dct ks vs) := by
  cases ec : C.glb x with
  | none => simp only [ev, ec] at h; rcases h with h | h <;> cases h
  | some d =>
    cases d with
    | dct ks vs => exact ⟨ks, vs, rfl⟩
    | _ => simp only [ev, ec] at h; rcases h with h | h <;> cases h
theorem se_gsub {x : Str} (ok : Ok T X g C W) (hx : gdOf g a = some x) (hp : PlainIx b) (hb : PE X b (tE T C W cb)) : PE X (.Subscript a b pos) (tE T C W (.gsub x cb)) := by
  obtain ⟨p0, rfl, hg, hl, hn⟩ := gdOf_ok hx
  refine ⟨fun pins s σ H Q I h => ?_⟩
  obtain ⟨α, S, fr, r, hm, rs, rf, e, p⟩ := h
  obtain ⟨ks, vs, ec⟩ := gd_dct (ng := true) (.inl e)
  rw [(gd_run (ca := cb) ec).1] at e
  obtain ⟨u, hu, q, es, n, ws, rfl, D0, hk, hw, hr⟩ := ok.gl x _ hl ec
  have D : KDict X.K X.w q es n := by rw [ok.xt.K]; exact D0
  refine PyProof.Rows.Subscript_ (binT (tb := tE T C W cb) (R := fun y1 y2 H2 => ∃ (z : Str) (u0 : Value) (v0 : V), y1 = V.ref q ∧ y2 = V.str z ∧ PySem.W.nsIn X.K q z = some (some u0) ∧ RelV v0 u0 ∧ Q v0 H2)
    (pe_glob (v := .ref q) (gl_of ok hg) (by rw [ok.xt.mg]; exact hu) rfl (beq_eq_false_iff_ne.mpr hn)) hb I ?_ fun v u s2 y1 y2 H2 I2 rx ry q2 => ?_)
  · refine goM hm rs rf e p fun d S1 α1 H1 v n1 rd hm1 rs1 rf1 e1 p1 _ => ?_
    have rd : RV T α1 H1 d v := rd
    cases d with
    | str z =>
      rw [RV] at rd
      simp only [lift, gdGet] at e1
      obtain ⟨d', e2, rfl⟩ := Option.map_eq_some_iff.mp e1
      obtain ⟨en, v0, f1, f2, f3⟩ := dkeys_get (T := T) (α := α1) (H := H1) hk hw (hr T.no α1 H1) e2
      refine ⟨z, en.val, v0, rfl, rd, by rw [gd_nsIn D (dkeys_any (z := z) hk).1, f1]; rfl, f2, ?_⟩
      exact fin rs1 rfl p1 f3
    | _ => cases e1
  · obtain ⟨z, u0, v0, rfl, rfl, f1, f2, f3⟩ := q2
    cases rx
    refine PyProof.Rows.subscriptTail_ops (kd_type D I2) PySem.F.slot_dict_getitem.lookup (op_item_kd D pins s2 σ H2 (.ref q) (.str z) _ u Q I2 rfl ry ⟨z, u0, v0, rfl, rfl, f1, f2, f3⟩) (hp _ _) fun r => rfl
theorem in_ok {op : CmpOp} {ng : Bool} {q : Addr} {es : Array DictEntry} {n : Nat} (D : KDict X.K X.w q es n) (h : inOf op = some ng) : OpR X (compareOp op) (fun x y H Q => ∃ (z : Str) (r : Option Value), x = .str z ∧ y = .ref q ∧ PySem.W.nsIn X.K q z = some r ∧ Q (.bl (if ng then !r.isSome else r.isSome)) H) := by
  cases op <;> first | (cases h; done) | skip
  · cases h; exact op_in_kd D
  · cases h; exact op_notIn_kd D
theorem gin_run {x : Str} {ng : Bool} {ks vs : List D} {q : Addr} {es : Array DictEntry} {n : Nat} (hk : dkeys ks es.toList = true) (D : KDict X.K X.w q es n) {σ : L2.St} {H : Hp} {Q : VK} (ec : C.glb x = some (.dct ks vs)) (h : tE T C W (.gin ng x ca) σ H Q) :
    tE T C W ca σ H fun v H1 => ∃ (z : Str) (r : Option Value) (k : Bool), v = .str z ∧ PySem.W.nsIn X.K q z = some r ∧ k = (if ng then !r.isSome else r.isSome) ∧ Q (.bl k) H1 := by
  obtain ⟨α, S, fr, r, hm, rs, rf, e, p⟩ := h
  rw [(gd_run (cb := ca) ec).2] at e
  refine goM hm rs rf e p fun d S1 α1 H1 v n1 rd hm1 rs1 rf1 e1 p1 _ => ?_
  have rd : RV T α1 H1 d v := rd
  cases d with
  | str z =>
    rw [RV] at rd
    obtain ⟨k1, k2⟩ := dkeys_any (z := z) hk
    refine ⟨z, _, _, rd, gd_nsIn D k1, rfl, ?_⟩
    simp only [gdHas, Option.map_some] at e1
    rw [Option.isSome_map, k2]
    exact fin rs1 e1 p1 (by show RV _ _ _ _ _; rw [RV])
  | _ => cases e1
theorem se_gin {x : Str} {op : CmpOp} {ng : Bool} (ok : Ok T X g C W) (hx : gdOf g b = some x) (ho : inOf op = some ng) (ha : PE X a (tE T C W ca)) : PE X (.Compare a [op] [b] pos) (tE T C W (.gin ng x ca)) := by
  obtain ⟨p0, rfl, hg, hl, hn⟩ := gdOf_ok hx
  refine ⟨fun pins s σ H Q I h => ?_⟩
  have key : ∃ ks vs, C.glb x = some (.dct ks vs) := by
    obtain ⟨α, S, fr, r, hm, rs, rf, e, p⟩ := h
    exact gd_dct (.inr e)
  obtain ⟨ks, vs, ec⟩ := key
  obtain ⟨u, hu, q, es, n, ws, rfl, D0, hk, hw, hr⟩ := ok.gl x _ hl ec
  have D : KDict X.K X.w q es n := by rw [ok.xt.K]; exact D0
  refine (pe_cmpR (in_ok D ho) ha (pe_glob (v := .ref q) (gl_of ok hg) (by rw [ok.xt.mg]; exact hu) rfl (beq_eq_false_iff_ne.mpr hn)) rfl).run pins s σ H Q I ?_
  have h2 := gin_run hk D ec h
  obtain ⟨α, S, fr, r, hm, rs, rf, e, p⟩ := h2
  refine ⟨α, S, fr, r, hm, rs, rf, e, ?_⟩
  cases r with
  | ok b S' => exact fun α' H' g n1 q1 => let ⟨z, r, k, h1, h2, h3, h4⟩ := p α' H' g n1 q1; ⟨z, r, h1, rfl, h2, h3 ▸ h4⟩
  | ex c fs S' => exact p
theorem st_gin {x : Str} {op : CmpOp} {ng : Bool} (ok : Ok T X g C W) (hx : gdOf g b = some x) (ho : inOf op = some ng) (ha : PE X a (tE T C W ca)) : PT X (.Compare a [op] [b] pos) (tTe T C W (.v (.gin ng x ca))) := by
  obtain ⟨p0, rfl, hg, hl, hn⟩ := gdOf_ok hx
  refine ⟨fun pins s σ H Q I h => ?_⟩
  have h1 : tE T C W (.gin ng x ca) σ H fun v H1 => ∃ k, v = .bl k ∧ Q k H1 := by
    obtain ⟨α, S, fr, r, hm, rs, rf, e, p⟩ := h
    simp only [tst] at e
    refine goM hm rs rf e p fun d S1 α1 H1 v n1 rd hm1 rs1 rf1 e1 p1 ex => ?_
    have hb : ∃ k, d = .bl k := by
      obtain ⟨ks, vs, ec⟩ := gd_dct (.inr ex)
      rw [(gd_run (cb := ca) ec).2] at ex
      simp only [M.bind] at ex
      cases ez : ev C ca fr S with
      | none => rw [ez] at ex; cases ex
      | some q => cases q with
        | ex _ _ _ => rw [ez] at ex; cases ex
        | ok d2 S2 =>
          rw [ez, bnd_ok] at ex
          cases hh : gdHas ks d2 with
          | none => rw [hh] at ex; cases ex
          | some k0 => rw [hh] at ex; cases ex; exact ⟨_, rfl⟩
    obtain ⟨k, rfl⟩ := hb
    have rd : RV T α1 H1 (.bl k) v := rd
    rw [RV] at rd
    exact ⟨k, rd, fin rs1 e1 p1 rfl⟩
  have key : ∃ ks vs, C.glb x = some (.dct ks vs) := by
    obtain ⟨α, S, fr, r, hm, rs, rf, e, p⟩ := h1
    exact gd_dct (.inr e)
  obtain ⟨ks, vs, ec⟩ := key
  obtain ⟨u, hu, q, es, n, ws, rfl, D0, hk, hw, hr⟩ := ok.gl x _ hl ec
  have D : KDict X.K X.w q es n := by rw [ok.xt.K]; exact D0
  refine (pt_cmpR (in_ok D ho) ha (pe_glob (v := .ref q) (gl_of ok hg) (by rw [ok.xt.mg]; exact hu) rfl (beq_eq_false_iff_ne.mpr hn)) rfl).run pins s σ H Q I ?_
  have h2 := gin_run hk D ec h1
  obtain ⟨α, S, fr, r, hm, rs, rf, e, p⟩ := h2
  refine ⟨α, S, fr, r, hm, rs, rf, e, ?_⟩
  cases r with
  | ok b S' => exact fun α' H' g n1 q1 => let ⟨z, r, k, h1, h2, h3, k', h4, h5⟩ := p α' H' g n1 q1; ⟨z, r, h1, rfl, h2, k', by rw [← h4, h3], h5⟩
  | ex c fs S' => exact p
theorem se_dct0 {bx : Bool} : PE X (.Dict [] [] pos) (tE T C W (.dct0 bx)) := by
  refine pe_dnewK.imp fun σ H Q h => ?_
  obtain ⟨α, S, fr, r, hm, rs, rf, e, p⟩ := h
  exact fun q hq => (fin1 (fun c fs S' z => by cases bx <;> cases z) e p).mkK hm rs rfl RVs_nil hq
theorem se_bin {op : Operator} {bx : Bool} (x : XT T X) (ha : PE X a (tE T C W ca)) (hb : PE X b (tE T C W cb)) : PE X (.BinOp a op b pos) (tE T C W (.bin op bx ca cb)) := by
  refine (pe_op (op_bin (m := C.m) (bx := bx) x) ha hb).imp fun σ H Q h => ?_
  obtain ⟨α, S, fr, r, hm, rs, rf, e, p⟩ := h
  refine goM hm rs rf e p fun d S1 α1 H1 v n1 rd hm1 rs1 rf1 e1 p1 _ => ?_
  refine goM hm1 rs1 rf1 e1 p1 fun d2 S2 α2 H2 v2 n2 rd2 hm2 rs2 rf2 e2 p2 _ => ?_
  cases eo : binD S2 op d d2 with
  | none => rw [eo] at e2; cases e2
  | some o =>
    rw [eo] at e2
    refine ⟨α2, S2, d, d2, o, hm2, rs2, RV_grow rs1.bx n2.g _ _ rd, rd2, eo, fin1 (fun c fs S' z => ?_) e2 p2⟩
    cases o with
    | v d => cases z
    | l ds => cases bx <;> cases z
    | k ks vs => cases bx <;> cases z
theorem mkO_ex {bx : Bool} {o : Ou} {S : Store} (c : Nat) (fs : List D) (S' : Store) : mkO bx o S ≠ some (.ex c fs S') := by
  cases o with
  | v d => intro z; cases z
  | l ds => intro z; cases bx <;> cases z
  | k ks vs => intro z; cases bx <;> cases z
theorem se_una {op : UnaryOp} (ha : PE X a (tE T C W ca)) : PE X (.UnaryOp op a pos) (tE T C W (.una op ca)) := by
  have key : ∀ {f : Int → Int}, UnR X (unaryOp op) (rU fun i => .int (f i)) → (∀ d k, unaD op d = some k → ∃ i, d = D.int i ∧ k = D.int (f i)) → PE X (.UnaryOp op a pos) (tE T C W (.una op ca)) := fun {f} hu hk => by
    refine (pe_un hu ha).imp fun σ H Q h => ?_
    obtain ⟨α, S, fr, r, hm, rs, rf, e, p⟩ := h
    refine goM hm rs rf e p fun d S1 α1 H1 v n1 rd hm1 rs1 rf1 e1 p1 _ => ?_
    simp only [lift] at e1
    obtain ⟨k, e2, rfl⟩ := Option.map_eq_some_iff.mp e1
    obtain ⟨i, rfl, rfl⟩ := hk d k e2
    have rd : RV T α1 H1 (.int i) v := rd
    rw [RV] at rd
    exact ⟨i, rd, fin rs1 rfl p1 (by show RV _ _ _ _ _; rw [RV])⟩
  have no : (∀ d, unaD op d = none) → PE X (.UnaryOp op a pos) (tE T C W (.una op ca)) := fun hn => by
    refine ⟨fun pins s σ H Q I h => ?_⟩
    obtain ⟨α, S, fr, r, hm, rs, rf, e, p⟩ := h
    refine PyProof.Rows.UnaryOp_ (thn (ha.run pins s σ H _ I (goM (P := fun _ _ => False) hm rs rf e p fun d S1 α1 H1 v n1 rd hm1 rs1 rf1 e1 p1 _ => ?_)) fun _ _ ⟨_, _, _, _, z⟩ => z.elim)
    rw [hn d] at e1
    cases e1
  cases op with
  | Not => exact no fun d => rfl
  | UAdd => exact no fun d => rfl
  | USub => exact key un_neg fun d k e => by cases d <;> cases e; exact ⟨_, rfl, rfl⟩
  | Invert => exact key un_inv fun d k e => by cases d <;> cases e; exact ⟨_, rfl, rfl⟩
theorem se_not (x : XT T X) (ha : PE X a (tE T C W ca)) : PE X (.UnaryOp .Not a pos) (tE T C W (.notE (.v ca))) := by
  refine (pe_notT ha).imp fun σ H Q h => ?_
  obtain ⟨α, S, fr, r, hm, rs, rf, e, p⟩ := h
  have e0 : bnd (ev C ca fr S) (fun d => fun S => bnd (lift (truth S d) S) fun k => M.ret (.bl (!k))) = some r := by
    rw [← e]
    simp only [ev, tst, M.bind]
    cases ev C ca fr S with
    | none => rfl
    | some q => cases q <;> rfl
  refine goM hm rs rf e0 p fun d S1 α1 H1 v n1 rd hm1 rs1 rf1 e1 p1 _ => ?_
  cases ht : truth S1 d with
  | none => rw [ht] at e1; cases e1
  | some k =>
    rw [ht] at e1
    exact ⟨k, truth_ok x rs1 rd ht, fin rs1 e1 p1 (by show RV _ _ _ _ _; rw [RV])⟩
theorem se_ite {t : Expr} {ct : Te} (ht : PT X t (tTe T C W ct)) (ha : PE X a (tE T C W ca)) (hb : PE X b (tE T C W cb)) : PE X (.IfExp t a b pos) (tE T C W (.ite ct ca cb)) := by
  refine (pe_ifExp ht ha hb).imp fun σ H Q h => ?_
  obtain ⟨α, S, fr, r, hm, rs, rf, e, p⟩ := h
  refine goM hm rs rf e p fun d S1 α1 H1 v n1 rd hm1 rs1 rf1 e1 p1 _ => ?_
  have rd : v = d := rd
  subst rd
  cases v with
  | true => exact iteT ⟨α1, S1, fr, r, hm1, rs1, rf1, e1, p1⟩
  | false => exact iteF ⟨α1, S1, fr, r, hm1, rs1, rf1, e1, p1⟩
theorem noSet_mark {op : CmpOp} (h : noSet b = true) : behindInMarks op b = false := by
  cases b <;> first | rfl | cases h
theorem noSet_last {op op' : CmpOp} {d : Expr} (h : noSet d = true) : lastMarks [op, op'] [b, d] = false := by
  show behindInMarks op' d = false
  exact noSet_mark h
theorem se_cmp {op : CmpOp} (x : XT T X) (hs : noSet b = true) (ha : PE X a (tE T C W ca)) (hb : PE X b (tE T C W cb)) : PE X (.Compare a [op] [b] pos) (tE T C W (.cmp op ca cb)) := by
  refine (pe_cmpR (op_cmp x) ha hb (noSet_mark hs)).imp fun σ H Q h => ?_
  obtain ⟨α, S, fr, r, hm, rs, rf, e, p⟩ := h
  refine goM hm rs rf e p fun d S1 α1 H1 v n1 rd hm1 rs1 rf1 e1 p1 _ => ?_
  refine goM hm1 rs1 rf1 e1 p1 fun d2 S2 α2 H2 v2 n2 rd2 hm2 rs2 rf2 e2 p2 _ => ?_
  cases ek : cmpD S2 op d d2 with
  | none => rw [ek] at e2; cases e2
  | some k =>
    rw [ek] at e2
    exact ⟨α2, S2, d, d2, k, rs2, RV_grow rs1.bx n2.g _ _ rd, rd2, ek, fin rs2 e2 p2 (by show RV _ _ _ _ _; rw [RV])⟩
theorem st_cmp {op : CmpOp} (x : XT T X) (hs : noSet b = true) (ha : PE X a (tE T C W ca)) (hb : PE X b (tE T C W cb)) : PT X (.Compare a [op] [b] pos) (tTe T C W (.cmp op ca cb)) := by
  refine (pt_cmpR (op_cmp x) ha hb (noSet_mark hs)).imp fun σ H Q h => ?_
  obtain ⟨α, S, fr, r, hm, rs, rf, e, p⟩ := h
  refine goM hm rs rf e p fun d S1 α1 H1 v n1 rd hm1 rs1 rf1 e1 p1 _ => ?_
  refine goM hm1 rs1 rf1 e1 p1 fun d2 S2 α2 H2 v2 n2 rd2 hm2 rs2 rf2 e2 p2 _ => ?_
  cases ek : cmpD S2 op d d2 with
  | none => rw [ek] at e2; cases e2
  | some k =>
    rw [ek] at e2
    exact ⟨α2, S2, d, d2, k, rs2, RV_grow rs1.bx n2.g _ _ rd, rd2, ek, k, rfl, fin rs2 e2 p2 rfl⟩
theorem se_chn {op op' : CmpOp} {d : Expr} {cd : Ex} (x : XT T X) (hs : noSet d = true) (ha : PE X a (tE T C W ca)) (hb : PE X b (tE T C W cb)) (hd : PE X d (tE T C W cd)) : PE X (.Compare a [op, op'] [b, d] pos) (tE T C W (.chn op op' ca cb cd)) := by
  refine (pe_chain (op_cmp x) (op_cmp x) ha hb hd (noSet_last hs)).imp fun σ H Q h => ?_
  obtain ⟨α, S, fr, r, hm, rs, rf, e, p⟩ := h
  refine goM hm rs rf e p fun d S1 α1 H1 v n1 rd hm1 rs1 rf1 e1 p1 _ => ?_
  refine goM hm1 rs1 rf1 e1 p1 fun d2 S2 α2 H2 v2 n2 rd2 hm2 rs2 rf2 e2 p2 _ => ?_
  cases ek : cmpD S2 op d d2 with
  | none => rw [ek] at e2; cases e2
  | some k =>
    rw [ek] at e2
    refine ⟨α2, S2, d, d2, k, rs2, RV_grow rs1.bx n2.g _ _ rd, rd2, ek, k, rfl, ?_⟩
    cases k with
    | true =>
      refine iteT (goM hm2 rs2 rf2 e2 p2 fun d3 S3 α3 H3 v3 n3 rd3 hm3 rs3 rf3 e3 p3 _ => ?_)
      cases ek3 : cmpD S3 op' d2 d3 with
      | none => rw [ek3] at e3; cases e3
      | some k3 =>
        rw [ek3] at e3
        exact ⟨α3, S3, d2, d3, k3, rs3, RV_grow rs2.bx n3.g _ _ rd2, rd3, ek3, fin rs3 e3 p3 (by show RV _ _ _ _ _; rw [RV])⟩
    | false => exact iteF (fin rs2 e2 p2 (by show RV _ _ _ _ _; rw [RV]))
theorem st_chn {op op' : CmpOp} {d : Expr} {cd : Ex} (x : XT T X) (hs : noSet d = true) (ha : PE X a (tE T C W ca)) (hb : PE X b (tE T C W cb)) (hd : PE X d (tE T C W cd)) : PT X (.Compare a [op, op'] [b, d] pos) (tTe T C W (.chn op op' ca cb cd)) := by
  refine (pt_chain (op_cmp x) (op_cmp x) ha hb hd (noSet_last hs)).imp fun σ H Q h => ?_
  obtain ⟨α, S, fr, r, hm, rs, rf, e, p⟩ := h
  refine goM hm rs rf e p fun d S1 α1 H1 v n1 rd hm1 rs1 rf1 e1 p1 _ => ?_
  refine goM hm1 rs1 rf1 e1 p1 fun d2 S2 α2 H2 v2 n2 rd2 hm2 rs2 rf2 e2 p2 _ => ?_
  cases ek : cmpD S2 op d d2 with
  | none => rw [ek] at e2; cases e2
  | some k =>
    rw [ek] at e2
    refine ⟨α2, S2, d, d2, k, rs2, RV_grow rs1.bx n2.g _ _ rd, rd2, ek, k, rfl, ?_⟩
    cases k with
    | true =>
      refine iteT (goM hm2 rs2 rf2 e2 p2 fun d3 S3 α3 H3 v3 n3 rd3 hm3 rs3 rf3 e3 p3 _ => ?_)
      cases ek3 : cmpD S3 op' d2 d3 with
      | none => rw [ek3] at e3; cases e3
      | some k3 =>
        rw [ek3] at e3
        exact ⟨α3, S3, d2, d3, k3, rs3, RV_grow rs2.bx n3.g _ _ rd2, rd3, ek3, k3, rfl, fin rs3 e3 p3 rfl⟩
    | false => exact iteF ⟨false, rfl, fin rs2 e2 p2 rfl⟩
/-- a test by the value's truth -/
theorem st_v (x : XT T X) (ha : PE X a (tE T C W ca)) (hi : ∀ whole, isTrue a X.env whole = (do let v ← whole; standAt a.pos; holding [v] (truthy v))) : PT X a (tTe T C W (.v ca)) := by
  refine (pt_truth ha hi).imp fun σ H Q h => ?_
  obtain ⟨α, S, fr, r, hm, rs, rf, e, p⟩ := h
  refine goM hm rs rf e p fun d S1 α1 H1 v n1 rd hm1 rs1 rf1 e1 p1 _ => ?_
  cases ht : truth S1 d with
  | none => rw [ht] at e1; cases e1
  | some k =>
    rw [ht] at e1
    exact ⟨k, truth_ok x rs1 rd ht, fin rs1 e1 p1 rfl⟩
theorem st_neg {ct : Te} (h : PT X a (tTe T C W ct)) : PT X (.UnaryOp .Not a pos) (tTe T C W (.neg ct)) := by
  refine (pt_not h).imp fun σ H Q h => ?_
  obtain ⟨α, S, fr, r, hm, rs, rf, e, p⟩ := h
  refine goM hm rs rf e p fun d S1 α1 H1 v n1 rd hm1 rs1 rf1 e1 p1 _ => ?_
  have rd : v = d := rd
  subst rd
  exact fin rs1 e1 p1 rfl
theorem plain_ix (h : ∀ lo hi st p, b ≠ .Slice lo hi st p) : PlainIx b := by
  intro o i
  cases b <;> first | rfl | exact absurd rfl (h _ _ _ _)
theorem se_sub (x : XT T X) (hp : PlainIx b) (ha : PE X a (tE T C W ca)) (hb : PE X b (tE T C W cb)) : PE X (.Subscript a b pos) (tE T C W (.sub ca cb)) := by
  refine (pe_ix (ix_sub x) ha hb hp).imp fun σ H Q h => ?_
  obtain ⟨α, S, fr, r, hm, rs, rf, e, p⟩ := h
  refine goM hm rs rf e p fun d S1 α1 H1 v n1 rd hm1 rs1 rf1 e1 p1 _ => ?_
  refine goM hm1 rs1 rf1 e1 p1 fun d2 S2 α2 H2 v2 n2 rd2 hm2 rs2 rf2 e2 p2 _ => ?_
  cases ek : subD S2 d d2 with
  | none => rw [ek] at e2; cases e2
  | some k =>
    rw [ek] at e2
    exact ⟨α2, S2, d, d2, k, rs2, RV_grow rs1.bx n2.g _ _ rd, rd2, ek, fun v hv => fin rs2 e2 p2 hv⟩
abbrev tOo (T : Tp) (C : Cf) (W : WX) (o : Op) : TO := tM T C.m W (evO C o) rEq
theorem so_no : PO X none (tOo T C W .no) := ⟨fun pins s σ H Q I h => po_none.run pins s σ H Q I (by
  obtain ⟨α, S, fr, r, hm, rs, rf, e, p⟩ := h
  exact fin rs e p rfl)⟩
theorem so_yes (ha : PE X a (tE T C W ca)) : PO X (some a) (tOo T C W (.yes ca)) := ⟨fun pins s σ H Q I h => (po_some ha).run pins s σ H Q I (by
  obtain ⟨α, S, fr, r, hm, rs, rf, e, p⟩ := h
  refine goM hm rs rf e p fun d S1 α1 H1 v n1 rd hm1 rs1 rf1 e1 p1 _ => ?_
  cases d with
  | int i =>
    have rd : RV T α1 H1 (.int i) v := rd
    rw [RV] at rd
    exact ⟨i, rd, fin rs1 e1 p1 rfl⟩
  | _ => cases e1)⟩
theorem se_slc {lo hi : Option Expr} {cl ch : Op} {p2 : Pos} {bx : Bool} (x : XT T X) (ha : PE X a (tE T C W ca)) (hl : PO X lo (tOo T C W cl)) (hh : PO X hi (tOo T C W ch)) : PE X (.Subscript a (.Slice lo hi none p2) pos) (tE T C W (.slc bx ca cl ch)) := by
  refine (pe_slice (sl_slc (m := C.m) (bx := bx) x) ha hl hh).imp fun σ H Q h => ?_
  obtain ⟨α, S, fr, r, hm, rs, rf, e, p⟩ := h
  refine goM hm rs rf e p fun d S1 α1 H1 v n1 rd hm1 rs1 rf1 e1 p1 _ => ?_
  refine goM hm1 rs1 rf1 e1 p1 fun d2 S2 α2 H2 v2 n2 rd2 hm2 rs2 rf2 e2 p2 _ => ?_
  refine goM hm2 rs2 rf2 e2 p2 fun d3 S3 α3 H3 v3 n3 rd3 hm3 rs3 rf3 e3 p3 _ => ?_
  have rd2 : v2 = d2 := rd2
  have rd3 : v3 = d3 := rd3
  subst rd2 rd3
  cases ek : slcD S3 d v2 v3 with
  | none => rw [ek] at e3; cases e3
  | some o =>
    rw [ek] at e3
    exact ⟨α3, S3, d, o, hm3, rs3, RV_grow rs2.bx n3.g _ _ (RV_grow rs1.bx n2.g _ _ rd), ek, fin1 mkO_ex e3 p3⟩
end
end Vm
/-! Vm 12: calls, methods, comprehensions. -/
namespace Vm
open PySem L2
section
variable {T : Tp} {X : Cx} {g : Cfg} {C : Cf} {W : WX} {e a b : Expr} {c ca cb : Ex} {pos : Pos}
/-- the heap behind a call, its boxes gone -/
theorem nxt_gc {m : Nat} {α α' : List Addr} {S S' : Store} {H H' : Hp} (hm : m ≤ S.length) (rs : RS T α H S) (n : Nxt T S.length α S H α' S' H') : Nxt T m α S H (α'.take S.length) (S'.take S.length) H' := by
  obtain ⟨β, rfl, h1⟩ := n.g.pre
  have hl := rs.len
  have et : (α ++ β).take S.length = α := by rw [← hl, List.take_left]
  have w0 : WF S.length S := fun j d hj hd => by
    have hj' : j < α.length := by omega
    have b := rs.box j α[j] d (by simp [hj']) hd
    rw [← hl]
    cases d with
    | lst ds => obtain ⟨vs, _, r⟩ := b; rw [refsLt]; exact RVs_refs ds vs r
    | dct ks ds => obtain ⟨es, _, r0, r⟩ := b; rw [refsLt, RVs_refs ds _ r, keys_refs r0 somes_ne]; rfl
    | _ => exact b.elim
  have w1 := n.wf S.length (Nat.le_refl _) w0
  have len' := n.rs.len
  rw [et]
  refine ⟨⟨⟨[], by simp, by simp⟩, n.g.keep, fun a ha => n.g.bx a (List.mem_append_left _ ha)⟩, ⟨?_, rs.nd, fun j a d h1 h2 => ?_, fun a ha => ?_⟩, fun k hk h j d hj hd => ?_⟩
  · rw [List.length_take]
    rw [List.length_append] at len'
    omega
  · have hj : j < S.length := by rw [← hl]; exact (List.getElem?_eq_some_iff.mp h1).1
    rw [List.getElem?_take_of_lt hj] at h2
    have b := n.rs.box j a d (by rw [List.getElem?_append_left (by omega)]; exact h1) h2
    have q := w1 j d hj h2
    cases d with
    | lst ds =>
      obtain ⟨vs, b1, b2⟩ := b
      rw [refsLt] at q
      have b3 := RVs_take ds vs q b2
      rw [et] at b3
      exact ⟨vs, b1, b3⟩
    | dct ks ds =>
      obtain ⟨es, b1, b0, b2⟩ := b
      rw [refsLt, Bool.and_eq_true] at q
      have b3 := RVs_take ds _ q.2 b2
      rw [et] at b3
      exact ⟨es, b1, b0, b3⟩
    | _ => exact b.elim
  · obtain ⟨q1, q2⟩ := n.rs.no a ha
    exact ⟨q1, fun z => q2 (List.mem_append_left _ z)⟩
  · rw [List.getElem?_take_of_lt (by omega)] at hd
    exact n.wf k (by omega) h j d hj hd
/-- the same, one box kept -/
theorem nxt_gcB {m n : Nat} {α α' : List Addr} {S S' : Store} {H H' : Hp} {e : D} {a : Addr} (hm : m ≤ S.length) (rs : RS T α H S) (nx : Nxt T S.length α S H α' S' H') (hn : S.length ≤ n) (he : S'[n]? = some e) (ha : α'[n]? = some a) (hr : refsLt S.length e = true) :
    Nxt T m α S H (α'.take S.length ++ [a]) (S'.take S.length ++ [e]) H' := by
  have n0 := nxt_gc hm rs nx
  obtain ⟨β, rfl, h1⟩ := nx.g.pre
  have hl := rs.len
  have et : (α ++ β).take S.length = α := by rw [← hl, List.take_left]
  rw [et] at n0 ⊢
  have aβ : a ∈ β := by
    rw [List.getElem?_append_right (by omega)] at ha
    exact List.mem_of_getElem? ha
  have na : a ∉ α := rs.free (h1 a aβ)
  have hl2 := n0.rs.len
  have b := nx.rs.box n a e ha he
  have g : Grow α (α ++ [a]) H H' := ⟨⟨[a], rfl, fun c hc => by
      obtain rfl : c = a := by simpa using hc
      exact h1 c aβ⟩, nx.g.keep, fun c hc => by
      rcases List.mem_append.mp hc with z | z
      · exact n0.g.bx c z
      · obtain rfl : c = a := by simpa using z
        exact nx.g.bx c (List.mem_append_right _ aβ)⟩
  -- readings with one box more, where it was no data
  have more : ∀ {c : Addr} {d : D}, BoxAt T α H' c d → BoxAt T (α ++ β) H' c d → refsLt S.length d = true → BoxAt T (α ++ [a]) H' c d := by
    have key : ∀ k : Nat, (∀ (d : D) (v : V), sizeOf d < k → refsLt α.length d = true → RV T (α ++ β) H' d v → RV T (α ++ [a]) H' d v) ∧ (∀ (ds : List D) (vs : List V), sizeOf ds < k → refsLts α.length ds = true → RVs T (α ++ β) H' ds vs → RVs T (α ++ [a]) H' ds vs) := by
      intro k
      have sub : ∀ c, NoBox T (α ++ β) c → NoBox T (α ++ [a]) c := fun c hc => ⟨fun z => hc.1 (by
        rcases List.mem_append.mp z with z | z
        · exact List.mem_append_left _ z
        · obtain rfl : c = a := by simpa using z
          exact List.mem_append_right _ aβ), hc.2⟩
      induction k with
      | zero => exact ⟨fun _ _ z => absurd z (Nat.not_lt_zero _), fun _ _ z => absurd z (Nat.not_lt_zero _)⟩
      | succ k ih =>
        refine ⟨fun d v hd hr h => ?_, fun ds vs hd hr h => ?_⟩
        · cases d with
          | tup ds =>
            rw [RV] at h ⊢
            obtain ⟨p, vs, e, h1, h2⟩ := h
            exact ⟨p, vs, e, h1, ih.2 ds vs (by simp at hd; omega) (by simpa [refsLt] using hr) h2⟩
          | lst ds =>
            rw [RV] at h ⊢
            obtain ⟨p, vs, e, h1, h2, h3⟩ := h
            exact ⟨p, vs, e, h1, sub p h2, ih.2 ds vs (by simp at hd; omega) (by simpa [refsLt] using hr) h3⟩
          | dct ks ds =>
            rw [RV] at h ⊢
            obtain ⟨p, es, e, h1, h2, h3, h4⟩ := h
            rw [refsLt, Bool.and_eq_true] at hr
            exact ⟨p, es, e, h1, sub p h2, h3, ih.2 ds _ (by simp at hd; omega) hr.2 h4⟩
          | ref i =>
            rw [RV] at h ⊢
            obtain ⟨p, e1, e2⟩ := h
            rw [refsLt, decide_eq_true_eq] at hr
            refine ⟨p, ?_, e2⟩
            rw [List.getElem?_append_left hr] at e1 ⊢
            exact e1
          | scr ns =>
            rw [RV] at h ⊢
            obtain ⟨p, e, ⟨h1, h2⟩ | h1⟩ := h
            · exact ⟨p, e, .inl ⟨h1, sub p h2⟩⟩
            · exact ⟨p, e, .inr h1⟩
          | non => simpa [RV] using h
          | bl _ => simpa [RV] using h
          | int _ => simpa [RV] using h
          | str _ => simpa [RV] using h
          | fn _ => simpa [RV] using h
        · cases ds with
          | nil => simpa [RVs] using h
          | cons d ds =>
            rw [RVs] at h ⊢
            rw [refsLts, Bool.and_eq_true] at hr
            obtain ⟨v, r, e, h1, h2⟩ := h
            exact ⟨v, r, e, ih.1 d v (by simp at hd; omega) hr.1 h1, ih.2 ds r (by simp at hd; omega) hr.2 h2⟩
    intro c d _ b hr
    rw [← hl] at hr
    cases d with
    | lst ds =>
      obtain ⟨vs, b1, b2⟩ := b
      exact ⟨vs, b1, (key (sizeOf ds + 1)).2 ds vs (Nat.lt_succ_self _) (by simpa [refsLt] using hr) b2⟩
    | dct ks ds =>
      obtain ⟨es, b1, b0, b2⟩ := b
      rw [refsLt, Bool.and_eq_true] at hr
      exact ⟨es, b1, b0, (key (sizeOf ds + 1)).2 ds _ (Nat.lt_succ_self _) hr.2 b2⟩
    | _ => exact b.elim
  have w0 : WF S.length S := fun j d hj hd => by
    have hj' : j < α.length := by omega
    have b := rs.box j α[j] d (by simp [hj']) hd
    rw [← hl]
    cases d with
    | lst ds => obtain ⟨vs, _, r⟩ := b; rw [refsLt]; exact RVs_refs ds vs r
    | dct ks ds => obtain ⟨es, _, r0, r⟩ := b; rw [refsLt, RVs_refs ds _ r, keys_refs r0 somes_ne]; rfl
    | _ => exact b.elim
  have w1 := nx.wf S.length (Nat.le_refl _) w0
  have htl : (S'.take S.length).length = S.length := by rw [← hl2, hl]
  refine ⟨g, ⟨by simp only [List.length_append, List.length_singleton]; omega, ?_, fun j c d h1 h2 => ?_, rs.no_keep g⟩, fun k hk h j d hj hd => ?_⟩
  · rw [List.nodup_append]
    exact ⟨rs.nd, by simp, fun c hc d hd z => na (by
      obtain rfl : d = a := by simpa using hd
      exact z ▸ hc)⟩
  · by_cases hj : j < α.length
    · rw [List.getElem?_append_left hj] at h1
      rw [List.getElem?_append_left (by omega)] at h2
      have b0 := n0.rs.box j c d h1 h2
      rw [List.getElem?_take_of_lt (by omega)] at h2
      exact more b0 (nx.rs.box j c d (by rw [List.getElem?_append_left hj]; exact h1) h2) (w1 j d (by omega) h2)
    · have hlt : j < (α ++ [a]).length := (List.getElem?_eq_some_iff.mp h1).1
      have : j = α.length := by simp at hlt; omega
      subst this
      rw [List.getElem?_append_right (Nat.le_refl _)] at h1
      rw [List.getElem?_append_right (by omega)] at h2
      have e0 : α.length - (S'.take S.length).length = 0 := by omega
      simp at h1
      rw [e0] at h2
      simp at h2
      subst h1 h2
      have b' := b
      cases e with
      | lst ds =>
        refine more ?_ b hr
        obtain ⟨vs, b1, b2⟩ := b
        rw [refsLt] at hr
        have b3 := RVs_take ds vs hr b2
        rw [et] at b3
        exact ⟨vs, b1, b3⟩
      | dct ks ds =>
        refine more ?_ b hr
        obtain ⟨es, b1, b0, b2⟩ := b
        rw [refsLt, Bool.and_eq_true] at hr
        have b3 := RVs_take ds _ hr.2 b2
        rw [et] at b3
        exact ⟨es, b1, b0, b3⟩
      | _ => exact b'.elim
  · rw [List.getElem?_append_left (by omega)] at hd
    exact n0.wf k hk h j d hj hd

theorem unbWs_get {f : Nat → Option D} : ∀ {ds es : List D} {k : Nat} {e : D}, unbWs f ds = some es → es[k]? = some e → ∃ d, ds[k]? = some d ∧ unbW f d = some e
  | [], es, k, e, h, h2 => by simp only [unbWs, Option.some.injEq] at h; subst h; simp at h2
  | d :: ds, es, k, e, h, h2 => by
    simp only [unbWs, Option.bind_eq_some_iff, Option.map_eq_some_iff] at h
    obtain ⟨x, h1, xs, h3, rfl⟩ := h
    cases k with
    | zero => simp at h2; subst h2; exact ⟨d, rfl, h1⟩
    | succ k =>
      obtain ⟨d', e1, e2⟩ := unbWs_get (k := k) h3 (by simpa using h2)
      exact ⟨d', by simpa using e1, e2⟩
theorem gc_post {m : Nat} {α : List Addr} {S : Store} {H : Hp} {σ : L2.St} {bx : Bool} {r0 r : Rs D} {Q : VK} (hm : m ≤ S.length) (rs : RS T α H S) (e : gcOut S.length bx (some r0) = some r) (p : PostR T m W (rV T) α S H σ Q r) :
    PostR T S.length (fun cls dd _ H' => W cls dd σ H') (rV T) α S H [] Q r0 := by
  cases r0 with
  | ok d S' =>
    intro α' H' v n rd
    have rd : RV T α' H' d v := rd
    cases bx with
    | false =>
      simp only [gcOut, Bool.false_eq_true, if_false] at e
      obtain ⟨d', e1, rfl⟩ := Option.map_eq_some_iff.mp e
      exact p _ _ _ (nxt_gc hm rs n) (unb_ok n.rs unbF d d' v e1 rd)
    | true =>
      have nm : Nxt T m α S H α' S' H' := ⟨n.g, n.rs, fun k hk w => n.wf k (Nat.le_trans hk hm) w⟩
      have plain : (if refsLt S.length d then some (Rs.ok d (S'.take S.length)) else some (Rs.ok d S')) = some r → Q v H' := fun e => by
        by_cases hr : refsLt S.length d = true
        · rw [if_pos hr] at e
          cases e
          exact p _ _ _ (nxt_gc hm rs n) (RV_take d v hr rd)
        · rw [if_neg hr] at e
          cases e
          exact p _ _ _ nm rd
      cases d with
      | ref k =>
        simp only [gcOut, if_true] at e
        by_cases hk : k < S.length
        · rw [if_pos hk] at e
          cases e
          refine p _ _ _ (nxt_gc hm rs n) ?_
          show RV _ _ _ _ _
          rw [RV] at rd ⊢
          obtain ⟨a, ha, rfl⟩ := rd
          exact ⟨a, by rw [List.getElem?_take_of_lt hk]; exact ha, rfl⟩
        · rw [if_neg hk] at e
          cases he : S'[k]? with
          | none => rw [he] at e; cases e
          | some e0 =>
            rw [he] at e
            simp only at e
            by_cases hr : refsLt S.length e0 = true
            · rw [if_pos hr] at e
              cases e
              rw [RV] at rd
              obtain ⟨a, ha, rfl⟩ := rd
              refine p _ _ _ (nxt_gcB hm rs n (by omega) he ha hr) ?_
              show RV _ _ _ _ _
              rw [RV]
              have hl := n.rs.len
              have hk2 : k < α'.length := (List.getElem?_eq_some_iff.mp ha).1
              have ht : (α'.take S.length).length = S.length := by rw [List.length_take]; omega
              refine ⟨a, ?_, rfl⟩
              rw [List.getElem?_append_right (by omega), ht, Nat.sub_self]
              rfl
            · rw [if_neg hr] at e
              cases e
              exact p _ _ _ nm rd
      | _ => exact plain e
  | ex c fs S' =>
    intro α' H' cls dd n ev
    simp only [gcOut] at e
    obtain ⟨fs', e1, rfl⟩ := Option.map_eq_some_iff.mp e
    refine p _ _ _ _ (nxt_gc hm rs n) ⟨ev.1, fun hne => ?_⟩
    have hne' : fs ≠ [] := fun z => hne (by subst z; simp only [unbWs, Option.some.injEq] at e1; exact e1.symm)
    obtain ⟨x, xs, h1, h2, h3⟩ := ev.2 hne'
    refine ⟨x, xs, h1, h2, fun k d hd => ?_⟩
    obtain ⟨d0, g1, g2⟩ := unbWs_get e1 hd
    obtain ⟨nm, v, q1, q2, q3⟩ := h3 k d0 g1
    refine ⟨nm, v, q1, q2, unbW_ok (fun a z => not_take z) (fun j a e f1 f2 => ?_) d0 d v g2 q3⟩
    exact unb_ok n.rs unbF (.ref j) e _ f1 (by rw [RV]; exact ⟨a, f2, rfl⟩)
theorem permL_range : ∀ (ds : List D), permL ds (List.range ds.length) = some ds := by
  intro ds
  have key : ∀ (pre post : List D), (List.range' pre.length post.length).mapM (fun i => (pre ++ post)[i]?) = some post := by
    intro pre post
    induction post generalizing pre with
    | nil => rfl
    | cons d post ih =>
      rw [List.length_cons, List.range'_succ, List.mapM_cons]
      have h1 : (pre ++ d :: post)[pre.length]? = some d := by simp
      have h2 := ih (pre ++ [d])
      rw [List.length_append, List.length_singleton, List.append_assoc, List.singleton_append] at h2
      rw [h1]
      show (do let ys ← (List.range' (pre.length + 1) post.length).mapM (fun i => (pre ++ d :: post)[i]?); pure (d :: ys)) = some (d :: post)
      rw [h2]
      rfl
  have := key [] ds
  rw [List.nil_append] at this
  unfold permL
  rw [List.range_eq_range']
  exact this
theorem se_call {x : Str} {id : Nat} {es : List Expr} {cs : List Ex} {bx : Bool} {p : Pos} (ok : Ok T X g C W) (hg : isGl g x = true) (hf : g.fn x = some id) (hd : x ≠ "__debug__")
    (hns : ∀ e ∈ es, noStar e = true) (ha : PA X es (tEs T C W cs)) (hl : cs.length = es.length) : PE X (.Call (.Name x p) es [] pos) (tE T C W (.call id bx cs (List.range cs.length))) := by
  obtain ⟨mg, kp, k, fd, ps, hr, F, hb, _⟩ := ok.call x id hf
  have hm : X.mg x = some (.ref (T.fa id)) := by rw [ok.xt.mg]; exact mg
  have hd' := beq_eq_false_iff_ne.mpr hd
  have body : ∀ σ H Q, tE T C W (.call id bx cs (List.range cs.length)) σ H Q → tEs T C W cs σ H fun vs H1 => spV T C.call id vs H1 Q (WE W σ) := fun σ H Q h => by
    obtain ⟨α, S, fr, r, hm, rs, rf, e, p⟩ := h
    refine goM hm rs rf e p fun ds S1 α1 H1 vs n1 rd hm1 rs1 rf1 e1 p1 ex => ?_
    have ld := evs_len ex
    rw [← ld, permL_range] at e1
    replace e1 : gcOut S1.length bx (C.call id ds S1) = some r := e1
    cases hc : C.call id ds S1 with
    | none => rw [hc] at e1; cases e1
    | some r0 =>
      rw [hc] at e1
      exact ⟨T.no, α1, S1, ds, r0, rs1, rd, hc, gc_post hm1 rs1 e1 p1⟩
  cases es with
  | nil =>
    refine ⟨fun pins s σ H Q I h => ?_⟩
    refine wpAny_Call_Name_kw (ld_glob I (gl_of ok hg) hm ?_ hd')
    refine PySem.W.callWith_K0 I.kIn kp ?_
    obtain ⟨α, S, fr, r, hm', rs, rf, e, p⟩ := body σ H Q h
    have e0 : cs = [] := List.eq_nil_of_length_eq_zero hl
    subst e0
    have q := fin rs e p RVs_nil
    exact run_fnSD (us := []) F hr hb .nil (passAt ok.tk σ) I .nil (by simpa using q)
  | cons e es =>
    refine (pe_callSD F hr (gl_of ok hg) hm kp hb .nil (passAt ok.tk) ha hd' (star_cons (hns e List.mem_cons_self)) (star_any fun e' he => hns e' (List.mem_cons_of_mem _ he))).imp fun σ H Q h => ?_
    have q := body σ H Q h
    show tEs T C W cs σ H fun vs H1 => spV T C.call id (vs ++ []) H1 Q (WE W σ)
    simpa only [List.append_nil] using q
end
end Vm
/-! Vm 12b: zip of a text and a tuple is walked. -/
namespace Vm
open PySem PyProof.Rows L2
theorem nin2 {p q r : Nat} (h1 : p = q → False) (h2 : p = r → False) : p ∉ [q, r] := fun z => by
  simp only [List.mem_cons, List.not_mem_nil, or_false] at z
  exact z.elim h1 h2
theorem sep_st {n b : Nat} (h : b < n) : ZipSep2 (n + 4) (n + 2) (n + 3) n (n + 1) [n] [n + 1, b] := by
  have g : ∀ {p q : Nat}, (p = q → False) → p ≠ q := fun k => k
  exact ⟨g (by omega), g (by omega), g (by omega), g (by omega), by simp, fun z => by simp at z, fun z => by simp at z, g (by omega), by simp,
    nin2 (by omega) (by omega), nin2 (by omega) (by omega), nin2 (by omega) (by omega), fun z => by simp at z⟩
def StST (x : Str) (tt : Tok) (b n z TI TO j1 j2 : Addr) (i : Nat) (h : Heap) : Prop :=
  IsZip h z TI TO .none ∧ IsTupOf2 h TI (.ref j1) (.ref j2) ∧ (∃ u1 u2, IsTupOf2 h TO u1 u2) ∧ h.IsStrIter j1 (strIterType x) x tt i ∧ h.IsTupleIter j2 b i ∧ i ≤ x.cps.size ∧ i ≤ n
theorem turn_zipST {P : Program} {w : World} {K : PySem.W.Frag} {elts : List Expr} {kk : Nat} {tpos : Pos} {x : Str} {tt : Tok} {b n z TI TO j1 j2 : Addr} (D : ZipSep2 z TI TO j1 j2 [j1] [j2, b]) (hb : b ≠ j2) :
    Turn P w K (.Tuple elts kk tpos) (ItzST K x b n) [z, TI, TO, j1, j2] z (StST x tt b n z TI TO j1 j2) where
  mem := by simp
  obj := fun i h st c hc => by
    obtain ⟨g1, g2, ⟨u1, u2, g3⟩, ⟨o1, e1, _, d1⟩, ⟨o2, e2, _, d2⟩, _⟩ := st
    have e' : c = z ∨ c = TI ∨ c = TO ∨ c = j1 ∨ c = j2 := by simpa using hc
    rcases e' with rfl | rfl | rfl | rfl | rfl
    · exact ⟨_, g1, fun v q => nomatch q⟩
    · exact ⟨_, g2, fun v q => nomatch q⟩
    · exact ⟨_, g3, fun v q => nomatch q⟩
    · exact ⟨o1, e1, fun v q => by rw [d1] at q; cases q⟩
    · exact ⟨o2, e2, fun v q => by rw [d2] at q; cases q⟩
  keep := fun i h h' st k => by
    obtain ⟨g1, g2, ⟨u1, u2, g3⟩, ⟨o1, e1, r1⟩, h2, g4⟩ := st
    exact ⟨k z (by simp) _ g1, k TI (by simp) _ g2, ⟨u1, u2, k TO (by simp) _ g3⟩, ⟨o1, k j1 (by simp) _ e1, r1⟩, h2.at fun o q => k j2 (by simp) o q, g4⟩
  item := by
    intro X hP hw hK hc i pins s σ H E I hf st hg
    subst hP hw hK
    obtain ⟨g1, g2, ⟨u1, u2, g3⟩, h1, h2, l1, l2⟩ := st
    obtain ⟨ys, y, hlt, hqy, hn, hy⟩ := hg
    obtain ⟨its, rv, p2, _⟩ := I.tuple hqy
    have hlen := rv.length
    obtain ⟨yi, _⟩ := List.getElem?_eq_some_iff.mp hy
    have hz1 : z < s.heap.objs.size := Heap.lt_size g1
    have hh : X.A.in1.handled = none := I.ok.hd hc
    have p2' : s.heap.IsTuple b its.toArray := p2
    refine wpAny_pyNext_zipD2_item D (Draws.text hh j1 x tt) (Draws.tuple hh j2 b hb its.toArray) g1 g2 g3 h1 ⟨h2, p2'⟩ hlt (by rw [List.size_toArray]; omega) fun w1 w2 h' tk y1 y2 b1 b2 d1 d2 b5 hsz hk => ?_
    obtain ⟨c, t', hc1, rfl⟩ := y1
    have hu2 : its[i]? = some w2 := by simpa using y2
    obtain ⟨w2', hw, ru2⟩ := rv.get hy
    rw [hu2] at hw
    cases hw
    refine ⟨_, rfl, wpAny_letOwnedTupleGo_zip (s := { s with heap := h', toks := tk }) b1 fun h'' z'' sb => ?_⟩
    have hT2 : h''.get? s.heap.objs.size = some { cls := .type "tuple", data := .seq #[.str ⟨#[c]⟩ t', w2] } := (sb.2 _ (Nat.ne_of_gt hz1)).trans b5
    have new : ObjOk X.prog X.w (upd H s.heap.objs.size (.tup [.str ⟨#[c]⟩, y])) h'' s.heap.objs.size (.tup [.str ⟨#[c]⟩, y]) :=
      ⟨by show 2 ≤ sizeLine; decide, [.str ⟨#[c]⟩ t', w2], .cons ⟨t', rfl⟩ (.cons ru2 .nil), ⟨_, hT2, rfl, _, rfl⟩⟩
    have I1 : Inv X pins σ (upd H s.heap.objs.size (.tup [.str ⟨#[c]⟩, y])) { s with heap := h'', toks := tk } :=
      I.turnedNew (t' := tk) (ch := [z, TI, TO, j1, j2]) (fun c o hb' q => (sb.2 c (fun q' => hb' (by simp [q']))).trans (hk c o (fun q' => hb' (by simp [q'])) (fun q' => hb' (by simp [q'])) (fun q' => hb' (by simp [q'])) (fun q' => hb' (by simp [q'])) q)) hf (Nat.le_refl _) new
    have zj1 : j1 ≠ z := D.zi1.symm
    have zj2 : j2 ≠ z := D.zi2.symm
    obtain ⟨o1, e1, r1⟩ := d1
    refine ⟨.ref s.heap.objs.size, _, I1, rfl, ⟨_, c, y, rfl, I.hok.fresh (Nat.le_refl _), hc1, rfl, fun l hl => by rw [I.tuple_inj hl hqy]; exact hy⟩, ⟨z'', ?_, ⟨.str ⟨#[c]⟩ t', w2, ?_⟩, ⟨o1, ?_, r1⟩, ?_, by omega, by omega⟩, fun c hcm => ?_⟩
    · exact (sb.2 _ D.TIz).trans (hk _ _ D.TIz D.TITO D.TIi1 D.TIi2 g2)
    · exact (sb.2 _ D.TOz).trans b2
    · exact (sb.2 _ zj1).trans e1
    · exact d2.1.at fun o q => (sb.2 _ zj2).trans q
    · have hl3 : c < s.heap.objs.size := by
        have e' : c = z ∨ c = TI ∨ c = TO ∨ c = j1 ∨ c = j2 := by simpa using hcm
        rcases e' with rfl | rfl | rfl | rfl | rfl
        · exact hz1
        · exact Heap.lt_size g2
        · exact Heap.lt_size g3
        · obtain ⟨_, e, _⟩ := h1; exact Heap.lt_size e
        · obtain ⟨_, e, _⟩ := h2; exact Heap.lt_size e
      rw [upd_ne (Nat.ne_of_lt hl3)]
      exact (hf c hcm).1
  done := by
    intro X hP hw hK hc i pins s σ H E I hf st hg
    subst hP hw hK
    obtain ⟨g1, g2, ⟨u1, u2, g3⟩, h1, h2, l1, l2⟩ := st
    obtain ⟨ys, hqy, hn, hend⟩ := hg
    obtain ⟨its, rv, p2, _⟩ := I.tuple hqy
    have hlen := rv.length
    have hh : X.A.in1.handled = none := I.ok.hd hc
    have p2' : s.heap.IsTuple b its.toArray := p2
    have hz2 : its.toArray.size = its.length := by simp
    refine wpAny_pyNext_zipD2_end D (Draws.text hh j1 x tt) (Draws.tuple hh j2 b hb its.toArray) g1 g2 g3 h1 ⟨h2, p2'⟩ l1 (by omega) (by omega) fun h' tk hk => ⟨rfl, ?_⟩
    exact I.turnedL (t' := tk) (ch := [z, TI, TO, j1, j2]) (fun c o hb' q => hk c o (fun q' => hb' (by simp [q'])) (fun q' => hb' (by simp [q'])) (fun q' => hb' (by simp [q'])) (fun q' => hb' (by simp [q'])) q) hf
  self := fun A i s Q E st h => wpAny_pyIter_zip st.1 h
def iZipST (K : PySem.W.Frag) (ta : TA) : TI := fun σ H R => ta σ H fun vs H1 => ∃ x b ys, vs = [.str x, .ref b] ∧ SqT K H1 b ys ∧ R (ItzST K x b ys.length) H1
theorem pi_zipST {X : Cx} {e e2 : Expr} {ta : TA} {p pos tpos : Pos} {elts : List Expr} {kk : Nat} (hg : Gl X "zip") (hm : X.mg "zip" = none) (ha : PA X [e, e2] ta)
    (hs : starEach [e, e2] X.env = (false, eval e X.env) :: starEach [e2] X.env) (hpl : (backTo pos (starEach [e2] X.env)).any (·.1) = false) :
    PI X (.Tuple elts kk tpos) (.Call (.Name "zip" p) [e, e2] [] pos) (iZipST X.K ta) := by
  refine ⟨fun pins s σ H R I h => ?_⟩
  refine Call_ (ld_blt I hg hm PyProof.Rows.boot_zip (PyProof.Rows.callWith_type1 (thn (ha.run pos pins s σ H _ I h) fun us s1 ⟨vs, H1, I1, r1, q1⟩ => ?_) hs hpl))
  obtain ⟨x, b, ys, ex, hq, q1⟩ := q1
  subst ex
  cases r1 with
  | cons r rr =>
    cases rr with
    | cons r' rr =>
      cases rr
      obtain ⟨tt, rfl⟩ := r
      cases r'
      obtain ⟨its, rv, p2, _⟩ := I1.tuple hq
      have p2' : s1.heap.IsTuple b its.toArray := p2
      obtain ⟨o2, ho2, _⟩ := id p2
      have hb : b < s1.heap.objs.size := Heap.lt_size ho2
      refine zip_begins2 (begins_text x tt) (begins_tuple b its.toArray) trivial p2' fun h' hz hTI hTO h1 h2 hsz hk => wpAny_pyIter_zip hz ?_
      have I2 : Inv X pins σ H1 { s1 with heap := h' } := I1.kept (t' := s1.toks) hk
      refine ⟨s1.heap.objs.size + 4, [s1.heap.objs.size + 4, s1.heap.objs.size + 2, s1.heap.objs.size + 3, s1.heap.objs.size, s1.heap.objs.size + 1], _, _, H1, rfl, I2,
        turn_zipST (n := ys.length) (tt := tt) (sep_st hb) (Nat.ne_of_lt (Nat.lt_succ_of_lt hb)), ⟨hz, hTI, ⟨_, _, hTO⟩, ⟨_, h1, rfl, rfl⟩, ⟨_, h2, rfl, rfl⟩, Nat.zero_le _, Nat.zero_le _⟩, fun c hcm => ?_, q1⟩
      have e' : c = s1.heap.objs.size + 4 ∨ c = s1.heap.objs.size + 2 ∨ c = s1.heap.objs.size + 3 ∨ c = s1.heap.objs.size ∨ c = s1.heap.objs.size + 1 := by simpa using hcm
      have hle : s1.heap.objs.size ≤ c := by
        rcases e' with z | z | z | z | z <;> rw [z] <;> first | exact Nat.le_add_right _ _ | exact Nat.le_refl _
      exact I1.fpOk hle (I1.hok.fresh hle)
end Vm
/-! Vm 13: calls by keywords, built-ins, methods, what is walked. -/
namespace Vm
open PySem L2
section
variable {T : Tp} {X : Cx} {g : Cfg} {C : Cf} {W : WX} {e a b : Expr} {c ca cb : Ex} {pos : Pos}
theorem kwNames_ok : ∀ {ks : List Keyword} {ns : List Str} {pos : Pos} {env : Env}, kwNames ks = some ns → (backToKw pos (keywordEach ks env)).all (·.1.isSome) = true ∧ (backToKw pos (keywordEach ks env)).filterMap (·.1) = ns ∧ (backToKw pos (keywordEach ks env)).any (·.1.isNone) = false
  | [], ns, _, _, h => by simp only [kwNames, Option.some.injEq] at h; subst h; exact ⟨rfl, rfl, rfl⟩
  | ⟨some x, e, p⟩ :: r, ns, pos, env, h => by
    simp only [kwNames, Option.map_eq_some_iff] at h
    obtain ⟨t, h1, rfl⟩ := h
    obtain ⟨q1, q2, q3⟩ := kwNames_ok (pos := pos) (env := env) h1
    refine ⟨?_, ?_, ?_⟩
    · show (true && (backToKw pos (keywordEach r env)).all (·.1.isSome)) = true
      rw [q1]; rfl
    · show x :: (backToKw pos (keywordEach r env)).filterMap (·.1) = x :: t
      rw [q2]
    · show (false || (backToKw pos (keywordEach r env)).any (·.1.isNone)) = false
      rw [q3]; rfl
  | ⟨none, e, p⟩ :: r, ns, _, _, h => by simp [kwNames] at h
theorem permL_ok {ds : List D} {vs : List V} {us : List Value} {α : List Addr} {H : Hp} : ∀ {pm : List Nat} {ds' : List D}, permL ds pm = some ds' → RVs T α H ds vs → Vals vs us → (∀ i ∈ pm, i < us.length) → ∃ vs', RVs T α H ds' vs' ∧ Vals vs' (pm.map fun i => us.getD i .none)
  | [], ds', h, r, q, _ => by
    cases h
    exact ⟨[], RVs_nil, .nil⟩
  | i :: pm, ds', h, r, q, hi => by
    unfold permL at h
    rw [List.mapM_cons] at h
    obtain ⟨d, h1, h⟩ := Option.bind_eq_some_iff.mp h
    obtain ⟨es, h2, h⟩ := Option.bind_eq_some_iff.mp h
    cases h
    obtain ⟨vs', p1, p2⟩ := permL_ok (pm := pm) (ds' := es) h2 r q fun j hj => hi j (List.mem_cons_of_mem _ hj)
    obtain ⟨v, e1, e2⟩ := RVs_get r h1
    obtain ⟨u, e3, e4⟩ := q.get e1
    refine ⟨v :: vs', RVs_cons e2 p1, ?_⟩
    rw [List.map_cons]
    refine .cons ?_ p2
    rw [List.getD_eq_getElem?_getD, e3]
    exact e4
theorem se_callK {x : Str} {id : Nat} {ks : List Keyword} {nms : List Str} {cs : List Ex} {pm : List Nat} {bx : Bool} {p : Pos} (ok : Ok T X g C W) (hg : isGl g x = true) (hf : g.fn x = some id) (hd : x ≠ "__debug__")
    (hk : PK X ks (tEs T C W cs)) (hn : kwNames ks = some nms) (hp : g.kw id nms = some pm) (hlk : ks.length = nms.length) (hlc : cs.length = nms.length) : PE X (.Call (.Name x p) [] ks pos) (tE T C W (.call id bx cs pm)) := by
  obtain ⟨mg, kp, k, fd, ps, hr, F, hb, hkw⟩ := ok.call x id hf
  obtain ⟨kl, ki, kb⟩ := hkw nms pm hp
  have hm : X.mg x = some (.ref (T.fa id)) := by rw [ok.xt.mg]; exact mg
  have hd' := beq_eq_false_iff_ne.mpr hd
  refine ⟨fun pins s σ H Q I h => ?_⟩
  refine wpAny_Call_Name_kw (ld_glob I (gl_of ok hg) hm ?_ hd')
  obtain ⟨n1, n2, n3⟩ := kwNames_ok (pos := pos) (env := X.env) hn
  refine PySem.W.callWith_KW0 (h₀ := X.base) I.ok.mod.kin kp n1 ?_ (by rw [n3]; rfl)
  obtain ⟨α, S, fr, r, hm', rs, rf, e, p⟩ := h
  have q : tEs T C W cs σ H fun vs H1 => ∀ us : List Value, Vals vs us → ∃ vs', Vals vs' (pm.map fun i => us.getD i .none) ∧ us.length = nms.length ∧ spV T C.call id vs' H1 Q (WE W σ) := by
    refine goM hm' rs rf e p fun ds S1 α1 H1 vs n1 rd hm1 rs1 rf1 e1 p1 ex => ?_
    intro us hv
    cases hpl : permL ds pm with
    | none => rw [hpl] at e1; cases e1
    | some ds' =>
      rw [hpl] at e1
      replace e1 : gcOut S1.length bx (C.call id ds' S1) = some r := e1
      have lu : us.length = nms.length := by rw [← hv.length, ← RVs_len rd, evs_len ex, hlc]
      obtain ⟨vs', p1', p2'⟩ := permL_ok hpl rd hv fun i hi => by rw [lu]; exact ki i hi
      refine ⟨vs', p2', lu, ?_⟩
      cases hc : C.call id ds' S1 with
      | none => rw [hc] at e1; cases e1
      | some r0 =>
        rw [hc] at e1
        exact ⟨T.no, α1, S1, ds', r0, rs1, p1', hc, gc_post hm1 rs1 e1 p1⟩
  refine thn (hk.run pos pins s σ H _ I q) fun ws s1 ⟨zs, H1, I1, rz, q1⟩ => ⟨I1.kIn, ?_⟩
  obtain ⟨vs', v1, lu, q2⟩ := q1 ws rz
  rw [n2]
  show wpAny _ _ (call (.ref (T.fa id)) ([] ++ []) (nms.zip ws)) _ _ _
  have hl : (pm.map fun i => ws.getD i .none).length = ps.length := by rw [List.length_map, kl]
  refine wpAny_call (codeAny_mono (F.run X.A X.stack s1 H1 ⟨[], nms.zip ws⟩ (pm.map fun i => ws.getD i .none) vs' Q (WE W σ) hr I1.env0 (kb s1 ws I1.kIn lu) v1 q2) fun r s' hq => ?_)
  cases r with
  | error e => exact passAt ok.tk σ pins H1 s1 e s' I1 hq
  | ok fl =>
    cases fl with
    | ret u => exact I1.after hq
    | next => exact False.elim hq
    | brk => exact False.elim hq
    | cont => exact False.elim hq
/-! ### built-ins -/
theorem btTab_ok : (btTab.all fun q => decide (bootBuiltins q.1 = some q.2.2.fn) && decide (q.1 ∈ blNames) && decide (q.1 ≠ "__name__") && decide (q.1 ≠ "__debug__")) = true := by decide +kernel
theorem btOf_ok {x : Str} {n : Nat} {f : Bt} (h : btOf x n = some f) : bootBuiltins x = some f.fn ∧ x ∈ blNames ∧ x ≠ "__name__" ∧ x ≠ "__debug__" := by
  unfold btOf at h
  obtain ⟨q, h1, rfl⟩ := Option.map_eq_some_iff.mp h
  have hm := List.mem_of_find?_eq_some h1
  have hp := List.find?_some h1
  simp only [Bool.and_eq_true, decide_eq_true_eq] at hp
  have := List.all_eq_true.mp btTab_ok q hm
  simp only [Bool.and_eq_true, decide_eq_true_eq] at this
  obtain ⟨rfl, _⟩ := hp
  exact ⟨this.1.1.1, this.1.1.2, this.1.2, this.2⟩
theorem bt_kind (f : Bt) : (∃ id, f.fn = .builtin id) ∨ ∃ t, f.fn = .type t := by cases f <;> first | exact .inl ⟨_, rfl⟩ | exact .inr ⟨_, rfl⟩
theorem se_blt {x : Str} {f : Bt} {n : Nat} {es : List Expr} {cs : List Ex} {bx : Bool} {p : Pos} (ok : Ok T X g C W) (hg : isGl g x = true) (hf : btOf x n = some f) (hns : ∀ y ∈ e :: es, noStar y = true) (ha : PA X (e :: es) (tEs T C W cs)) :
    PE X (.Call (.Name x p) (e :: es) [] pos) (tE T C W (.blt f bx cs)) := by
  obtain ⟨hv, hbl, hn, hd⟩ := btOf_ok hf
  have hm : X.mg x = none := by rw [ok.xt.mg]; exact ok.bl x hbl
  have hr := op_bt (m := C.m) (bx := bx) ok.xt (f := f)
  have body : ∀ σ H Q, tE T C W (.blt f bx cs) σ H Q → tCB (rBt T C.m f bx) (tEs T C W cs) σ H Q := fun σ H Q h => by
    obtain ⟨α, S, fr, r, hm, rs, rf, e, p⟩ := h
    refine goM hm rs rf e p fun ds S1 α1 H1 vs n1 rd hm1 rs1 rf1 e1 p1 ex => ?_
    cases ek : btD S1 f ds with
    | none => rw [ek] at e1; cases e1
    | some o =>
      rw [ek] at e1
      exact ⟨α1, S1, ds, o, hm1, rs1, rd, ek, fin1 mkO_ex e1 p1⟩
  rcases bt_kind f with ⟨id, e1⟩ | ⟨t, e1⟩
  · rw [e1] at hv hr
    exact (pe_callB hr (gl_of ok hg) hm hv ha hn (beq_eq_false_iff_ne.mpr hd) (star_cons (hns e List.mem_cons_self)) (star_any fun y hy => hns y (List.mem_cons_of_mem _ hy))).imp body
  · rw [e1] at hv hr
    exact (pe_callTy hr (gl_of ok hg) hm hv ha hn (beq_eq_false_iff_ne.mpr hd) (star_cons (hns e List.mem_cons_self)) (star_any fun y hy => hns y (List.mem_cons_of_mem _ hy))).imp body
/-! ### isinstance -/
theorem kdTab_ok : (kdTab.all fun q => decide (bootBuiltins q.1 = some (.type q.2.name)) && decide (q.1 ∈ blNames) && decide (q.1 ≠ "__name__") && decide (q.1 ≠ "__debug__")) = true := by decide +kernel
theorem lookup_mem' {x : Str} {k : Kd} : ∀ {l : List (Str × Kd)}, l.lookup x = some k → (x, k) ∈ l
  | [], h => by simp at h
  | (y, j) :: l, h => by
    rw [List.lookup_cons] at h
    split at h
    · rename_i e
      cases h
      rw [beq_iff_eq.mp e]
      exact List.mem_cons_self
    · exact List.mem_cons_of_mem _ (lookup_mem' h)
theorem kdOf_ok {x : Str} {k : Kd} (h : kdOf x = some k) : bootBuiltins x = some (.type k.name) ∧ x ∈ blNames ∧ x ≠ "__name__" ∧ x ≠ "__debug__" := by
  have := List.all_eq_true.mp kdTab_ok _ (lookup_mem' h)
  simp only [Bool.and_eq_true, decide_eq_true_eq] at this
  exact ⟨this.1.1.1, this.1.1.2, this.1.2, this.2⟩
theorem kd_pe {k : Kd} (ok : Ok T X g C W) (h : cKd g e = some k) : PE X e (tC (.ty k.name)) ∧ noStar e = true := by
  cases e with
  | Name x p =>
    simp only [cKd] at h
    split at h
    · rename_i hg
      obtain ⟨h1, h2, h3, h4⟩ := kdOf_ok h
      exact ⟨pe_bltn (gl_of ok hg) (by rw [ok.xt.mg]; exact ok.bl x h2) h1 rfl h3 (beq_eq_false_iff_ne.mpr h4), rfl⟩
    · cases h
  | _ => simp [cKd] at h
def tTys (ks : List Kd) : TA := fun _ H Q => Q (ks.map fun k => V.ty k.name) H
theorem kds_pa (ok : Ok T X g C W) : ∀ {es : List Expr} {ks : List Kd}, es.mapM (cKd g) = some ks → PA X es (tTys ks)
  | [], ks, h => by
    cases h
    exact pa_nil.imp fun σ H Q h => h
  | e :: es, ks, h => by
    rw [List.mapM_cons] at h
    obtain ⟨k, h1, h⟩ := Option.bind_eq_some_iff.mp h
    obtain ⟨ks', h2, h⟩ := Option.bind_eq_some_iff.mp h
    cases h
    obtain ⟨q1, q2⟩ := kd_pe ok h1
    exact (pa_cons q1 (kds_pa ok h2) (star_cons q2)).imp fun σ H Q h => h
theorem clsAll : ∀ ks : List Kd, Paired ClsV (ks.map fun k => V.ty k.name) (ks.map fun k => Value.type k.name)
  | [] => .nil
  | k :: ks => .cons (.ty _) (clsAll ks)
theorem se_isi {ks : List Kd} {p : Pos} (ok : Ok T X g C W) (hg : isGl g "isinstance" = true) (hns : noStar a = true) (ha : PE X a (tE T C W ca)) (hk : cKds g b = some ks) (hl : ks.length ≤ 1000) : PE X (.Call (.Name "isinstance" p) [a, b] [] pos) (tE T C W (.isi ca ks)) := by
  have hm : X.mg "isinstance" = none := by rw [ok.xt.mg]; exact ok.bl _ (by decide +kernel)
  have hv : bootBuiltins "isinstance" = some (.builtin "isinstance") := by decide +kernel
  have one : (∃ k, ks = [k] ∧ cKd g b = some k) ∨ ∃ es k p, b = .Tuple es k p ∧ es.mapM (cKd g) = some ks := by
    cases b with
    | Tuple es k p => exact .inr ⟨es, k, p, rfl, hk⟩
    | Name x p =>
      obtain ⟨k, h1, rfl⟩ := Option.map_eq_some_iff.mp (show (cKd g (.Name x p)).map (fun k => [k]) = some ks from hk)
      exact .inl ⟨k, rfl, h1⟩
    | _ => simp [cKds, cKd] at hk
  rcases one with ⟨k, rfl, h1⟩ | ⟨es, kk, p2, rfl, h1⟩
  · obtain ⟨q1, q2⟩ := kd_pe ok h1
    refine (pe_callB call_isi (gl_of ok hg) hm hv (pa_cons ha (pa_cons q1 pa_nil (star_cons q2)) (star_cons hns)) (by decide +kernel) (by decide +kernel) (star_cons hns) (star_any (by simpa using q2))).imp fun σ H Q h => ?_
    obtain ⟨α, S, fr, r, hm, rs, rf, e, p⟩ := h
    refine goM hm rs rf e p fun d S1 α1 H1 v n1 rd hm1 rs1 rf1 e1 p1 ex => ?_
    simp only [isiD, lift] at e1
    cases ht : tyName S1 d with
    | none => rw [ht] at e1; cases e1
    | some t =>
      rw [ht] at e1
      refine ⟨v, _, _, _, isK t k, rfl, .ty _, tyX_ok ok.xt rs1 rd ht, kit_one (tyName_in ht) k, ?_⟩
      exact fin rs1 e1 p1 (by show RV _ _ _ _ _; rw [RV]; simp)
  · have hb := pe_tup (x1 := kk) (pos := p2) (kds_pa ok h1)
    refine (pe_callB call_isiT (gl_of ok hg) hm hv (pa_cons ha (pa_cons hb pa_nil) (star_cons hns)) (by decide +kernel) (by decide +kernel) (star_cons hns) rfl).imp fun σ H Q h => ?_
    obtain ⟨α, S, fr, r, hm, rs, rf, e, p⟩ := h
    refine goM hm rs rf e p fun d S1 α1 H1 v n1 rd hm1 rs1 rf1 e1 p1 ex => ?_
    simp only [isiD, lift] at e1
    cases ht : tyName S1 d with
    | none => rw [ht] at e1; cases e1
    | some t =>
      rw [ht] at e1
      refine ⟨line1000 (by simpa using hl), fun q hq => ?_⟩
      have n2 : Nxt T C.m α1 S1 H1 α1 S1 (upd H1 q (.tup (ks.map fun k => V.ty k.name))) := nxt_upd rs1 hq
      refine ⟨v, q, _, _, _, ks.any (isK t), rfl, upd_same, clsAll ks, ?_, kit_any (tyName_in ht) ks, ?_⟩
      · exact tyX_ok ok.xt n2.rs (RV_grow rs1.bx n2.g _ _ rd) ht
      · exact fin n2.rs e1 (p1.nxt n2) (by show RV _ _ _ _ _; rw [RV])
/-! ### list(range(..)), tuple(range(..)) -/
theorem rgL_rgV {i j : Int} {α : List Addr} {H : Hp} : RVs T α H (rngL i (j - i).toNat) (rgV i j) := by
  unfold rngL rgV
  refine RVs_of (by simp) fun k d v h1 h2 => ?_
  rw [List.getElem?_map] at h1 h2
  cases e : (List.range (j - i).toNat)[k]? with
  | none => rw [e] at h1; cases h1
  | some m =>
    rw [e] at h1 h2
    cases h1; cases h2
    rw [RV]
theorem rngM_ok {m : Nat} {bx tp : Bool} {x y : D} {v w : V} {α : List Addr} {S : Store} {H : Hp} {σ : L2.St} {Q : VK} {r : Rs D} (hm : m ≤ S.length) (rs : RS T α H S) (r1 : RV T α H x v) (r2 : RV T α H y w) (e : rngM bx tp x y S = some r) (p : PostR T m W (rV T) α S H σ Q r) :
    ∃ i j : Int, v = .int i ∧ w = .int j ∧ RgOk i j ∧ ∀ q, H q = none → Q (.ref q) (upd H q (if tp then .tup (rgV i j) else .lst (rgV i j))) := by
  unfold rngM at e
  split at e
  · rename_i i j
    rw [RV] at r1 r2
    split at e
    · have rr := rgL_rgV (T := T) (i := i) (j := j) (α := α) (H := H)
      refine ⟨i, j, r1, r2, ⟨by omega, by omega, by omega, by omega, by omega⟩, fun q hq => ?_⟩
      cases tp with
      | true => exact (fin1 (fun c fs S' z => by cases z) e p).tup rs rr hq
      | false => exact (fin1 (fun c fs S' z => by cases bx <;> cases z) e p).mkL hm rs rr hq
    · cases e
  · cases e
theorem se_rng1 {bx tp : Bool} {p1 p2 pos' : Pos} {x : Str} (hx : x = if tp then ("tuple" : Str) else "list") (ok : Ok T X g C W) (hg : isGl g x = true) (hg2 : isGl g "range" = true) (hns : noStar a = true) (ha : PE X a (tE T C W ca)) :
    PE X (.Call (.Name x p1) [.Call (.Name "range" p2) [a] [] pos] [] pos') (tE T C W (.rng1 bx tp ca)) := by
  have m1 : X.mg "range" = none := by rw [ok.xt.mg]; exact ok.bl _ (by decide +kernel)
  have m2 : X.mg "list" = none := by rw [ok.xt.mg]; exact ok.bl _ (by decide +kernel)
  have m3 : X.mg "tuple" = none := by rw [ok.xt.mg]; exact ok.bl _ (by decide +kernel)
  have pr := prg_1 (p := p2) (pos := pos) (gl_of ok hg2) m1 ha (star_cons hns)
  have body : ∀ {σ H} {Q : VK}, tE T C W (.rng1 bx tp ca) σ H Q → tE T C W ca σ H fun v H1 => ∃ j : Int, v = .int j ∧ RgOk 0 j ∧ ∀ q, H1 q = none → Q (.ref q) (upd H1 q (if tp then .tup (rgV 0 j) else .lst (rgV 0 j))) := fun {σ H Q} h => by
    obtain ⟨α, S, fr, r, hm, rs, rf, e, p⟩ := h
    refine goM hm rs rf e p fun d S1 α1 H1 v n1 rd hm1 rs1 rf1 e1 p1 ex => ?_
    obtain ⟨i, j, h1, h2, h3, h4⟩ := rngM_ok (v := .int 0) hm1 rs1 (by rw [RV]) rd e1 p1
    cases h1
    exact ⟨j, h2, h3, h4⟩
  cases tp with
  | true =>
    have hx' : x = "tuple" := hx
    subst hx'
    exact (pe_tupRg ok.xt.calm (gl_of ok hg) m3 pr).imp fun σ H Q h => body h
  | false =>
    have hx' : x = "list" := hx
    subst hx'
    exact (pe_listRg ok.xt.calm (gl_of ok hg) m2 pr).imp fun σ H Q h => body h
theorem se_rng2 {bx tp : Bool} {p1 p2 pos' : Pos} {x : Str} (hx : x = if tp then ("tuple" : Str) else "list") (ok : Ok T X g C W) (hg : isGl g x = true) (hg2 : isGl g "range" = true) (hns : noStar a = true) (ha : PE X a (tE T C W ca)) (hns2 : noStar b = true) (hb : PE X b (tE T C W cb)) :
    PE X (.Call (.Name x p1) [.Call (.Name "range" p2) [a, b] [] pos] [] pos') (tE T C W (.rng2 bx tp ca cb)) := by
  have m1 : X.mg "range" = none := by rw [ok.xt.mg]; exact ok.bl _ (by decide +kernel)
  have m2 : X.mg "list" = none := by rw [ok.xt.mg]; exact ok.bl _ (by decide +kernel)
  have m3 : X.mg "tuple" = none := by rw [ok.xt.mg]; exact ok.bl _ (by decide +kernel)
  have pr := prg_2 (p := p2) (pos := pos) (gl_of ok hg2) m1 ha hb (star_cons hns) (star_cons hns2) (star_any (by simpa using hns2))
  have body : ∀ {σ H} {Q : VK}, tE T C W (.rng2 bx tp ca cb) σ H Q → tE T C W ca σ H fun v H1 => tE T C W cb σ H1 fun w H2 => ∃ i j : Int, v = .int i ∧ w = .int j ∧ RgOk i j ∧ ∀ q, H2 q = none → Q (.ref q) (upd H2 q (if tp then .tup (rgV i j) else .lst (rgV i j))) := fun {σ H Q} h => by
    obtain ⟨α, S, fr, r, hm, rs, rf, e, p⟩ := h
    refine goM hm rs rf e p fun d S1 α1 H1 v n1 rd hm1 rs1 rf1 e1 p1 ex => ?_
    refine goM hm1 rs1 rf1 e1 p1 fun d2 S2 α2 H2 w n2 rd2 hm2 rs2 rf2 e2 p2 ex => ?_
    exact rngM_ok hm2 rs2 (RV_grow rs1.bx n2.g _ _ rd) rd2 e2 p2
  cases tp with
  | true =>
    have hx' : x = "tuple" := hx
    subst hx'
    exact (pe_tupRg ok.xt.calm (gl_of ok hg) m3 pr).imp fun σ H Q h => body h
  | false =>
    have hx' : x = "list" := hx
    subst hx'
    exact (pe_listRg ok.xt.calm (gl_of ok hg) m2 pr).imp fun σ H Q h => body h
/-! ### methods -/
theorem noCall_base {o : Expr} {x : Str} {env : Env} {whole : Sem Value} (h : noCall o = true) : attributeBase o x env whole = whole := by
  cases o <;> first | rfl | cases h
theorem mtTab_ok : (mtTab.all fun q => decide (q.1 = q.2.2.name)) = true := by decide +kernel
theorem mtOf_ok {x : Str} {n : Nat} {f : Mt} (h : mtOf x n = some f) : x = f.name ∧ ((f = .pop ∧ n = 0) ∨ n = 1) := by
  unfold mtOf at h
  obtain ⟨q, h1, rfl⟩ := Option.map_eq_some_iff.mp h
  have hm := List.mem_of_find?_eq_some h1
  have hp := List.find?_some h1
  simp only [Bool.and_eq_true, decide_eq_true_eq, beq_iff_eq] at hp
  have := List.all_eq_true.mp mtTab_ok q hm
  simp only [decide_eq_true_eq] at this
  refine ⟨by rw [← hp.1]; exact this, ?_⟩
  have : ∀ q ∈ mtTab, (q.2.2 = .pop ∧ q.2.1 = 0) ∨ q.2.1 = 1 := by decide
  rcases this q hm with h | h
  · exact .inl ⟨h.1, hp.2 ▸ h.2⟩
  · exact .inr (hp.2 ▸ h)
theorem tyV_list (x : XT T X) {d : D} {v : V} {α : List Addr} {S : Store} {H : Hp} (rs : RS T α H S) (r : RV T α H d v) (h : tyName S d = some "list") : tyV X.K "list" v H := by
  have key : ∀ p, v = .ref p → (∃ xs, SqL X.K H p xs) → tyV X.K "list" v H := fun p e ⟨xs, h⟩ => by
    subst e
    exact .inl ⟨rfl, xs, h⟩
  cases d with
  | lst ds =>
    rw [RV] at r
    obtain ⟨a, vs, e, h1, _⟩ := r
    exact key a e ⟨vs, .of h1⟩
  | scr ns =>
    rw [RV] at r
    obtain ⟨a, e, h3⟩ := r
    refine key a e ⟨ns.map V.int, ?_⟩
    rw [x.K]
    rcases h3 with ⟨h3, _⟩ | h3
    · exact .inl h3
    · exact .inr h3
  | ref n =>
    rw [RV] at r
    obtain ⟨a, h1, e⟩ := r
    simp only [tyName] at h
    split at h
    · rename_i ds e'
      obtain ⟨vs, h3, _⟩ := rs.box n a _ h1 e'
      exact key a e ⟨vs, .of h3⟩
    · exact absurd (Option.some.inj h) (by decide)
    · cases h
  | non => exact absurd (Option.some.inj h) (by decide)
  | bl _ => exact absurd (Option.some.inj h) (by decide)
  | int _ => exact absurd (Option.some.inj h) (by decide)
  | str _ => exact absurd (Option.some.inj h) (by decide)
  | tup _ => exact absurd (Option.some.inj h) (by decide)
  | dct _ _ => exact absurd (Option.some.inj h) (by decide)
  | fn _ => cases h
theorem mtr_of {id : String} {r : V → List V → Hp → VK → Prop} (h : MtM X id r) : MtR X id r := h
theorem mtD_ex {m : Nat} {f : Mt} {o : D} {as : List D} {S : Store} (c : Nat) (fs : List D) (S' : Store) : mtD m f o as S ≠ some (.ex c fs S') := by
  intro h
  unfold mtD at h
  repeat' split at h
  all_goals cases h
theorem met_body {f : Mt} {o : Ex} {cs : List Ex} (x : XT T X) {σ : L2.St} {H : Hp} {Q : VK} (h : tE T C W (.met f o cs) σ H Q) : tE T C W o σ H fun v H1 => tyV X.K "list" v H1 ∧ tEs T C W cs σ H1 fun vs H2 => rMt T C.m f v vs H2 Q := by
  obtain ⟨α, S, fr, r, hm, rs, rf, e, p⟩ := h
  refine goM hm rs rf e p fun d S1 α1 H1 v n1 rd hm1 rs1 rf1 e1 p1 _ => ?_
  split at e1
  · rename_i ht
    refine ⟨tyV_list x rs1 rd ht, goM hm1 rs1 rf1 e1 p1 fun ds S2 α2 H2 vs n2 rd2 hm2 rs2 rf2 e2 p2 _ => ?_⟩
    obtain ⟨b, S', e3, q⟩ := fin1 mtD_ex e2 p2
    exact ⟨α2, S2, d, ds, b, S', hm2, rs2, RV_grow rs1.bx n2.g _ _ rd, rd2, e3, fun α' H' v n rv => q α' H' v n rv⟩
  · cases e1
theorem se_met1 {f : Mt} {x : Str} {ap : Pos} (xt : XT T X) (hf : mtOf x 1 = some f) (hb : noCall a = true) (hl : (ap.endLine == pos.line) = true) (ha : PE X a (tE T C W ca)) (hns : noStar b = true) (hbb : PE X b (tE T C W cb)) :
    PE X (.Call (.Attribute a x ap) [b] [] pos) (tE T C W (.met f ca [cb])) := by
  obtain ⟨rfl, hk⟩ := mtOf_ok hf
  have hr := op_mt (m := C.m) (f := f) xt
  have go : ∀ {id : String} {nm : Str} (slot : Slot "list" nm id) (hty : typeOf (.builtin id) = pure (.type "method_descriptor")), f.id = id → f.name = nm → PE X (.Call (.Attribute a f.name ap) [b] [] pos) (tE T C W (.met f ca [cb])) := fun {id nm} slot hty e1 e2 => by
    rw [e1] at hr
    rw [e2]
    refine (pe_bm PySem.F.plainAttrs_list slot hty hr ha (pa_one hns hbb) (noCall_base hb) ?_ hl (star_cons hns) rfl).imp fun σ H Q h => met_body xt h
    rw [star_cons hns]
    rfl
  cases f with
  | append => exact go PySem.F.slot_list_append PySem.F.type_list_append rfl rfl
  | extend => exact go PySem.F.slot_list_extend PySem.F.type_list_extend rfl rfl
  | pop => exact go PySem.F.slot_list_pop PySem.F.type_list_pop rfl rfl
  | popAt => exact go PySem.F.slot_list_pop PySem.F.type_list_pop rfl rfl
theorem se_met0 {f : Mt} {x : Str} {ap : Pos} (xt : XT T X) (hf : mtOf x 0 = some f) (hb : noCall a = true) (hl : (ap.endLine == pos.line) = true) (ha : PE X a (tE T C W ca)) :
    PE X (.Call (.Attribute a x ap) [] [] pos) (tE T C W (.met f ca [])) := by
  obtain ⟨rfl, hk⟩ := mtOf_ok hf
  have hf2 : f = .pop := by
    rcases hk with h | h
    · exact h.1
    · cases h
  subst hf2
  have hr := op_mt (m := C.m) (f := .pop) xt
  refine (pe_bm0 PySem.F.plainAttrs_list PySem.F.slot_list_pop PySem.F.type_list_pop hr ha (noCall_base hb) hl).imp fun σ H Q h => ?_
  obtain ⟨α, S, fr, r, hm, rs, rf, e, p⟩ := met_body xt h
  refine ⟨α, S, fr, r, hm, rs, rf, e, ?_⟩
  cases r with
  | ok d S' =>
    intro α' H' v n rd
    obtain ⟨h1, h2⟩ := p α' H' v n rd
    obtain ⟨α, S, fr, r, hm, rs, rf, e, p⟩ := h2
    exact ⟨h1, fin rs e p RVs_nil⟩
  | ex c fs S' => exact p
theorem zip_RVs {α : List Addr} {HE : Hp} : ∀ {ks ds : List D} {es : List (Key × V)} {ts : List Addr}, ks.map keyD = es.map (fun e => some e.1) → RVs T α HE ds (es.map (·.2)) → Paired (fun (t : Addr) (q : Key × V) => HE t = some (.tup [kV q.1, q.2])) ts es → RVs T α HE (zipL ks ds) (ts.map V.ref)
  | [], ds, es, ts, h1, h2, h3 => by
    have : es = [] := by cases es with
      | nil => rfl
      | cons _ _ => simp at h1
    subst this
    cases h3
    exact RVs_nil
  | k :: ks, [], es, ts, h1, h2, h3 => by
    cases es with
    | nil => simp at h1
    | cons e es => rw [List.map_cons, RVs] at h2; cases h2
  | k :: ks, d :: ds, es, ts, h1, h2, h3 => by
    cases h3 with
    | nil => simp at h1
    | @cons t e ts es ht p =>
      simp only [List.map_cons, List.cons.injEq] at h1
      rw [List.map_cons, RVs] at h2
      obtain ⟨v, r, h4, h5, h6⟩ := h2
      cases h4
      refine RVs_cons ?_ (zip_RVs h1.2 h6 p)
      rw [RV]
      refine ⟨t, [kV e.1, e.2], rfl, .of ht, RVs_cons ?_ (RVs_cons h5 RVs_nil)⟩
      cases k <;> first | (cases h1.1; done) | skip
      · have := Option.some.inj h1.1; rw [RV, ← this]; rfl
      · have := Option.some.inj h1.1; rw [RV, ← this]; rfl
theorem paired_off {H' : Hp} {pl : Addr} : ∀ {ts : List Addr} {es : List (Key × V)}, pl ∉ ts → Paired (fun (t : Addr) (q : Key × V) => H' t = some (.tup [kV q.1, q.2])) ts es → Paired (fun (t : Addr) (q : Key × V) => (fun b => if b = pl then none else H' b) t = some (.tup [kV q.1, q.2])) ts es
  | [], _, _, .nil => .nil
  | t :: ts, _ :: es, h, .cons ht p => .cons (by
      show (if t = pl then none else H' t) = _
      rw [if_neg (show t ≠ pl from fun z => h (by rw [z]; exact List.mem_cons_self))]
      exact ht) (paired_off (fun z => h (List.mem_cons_of_mem _ z)) p)
theorem se_items {bx : Bool} {p1 ap cp p : Pos} (ok : Ok T X g C W) (hg : isGl g "list" = true) (hb : noCall a = true) (hl : (ap.endLine == cp.line) = true) (ha : PE X a (tE T C W ca)) :
    PE X (.Call (.Name "list" p1) [.Call (.Attribute a "items" ap) [] [] cp] [] p) (tE T C W (.items bx ca)) := by
  have m2 : X.mg "list" = none := by rw [ok.xt.mg]; exact ok.bl _ (by decide +kernel)
  refine (LiI.pe_listItems ok.xt.calm ha (gl_of ok hg) m2 (by rfl) (noCall_base hb) hl).imp fun σ H Q h => ?_
  obtain ⟨α, S, fr, r, hm, rs, rf, e, pp⟩ := h
  refine goM hm rs rf e pp fun d S1 α1 H1 v n1 rd hm1 rs1 rf1 e1 p1 _ => ?_
  cases ed : dctOf S1 d with
  | none => rw [ed] at e1; cases e1
  | some q =>
    rw [ed] at e1
    obtain ⟨ks, ds⟩ := q
    have e1 : mkL bx (zipL ks ds) S1 = some r := e1
    obtain ⟨q, es, rfl, h1, h2, h3⟩ := dctOf_ok rs1 rd ed
    refine ⟨q, es, rfl, h1, fun H' pl ts k1 k2 k3 k4 k5 k6 => ?_⟩
    have nf : ∀ t ∈ ts, t ≠ pl := fun t ht z => k4 (z ▸ ht)
    have kE : ∀ b o, H1 b = some o → (fun b => if b = pl then none else H' b) b = some o := fun b o hb => by
      show (if b = pl then none else H' b) = some o
      rw [if_neg (show b ≠ pl from fun z => by rw [z, k2] at hb; cases hb)]
      exact k1 b o hb
    have nE : Nxt T C.m α1 S1 H1 α1 S1 (fun b => if b = pl then none else H' b) := rs1.kept kE
    have hE : (fun b => if b = pl then none else H' b) pl = none := if_pos rfl
    have up : upd (fun b => if b = pl then none else H' b) pl (.lst (ts.map V.ref)) = H' := by
      funext b
      by_cases z : b = pl
      · subst z; rw [upd_same, k5]
      · rw [upd_ne z, if_neg z]
    have pE : Paired (fun (t : Addr) (q : Key × V) => (fun b => if b = pl then none else H' b) t = some (.tup [kV q.1, q.2])) ts es := by
      exact paired_off k4 k6
    have rz := zip_RVs (T := T) (α := α1) h2 (RVs_grow rs1.bx nE.g _ _ h3) pE
    have dn : Done T C.m (rV T) α1 S1 (fun b => if b = pl then none else H' b) (mkL bx (zipL ks ds)) Q := by
      cases r with
      | ok b S' => exact ⟨b, S', e1, fun α2 H2 g n rv => p1 α2 H2 g (nE.trans (Nat.le_refl _) n) rv⟩
      | ex c fs S' => exfalso; cases bx <;> cases e1
    have := dn.mkL hm1 nE.rs rz hE
    rw [up] at this
    exact this
/-! ### what is walked -/
abbrev tIt (T : Tp) (C : Cf) (W : WX) (i : It) : TI := tM T C.m W (evIt C i) (fun α H t J => Yld T J t α H)
theorem si_val (x : XT T X) {tg : Expr} (ha : PE X a (tE T C W ca)) : PI X tg a (tIt T C W (.val ca)) := by
  refine (pi_val ha).imp fun σ H R h => ?_
  obtain ⟨α, S, fr, r, hm, rs, rf, e, p⟩ := h
  refine goM hm rs rf e p fun d S1 α1 H1 v n1 rd hm1 rs1 rf1 e1 p1 _ => ?_
  simp only [lift] at e1
  obtain ⟨t, e2, rfl⟩ := Option.map_eq_some_iff.mp e1
  have go : ∀ J, Yld T J t α1 H1 → R J H1 := fun J y => fin rs1 rfl p1 y
  cases d with
  | lst ds =>
    cases e2
    have r0 := rd
    have rd : RV T α1 H1 (.lst ds) v := rd
    rw [RV] at rd
    obtain ⟨q, vs, rfl, h1, h2, h3⟩ := rd
    refine .inl ⟨q, vs, rfl, .of h1, ?_⟩
    rw [x.K]
    exact go _ (yld_list fun no α H S hn g rs _ => ⟨vs, .of (g.keep q _ h1 h2.1 h2.2), RVs_growM g hn _ _ h3⟩)
  | tup ds =>
    cases e2
    have rd : RV T α1 H1 (.tup ds) v := rd
    rw [RV] at rd
    obtain ⟨q, vs, rfl, h1, h3⟩ := rd
    refine .inr (.inl ⟨q, vs, rfl, by rw [x.K]; exact h1, ?_⟩)
    rw [x.K]
    exact go _ (yld_tup fun no α H S hn g rs _ => ⟨vs, g.sqT h1, RVs_growM g hn _ _ h3⟩)
  | str y =>
    cases e2
    have rd : RV T α1 H1 (.str y) v := rd
    rw [RV] at rd
    exact .inr (.inr ⟨y, rd, go _ yld_str⟩)
  | scr ns =>
    cases e2
    have r0 : RV T α1 H1 (.scr ns) v := rd
    have rd : RV T α1 H1 (.scr ns) v := rd
    rw [RV] at rd
    obtain ⟨q, rfl, h1⟩ := rd
    have hq : SqL T.K H1 q (ns.map V.int) := by
      rcases h1 with ⟨h1, _⟩ | h1
      · exact .inl h1
      · exact .inr h1
    refine .inl ⟨q, _, rfl, by rw [x.K]; exact hq, ?_⟩
    rw [x.K]
    refine go _ (yld_list fun no α H S hn g rs _ => ⟨ns.map V.int, ?_, RVs_ints ns⟩)
    have r2 := RV_growM g hn _ _ r0
    rw [RV] at r2
    obtain ⟨q', e', h2⟩ := r2
    cases e'
    rcases h2 with ⟨h2, _⟩ | h2
    · exact .inl h2
    · exact .inr h2
  | ref n =>
    have rd : RV T α1 H1 (.ref n) v := rd
    rw [RV] at rd
    obtain ⟨q, h1, rfl⟩ := rd
    simp only [itemsOf] at e2
    split at e2
    · rename_i ds e'
      cases e2
      obtain ⟨vs, h3, h4⟩ := rs1.box n q _ h1 e'
      refine .inl ⟨q, vs, rfl, .of h3, ?_⟩
      rw [x.K]
      refine go _ (yld_list fun no α H S hn g rs st => ?_)
      unfold Its.still at st
      obtain ⟨ws, h5, h6⟩ := rs.box n q _ (g.get h1) (of_decide_eq_true st)
      exact ⟨ws, .of h5, h6⟩
    · cases e2
  | non => cases e2
  | bl _ => cases e2
  | int _ => cases e2
  | dct _ _ => cases e2
  | fn _ => cases e2
theorem si_rng1 {tg : Expr} {p : Pos} (ok : Ok T X g C W) (hg : isGl g "range" = true) (hns : noStar a = true) (ha : PE X a (tE T C W ca)) : PI X tg (.Call (.Name "range" p) [a] [] pos) (tIt T C W (.rng1 ca)) := by
  have m1 : X.mg "range" = none := by rw [ok.xt.mg]; exact ok.bl _ (by decide +kernel)
  refine (pi_range1 (gl_of ok hg) m1 (pa_cons ha pa_nil (star_cons hns)) (star_cons hns)).imp fun σ H R h => ?_
  obtain ⟨α, S, fr, r, hm, rs, rf, e, p⟩ := h
  refine goM hm rs rf e p fun d S1 α1 H1 v n1 rd hm1 rs1 rf1 e1 p1 _ => ?_
  cases d with
  | int j =>
    have rd : RV T α1 H1 (.int j) v := rd
    rw [RV] at rd
    subst rd
    simp only at e1
    split at e1
    · rename_i hb
      unfold big62 at hb
      simp only [Bool.and_eq_true, decide_eq_true_eq] at hb
      exact ⟨j, rfl, hb.1, hb.2, fin rs1 e1 p1 yld_rng⟩
    · cases e1
  | _ => cases e1
theorem si_rng2 {tg : Expr} {p : Pos} (ok : Ok T X g C W) (hg : isGl g "range" = true) (hns : noStar a = true) (ha : PE X a (tE T C W ca)) (hns2 : noStar b = true) (hb : PE X b (tE T C W cb)) : PI X tg (.Call (.Name "range" p) [a, b] [] pos) (tIt T C W (.rng2 ca cb)) := by
  have m1 : X.mg "range" = none := by rw [ok.xt.mg]; exact ok.bl _ (by decide +kernel)
  refine (pi_range2 (gl_of ok hg) m1 (pa_cons ha (pa_cons hb pa_nil (star_cons hns2)) (star_cons hns)) (by rw [star_cons hns, star_cons hns2]; rfl) (by rw [star_cons hns2]; rfl)).imp fun σ H R h => ?_
  obtain ⟨α, S, fr, r, hm, rs, rf, e, p⟩ := h
  refine goM hm rs rf e p fun d S1 α1 H1 v n1 rd hm1 rs1 rf1 e1 p1 _ => ?_
  refine goM hm1 rs1 rf1 e1 p1 fun d2 S2 α2 H2 w n2 rd2 hm2 rs2 rf2 e2 p2 _ => ?_
  cases d with
  | int i => cases d2 with
    | int j =>
      have rd : RV T α1 H1 (.int i) v := rd
      rw [RV] at rd
      have rd2 : RV T α2 H2 (.int j) w := rd2
      rw [RV] at rd2
      subst rd rd2
      simp only at e2
      split at e2
      · rename_i hb
        unfold big62 at hb
        simp only [Bool.and_eq_true, decide_eq_true_eq] at hb
        exact ⟨i, j, rfl, ⟨hb.1.1, hb.1.2, hb.2.1, hb.2.2⟩, fin rs2 e2 p2 yld_rng⟩
      · cases e2
    | _ => cases e2
  | _ => cases d2 <;> cases e2
theorem si_enum {p tp : Pos} {elts : List Expr} {kk : Nat} (ok : Ok T X g C W) (hg : isGl g "enumerate" = true) (hns : noStar a = true) (ha : PE X a (tE T C W ca)) : PI X (.Tuple elts kk tp) (.Call (.Name "enumerate" p) [a] [] pos) (tIt T C W (.enum ca)) := by
  have m1 : X.mg "enumerate" = none := by rw [ok.xt.mg]; exact ok.bl _ (by decide +kernel)
  refine (pi_enum (gl_of ok hg) m1 (pa_cons ha pa_nil (star_cons hns)) (star_cons hns)).imp fun σ H R h => ?_
  obtain ⟨α, S, fr, r, hm, rs, rf, e, p⟩ := h
  refine goM hm rs rf e p fun d S1 α1 H1 v n1 rd hm1 rs1 rf1 e1 p1 _ => ?_
  cases d with
  | lst ds =>
    have rd : RV T α1 H1 (.lst ds) v := rd
    rw [RV] at rd
    obtain ⟨q, vs, rfl, h1, h2, h3⟩ := rd
    refine ⟨q, vs, rfl, .of h1, ?_⟩
    rw [ok.xt.K]
    exact fin rs1 e1 p1 (yld_enum fun no α H S hn g rs => ⟨vs, .of (g.keep q _ h1 h2.1 h2.2), RVs_growM g hn _ _ h3⟩)
  | _ => cases e1
theorem si_zip {p tp : Pos} {elts : List Expr} {kk : Nat} (ok : Ok T X g C W) (hg : isGl g "zip" = true) (hns : noStar a = true) (ha : PE X a (tE T C W ca)) (hns2 : noStar b = true) (hb : PE X b (tE T C W cb)) : PI X (.Tuple elts kk tp) (.Call (.Name "zip" p) [a, b] [] pos) (tIt T C W (.zip ca cb)) := by
  have m1 : X.mg "zip" = none := by rw [ok.xt.mg]; exact ok.bl _ (by decide +kernel)
  refine ⟨fun pins s σ H R I h => ?_⟩
  obtain ⟨α, S, fr, r, hm, rs, rf, e, p⟩ := h
  by_cases hz : ∃ z S1, ev C ca fr S = some (.ok (.str z) S1)
  · refine (pi_zipST (gl_of ok hg) m1 (pa_cons ha (pa_cons hb pa_nil (star_cons hns2)) (star_cons hns)) (star_cons hns) (star_any (by simpa using hns2))).run pins s σ H R I ?_
    refine goM hm rs rf e p fun d S1 α1 H1 v n1 rd hm1 rs1 rf1 e1 p1 ex => ?_
    refine goM hm1 rs1 rf1 e1 p1 fun d2 S2 α2 H2 w n2 rd2 hm2 rs2 rf2 e2 p2 _ => ?_
    obtain ⟨z, S', hz⟩ := hz
    rw [hz] at ex
    cases ex
    have rd : RV T α1 H1 (.str z) v := rd
    have rd2 : RV T α2 H2 d2 w := rd2
    rw [RV] at rd
    subst rd
    cases d2 with
    | tup ys =>
      rw [RV] at rd2
      obtain ⟨q', vs', rfl, h1', h3'⟩ := rd2
      refine ⟨z, q', vs', rfl, by rw [ok.xt.K]; exact h1', ?_⟩
      rw [ok.xt.K, ← RVs_len h3']
      exact fin rs2 e2 p2 (yld_zipST fun no α H S hn g rs => ⟨vs', g.sqT h1', RVs_growM g hn _ _ h3'⟩)
    | _ => cases e2
  refine (RZ.pi_zipA (gl_of ok hg) m1 (pa_cons ha (pa_cons hb pa_nil (star_cons hns2)) (star_cons hns)) (star_cons hns) (star_any (by simpa using hns2))).run pins s σ H R I ?_
  refine goM hm rs rf e p fun d S1 α1 H1 v n1 rd hm1 rs1 rf1 e1 p1 ex => ?_
  refine goM hm1 rs1 rf1 e1 p1 fun d2 S2 α2 H2 w n2 rd2 hm2 rs2 rf2 e2 p2 _ => ?_
  have rd := RV_grow rs1.bx n2.g _ _ rd
  have rd2 : RV T α2 H2 d2 w := rd2
  cases d with
  | lst xs => cases d2 with
    | lst ys =>
      rw [RV] at rd rd2
      obtain ⟨q, vs, rfl, h1, h2, h3⟩ := rd
      obtain ⟨q', vs', rfl, h1', h2', h3'⟩ := rd2
      refine ⟨q, q', vs, vs', rfl, .inl ⟨.of h1, .of h1', ?_⟩⟩
      rw [ok.xt.K]
      exact fin rs2 e2 p2 (yld_zipL fun no α H S hn g rs => ⟨vs, vs', .of (g.keep q _ h1 h2.1 h2.2), RVs_growM g hn _ _ h3, .of (g.keep q' _ h1' h2'.1 h2'.2), RVs_growM g hn _ _ h3'⟩)
    | _ => cases e2
  | tup xs => cases d2 with
    | tup ys =>
      rw [RV] at rd rd2
      obtain ⟨q, vs, rfl, h1, h3⟩ := rd
      obtain ⟨q', vs', rfl, h1', h3'⟩ := rd2
      refine ⟨q, q', vs, vs', rfl, .inr ⟨by rw [ok.xt.K]; exact h1, by rw [ok.xt.K]; exact h1', ?_⟩⟩
      rw [ok.xt.K]
      exact fin rs2 e2 p2 (yld_zipT fun no α H S hn g rs => ⟨vs, vs', g.sqT h1, RVs_growM g hn _ _ h3, g.sqT h1', RVs_growM g hn _ _ h3'⟩)
    | _ => cases e2
  | str z => exact absurd ⟨z, _, ex⟩ hz
  | _ => cases d2 <;> cases e2
end
end Vm
/-! Vm 14: targets, comprehensions. -/
namespace Vm
open PySem L2
mutual
theorem RV_sub {T : Tp} {no : List Addr} {α β : List Addr} {H H' : Hp} (kp : ∀ a o, H a = some o → NoBox T α a → H' a = some o ∧ NoBox (T.wn no) β a) (kt : ∀ a vs, Rd H a (.tup vs) → Rd H' a (.tup vs)) (rf : ∀ (n : Nat) (a : Addr), α[n]? = some a → β[n]? = some a) :
    ∀ (d : D) (v : V), RV T α H d v → RV (T.wn no) β H' d v
  | .non, v, h => by simpa [RV] using h
  | .bl _, v, h => by simpa [RV] using h
  | .int _, v, h => by simpa [RV] using h
  | .str _, v, h => by simpa [RV] using h
  | .fn _, v, h => by simpa [RV] using h
  | .tup ds, v, h => by
    rw [RV] at h ⊢
    obtain ⟨a, vs, e, h1, h2⟩ := h
    refine ⟨a, vs, e, ?_, RVs_sub kp kt rf ds vs h2⟩
    rcases h1 with h1 | h1
    · exact .inl (kt a vs h1)
    · exact .inr h1
  | .lst ds, v, h => by
    rw [RV] at h ⊢
    obtain ⟨a, vs, e, h1, h2, h3⟩ := h
    obtain ⟨k1, k2⟩ := kp a _ h1 h2
    exact ⟨a, vs, e, k1, k2, RVs_sub kp kt rf ds vs h3⟩
  | .dct ks ds, v, h => by
    rw [RV] at h ⊢
    obtain ⟨a, es, e, h1, h2, h3, h4⟩ := h
    obtain ⟨k1, k2⟩ := kp a _ h1 h2
    exact ⟨a, es, e, k1, k2, h3, RVs_sub kp kt rf ds _ h4⟩
  | .ref n, v, h => by
    rw [RV] at h ⊢
    obtain ⟨a, e1, e2⟩ := h
    exact ⟨a, rf n a e1, e2⟩
  | .scr ns, v, h => by
    rw [RV] at h ⊢
    obtain ⟨a, e, ⟨h1 | ⟨o, h1⟩, h2⟩ | h1⟩ := h
    · obtain ⟨k1, k2⟩ := kp a _ h1 h2
      exact ⟨a, e, .inl ⟨.inl k1, k2⟩⟩
    · obtain ⟨k1, k2⟩ := kp a _ h1 h2
      exact ⟨a, e, .inl ⟨.inr ⟨o, k1⟩, k2⟩⟩
    · exact ⟨a, e, .inr h1⟩
theorem RVs_sub {T : Tp} {no : List Addr} {α β : List Addr} {H H' : Hp} (kp : ∀ a o, H a = some o → NoBox T α a → H' a = some o ∧ NoBox (T.wn no) β a) (kt : ∀ a vs, Rd H a (.tup vs) → Rd H' a (.tup vs)) (rf : ∀ (n : Nat) (a : Addr), α[n]? = some a → β[n]? = some a) :
    ∀ (ds : List D) (vs : List V), RVs T α H ds vs → RVs (T.wn no) β H' ds vs
  | [], vs, h => by simpa [RVs] using h
  | d :: ds, vs, h => by
    rw [RVs] at h ⊢
    obtain ⟨v, r, e, h1, h2⟩ := h
    exact ⟨v, r, e, RV_sub kp kt rf d v h1, RVs_sub kp kt rf ds r h2⟩
end
theorem BoxAt_sub {T : Tp} {no : List Addr} {α β : List Addr} {H H' : Hp} (kp : ∀ a o, H a = some o → NoBox T α a → H' a = some o ∧ NoBox (T.wn no) β a) (kt : ∀ a vs, Rd H a (.tup vs) → Rd H' a (.tup vs)) (rf : ∀ (n : Nat) (a : Addr), α[n]? = some a → β[n]? = some a) {a : Addr} (hk : H' a = H a) :
    ∀ {d : D}, BoxAt T α H a d → BoxAt (T.wn no) β H' a d
  | .lst ds, h => by
    obtain ⟨vs, h1, h2⟩ := h
    exact ⟨vs, hk.trans h1, RVs_sub kp kt rf ds vs h2⟩
  | .dct ks ds, h => by
    obtain ⟨vs, h1, h2, h3⟩ := h
    exact ⟨vs, hk.trans h1, h2, RVs_sub kp kt rf ds _ h3⟩
  | .non, h => h.elim
  | .bl _, h => h.elim
  | .int _, h => h.elim
  | .str _, h => h.elim
  | .tup _, h => h.elim
  | .ref _, h => h.elim
  | .scr _, h => h.elim
  | .fn _, h => h.elim
/-! ### targets -/
/-- a value at a target -/
def gT (T : Tp) (t : Tg) : TG := fun v σ H Q => ∃ no α S d fr fr', RS (T.wn no) α H S ∧ RF (T.wn no) α H fr σ ∧ RV (T.wn no) α H d v ∧ asgT t d fr = some fr' ∧
  ∀ σ', RF (T.wn no) α H fr' σ' → (∀ i, i ∉ tgV t → σ'[i]? = σ[i]?) → Q σ' H
def gTs (T : Tp) (ts : List Tg) : TGs := fun vs σ H Q => ∃ no α S ds fr fr', RS (T.wn no) α H S ∧ RF (T.wn no) α H fr σ ∧ RVs (T.wn no) α H ds vs ∧ asgTs ts ds fr = some fr' ∧
  ∀ σ', RF (T.wn no) α H fr' σ' → (∀ i, i ∉ tgVs ts → σ'[i]? = σ[i]?) → Q σ' H
section
variable {T : Tp} {X : Cx} {g : Cfg} {C : Cf} {W : WX} {e a b : Expr} {c ca cb : Ex} {pos : Pos}
theorem _root_.L2.PG.imp {tg : Expr} {t t' : TG} (h : PG X tg t) (k : ∀ v σ H Q, t' v σ H Q → t v σ H Q) : PG X tg t' := ⟨fun pins s σ H v u Q I r q => h.run pins s σ H v u Q I r (k v σ H Q q)⟩
theorem _root_.L2.PGs.imp {tg : List Expr} {t t' : TGs} (h : PGs X tg t) (k : ∀ v σ H Q, t' v σ H Q → t v σ H Q) : PGs X tg t' := ⟨fun pins s σ H v u Q I r q => h.run pins s σ H v u Q I r (k v σ H Q q)⟩
theorem RF.set {α : List Addr} {H : Hp} {fr : Fr} {σ : L2.St} {i : Nat} {d : D} {v : V} (rf : RF T α H fr σ) (r : RV T α H d v) : RF T α H (fr.set i (some d)) (σ.set i (some v)) := by
  refine ⟨by rw [List.length_set, List.length_set]; exact rf.len, fun j e h => ?_⟩
  unfold getFr at h
  by_cases hj : i = j
  · subst hj
    by_cases hl : i < fr.length
    · rw [List.getElem?_set_self hl] at h
      cases h
      exact ⟨v, by rw [List.getElem?_set_self (by rw [← rf.len]; exact hl)], r⟩
    · rw [List.getElem?_eq_none (by simpa using hl)] at h; cases h
  · rw [List.getElem?_set_ne hj] at h
    obtain ⟨w, h1, h2⟩ := rf.at_ j e h
    exact ⟨w, by rw [List.getElem?_set_ne hj]; exact h1, h2⟩
theorem noTgSub {n : Nat} {e : Expr} {t : Tg} (h : cTg g n e = some t) : (∃ x p, e = .Name x p) ∨ ∃ es k p, e = .Tuple es k p := by
  cases n with
  | zero => simp [cTg] at h
  | succ n => cases e <;> first | exact .inl ⟨_, _, rfl⟩ | exact .inr ⟨_, _, _, rfl⟩ | (simp [cTg] at h)
theorem tg_each {n : Nat} {e : Expr} {t : Tg} {es : List Expr} {env : Env} (h : cTg g n e = some t) : assignEach (e :: es) env = (false, assign e env) :: assignEach es env := by
  rcases noTgSub h with ⟨x, p, rfl⟩ | ⟨l, k, p, rfl⟩ <;> rfl
theorem tgs_each {env : Env} : ∀ {n : Nat} {es : List Expr} {ts : List Tg}, cTgs g n es = some ts → (assignEach es env).length = ts.length ∧ (assignEach es env).findIdx? (·.1) = none
  | 0, es, ts, h => by simp [cTgs] at h
  | n + 1, [], ts, h => by simp only [cTgs, Option.some.injEq] at h; subst h; exact ⟨rfl, rfl⟩
  | n + 1, e :: es, ts, h => by
    simp only [cTgs, Option.bind_eq_some_iff, Option.map_eq_some_iff] at h
    obtain ⟨t, h1, ts', h2, rfl⟩ := h
    obtain ⟨q1, q2⟩ := tgs_each (env := env) h2
    rw [tg_each h1]
    refine ⟨by rw [List.length_cons, List.length_cons, q1], ?_⟩
    rw [List.findIdx?_cons, q2]
    rfl
theorem asgTs_len : ∀ {ts : List Tg} {ds : List D} {fr fr' : Fr}, asgTs ts ds fr = some fr' → ds.length = ts.length
  | [], [], _, _, _ => rfl
  | [], _ :: _, _, _, h => by simp [asgTs] at h
  | _ :: _, [], _, _, h => by simp [asgTs] at h
  | t :: ts, d :: ds, fr, fr', h => by
    simp only [asgTs, Option.bind_eq_some_iff] at h
    obtain ⟨fr1, _, h2⟩ := h
    rw [List.length_cons, List.length_cons, asgTs_len h2]
/-- (a, b, ..) = a tuple or a list of that length -/
def gAny (K : PySem.W.Frag) (n : Nat) (t : TGs) : TG := fun v σ H Q => ∃ a xs, v = .ref a ∧ (SqT K H a xs ∨ SqL K H a xs) ∧ xs.length = n ∧ t xs σ H Q
theorem pg_any {es : List Expr} {k : Nat} {t : TGs} {n : Nat} (hc : X.calm = true) (h : PGs X es t) (hn : (assignEach es X.env).length = n) (hst : (assignEach es X.env).findIdx? (·.1) = none) : PG X (.Tuple es k pos) (gAny X.K n t) :=
  ⟨fun pins s σ H v u Q I r ⟨a, xs, e1, hq, hl, hw⟩ => hq.elim (fun hq => (pg_tup hc h hn hst).run pins s σ H v u Q I r ⟨a, xs, e1, hq, hl, hw⟩) fun hq => (pg_lst hc h hn hst).run pins s σ H v u Q I r ⟨a, xs, e1, hq, hl, hw⟩⟩
mutual
theorem st_tg (xt : XT T X) (hN : X.N = g.N) (hs : ∀ x k, g.sc.names.lookup x = some k → ScK X.env.scope x k) (hf : ∀ x, g.sc.names.lookup x = some .cell → X.fn x = true ∨ X.env.scope.names.lookup x = some .local) :
    ∀ {n : Nat} {e : Expr} {t : Tg}, cTg g n e = some t → PG X e (gT T t)
  | 0, e, t, h => by simp [cTg] at h
  | n + 1, .Name x p, t, h => by
    have key : (slotN g.N x).map Tg.nm = some t ∧ Loc X.env.scope x ∧ (X.fn x = true ∨ X.env.scope.names.lookup x = some .local) := by
      simp only [cTg] at h
      split at h
      · rename_i q; exact ⟨h, .inl (hs x _ q), .inr (hs x _ q)⟩
      · rename_i q; exact ⟨h, .inr (hs x _ q), hf x q⟩
      · cases h
    obtain ⟨h, hl, hfx⟩ := key
    obtain ⟨i, h1, rfl⟩ := Option.map_eq_some_iff.mp h
    refine (pg_name xt.nd (by rw [hN]; exact slotN_ok h1) hl hfx).imp fun v σ H Q h => ?_
    obtain ⟨no, α, S, d, fr, fr', rs, rf, rd, e, k⟩ := h
    simp only [asgT] at e
    split at e
    · cases e
      refine k _ (rf.set rd) fun j hj => ?_
      rw [List.getElem?_set_ne]
      intro z
      exact hj (by simp [tgV, z])
    · cases e
  | n + 1, .Tuple es k p, t, h => by
    simp only [cTg, Option.map_eq_some_iff] at h
    obtain ⟨ts, h1, rfl⟩ := h
    obtain ⟨q1, q2⟩ := tgs_each (env := X.env) h1
    refine (pg_any xt.calm (st_tgs xt hN hs hf h1) q1 q2).imp fun v σ H Q h => ?_
    obtain ⟨no, α, S, d, fr, fr', rs, rf, rd, e, k⟩ := h
    cases d with
    | tup ds =>
      rw [RV] at rd
      obtain ⟨a, vs, rfl, h2, h3⟩ := rd
      exact ⟨a, vs, rfl, .inl (by rw [xt.K]; exact h2), by rw [← RVs_len h3, asgTs_len e], no, α, S, ds, fr, fr', rs, rf, h3, e, k⟩
    | lst ds =>
      rw [RV] at rd
      obtain ⟨a, vs, rfl, h2, _, h3⟩ := rd
      exact ⟨a, vs, rfl, .inr (.of h2), by rw [← RVs_len h3, asgTs_len e], no, α, S, ds, fr, fr', rs, rf, h3, e, k⟩
    | _ => simp [asgT] at e
  | n + 1, .Constant _ _ _, t, h => by simp [cTg] at h
  | n + 1, .JoinedStr .., t, h => by simp [cTg] at h
  | n + 1, .BinOp .., t, h => by simp [cTg] at h
  | n + 1, .UnaryOp .., t, h => by simp [cTg] at h
  | n + 1, .BoolOp .., t, h => by simp [cTg] at h
  | n + 1, .Compare .., t, h => by simp [cTg] at h
  | n + 1, .Call .., t, h => by simp [cTg] at h
  | n + 1, .IfExp .., t, h => by simp [cTg] at h
  | n + 1, .Attribute .., t, h => by simp [cTg] at h
  | n + 1, .NamedExpr .., t, h => by simp [cTg] at h
  | n + 1, .Starred .., t, h => by simp [cTg] at h
  | n + 1, .Subscript .., t, h => by simp [cTg] at h
  | n + 1, .Slice .., t, h => by simp [cTg] at h
  | n + 1, .List .., t, h => by simp [cTg] at h
  | n + 1, .Dict .., t, h => by simp [cTg] at h
  | n + 1, .Set .., t, h => by simp [cTg] at h
  | n + 1, .ListComp .., t, h => by simp [cTg] at h
  | n + 1, .SetComp .., t, h => by simp [cTg] at h
  | n + 1, .DictComp .., t, h => by simp [cTg] at h
  | n + 1, .GeneratorExp .., t, h => by simp [cTg] at h
  | n + 1, .Lambda .., t, h => by simp [cTg] at h
theorem st_tgs (xt : XT T X) (hN : X.N = g.N) (hs : ∀ x k, g.sc.names.lookup x = some k → ScK X.env.scope x k) (hf : ∀ x, g.sc.names.lookup x = some .cell → X.fn x = true ∨ X.env.scope.names.lookup x = some .local) :
    ∀ {n : Nat} {es : List Expr} {ts : List Tg}, cTgs g n es = some ts → PGs X es (gTs T ts)
  | 0, es, t, h => by simp [cTgs] at h
  | n + 1, [], t, h => by
    simp only [cTgs, Option.some.injEq] at h
    subst h
    refine pgs_nil.imp fun vs σ H Q h => ?_
    obtain ⟨no, α, S, ds, fr, fr', rs, rf, rd, e, k⟩ := h
    cases ds with
    | nil =>
      simp only [asgTs, Option.some.injEq] at e
      subst e
      exact ⟨by simpa [RVs] using rd, k σ rf fun _ _ => rfl⟩
    | cons d ds => simp [asgTs] at e
  | n + 1, e :: es, t, h => by
    simp only [cTgs, Option.bind_eq_some_iff, Option.map_eq_some_iff] at h
    obtain ⟨t1, h1, ts, h2, rfl⟩ := h
    refine (pgs_cons (st_tg xt hN hs hf h1) (st_tgs xt hN hs hf h2) (by rw [tg_each h1]; rfl)).imp fun vs σ H Q h => ?_
    obtain ⟨no, α, S, ds, fr, fr', rs, rf, rd, e, k⟩ := h
    cases ds with
    | nil => simp [asgTs] at e
    | cons d ds =>
      rw [RVs] at rd
      obtain ⟨v, r, rfl, rd1, rd2⟩ := rd
      simp only [asgTs, Option.bind_eq_some_iff] at e
      obtain ⟨fr1, e1, e2⟩ := e
      refine ⟨v, r, rfl, no, α, S, d, fr, fr1, rs, rf, rd1, e1, fun σ1 rf1 k1 => ?_⟩
      refine ⟨no, α, S, ds, fr1, fr', rs, rf1, rd2, e2, fun σ2 rf2 k2 => k σ2 rf2 fun i hi => ?_⟩
      simp only [tgVs, List.mem_append, not_or] at hi
      rw [k2 i hi.2, k1 i hi.1]
end
end
end Vm
/-! Vm 15: comprehensions of one clause. -/
namespace Vm
open PySem L2
section
variable {T : Tp} {X : Cx} {g : Cfg} {C : Cf} {W : WX} {e a b : Expr} {c ca cb : Ex} {pos : Pos}
abbrev W0 : WX := fun _ _ _ _ => False
def ttB (T : Tp) (C : Cf) (us : List Te) : TT := fun σ H Q => ∃ no, tM (T.wn no) C.m W0 (tsts C us) rEq σ H Q
def teB (T : Tp) (C : Cf) (x : Ex) : TE := fun σ H Q => ∃ no, tE (T.wn no) C W0 x σ H Q
theorem RF.wipe {α : List Addr} {H : Hp} {fr : Fr} {σ : L2.St} (rf : RF T α H fr σ) : ∀ own : List Nat, RF T α H (wipeF fr own) (wipe σ own)
  | [] => rf
  | v :: vs => by
    have q := RF.wipe rf vs
    show RF T α H ((wipeF fr vs).set v none) ((L2.wipe σ vs).set v none)
    refine ⟨by rw [List.length_set, List.length_set]; exact q.len, fun j d h => ?_⟩
    unfold getFr at h
    by_cases hj : v = j
    · subst hj
      by_cases hl : v < (wipeF fr vs).length
      · rw [List.getElem?_set_self hl] at h
        cases h
      · rw [List.getElem?_eq_none (by simpa using hl)] at h; cases h
    · rw [List.getElem?_set_ne hj] at h
      obtain ⟨w, h1, h2⟩ := q.at_ j d h
      exact ⟨w, by rw [List.getElem?_set_ne hj]; exact h1, h2⟩
theorem wipe_get : ∀ (vs : List Nat) (σ : L2.St) (i : Nat), (wipe σ vs)[i]? = if i ∈ vs ∧ i < σ.length then some none else σ[i]?
  | [], σ, i => by simp [L2.wipe]
  | v :: vs, σ, i => by
    show ((L2.wipe σ vs).set v none)[i]? = _
    rw [List.getElem?_set, wipe_get vs σ i, wipe_length]
    by_cases h : v = i
    · subst h
      by_cases hl : v < σ.length
      · simp [hl]
      · simp [hl]
    · have h' : ¬ i = v := fun z => h z.symm
      simp [h, h']
theorem wipe_eq {vs : List Nat} {σ τ : L2.St} (hl : τ.length = σ.length) (h : ∀ i, i ∉ vs → τ[i]? = (wipe σ vs)[i]?) : wipe τ vs = wipe σ vs := by
  apply List.ext_getElem?
  intro i
  rw [wipe_get vs τ, wipe_get vs σ, hl]
  by_cases hi : i ∈ vs
  · by_cases hlt : i < σ.length
    · simp [hi, hlt]
    · have h1 : τ[i]? = none := List.getElem?_eq_none (by omega)
      have h2 : σ[i]? = none := List.getElem?_eq_none (by omega)
      simp [hlt, h1, h2]
  · have := h i hi
    rw [wipe_get] at this
    simpa [hi] using this
mutual
theorem asgT_len : ∀ (t : Tg) (d : D) (fr fr' : Fr), asgT t d fr = some fr' → fr'.length = fr.length
  | .nm i, d, fr, fr', h => by
    simp only [asgT] at h
    split at h
    · cases h; rw [List.length_set]
    · cases h
  | .tup ts, .tup ds, fr, fr', h => asgTs_lenF ts ds fr fr' (by simpa [asgT] using h)
  | .tup ts, .non, _, _, h => by simp [asgT] at h
  | .tup ts, .bl _, _, _, h => by simp [asgT] at h
  | .tup ts, .int _, _, _, h => by simp [asgT] at h
  | .tup ts, .str _, _, _, h => by simp [asgT] at h
  | .tup ts, .lst ds, fr, fr', h => asgTs_lenF ts ds fr fr' (by simpa [asgT] using h)
  | .tup ts, .dct _ _, _, _, h => by simp [asgT] at h
  | .tup ts, .ref _, _, _, h => by simp [asgT] at h
  | .tup ts, .scr _, _, _, h => by simp [asgT] at h
  | .tup ts, .fn _, _, _, h => by simp [asgT] at h
theorem asgTs_lenF : ∀ (t : List Tg) (d : List D) (fr fr' : Fr), asgTs t d fr = some fr' → fr'.length = fr.length
  | [], [], fr, fr', h => by simp only [asgTs, Option.some.injEq] at h; rw [h]
  | t :: ts, d :: ds, fr, fr', h => by
    simp only [asgTs, Option.bind_eq_some_iff] at h
    obtain ⟨fr1, h1, h2⟩ := h
    rw [asgTs_lenF ts ds _ _ h2, asgT_len t d _ _ h1]
  | [], _ :: _, _, _, h => by simp [asgTs] at h
  | _ :: _, [], _, _, h => by simp [asgTs] at h
end
/-- a comprehension's turn -/
abbrev lcF (C : Cf) (tg : Tg) (own : List Nat) (ifs : List Te) (elt : Ex) (t : Its) (fr : Fr) : D → M (Option D) := fun d S2 => match asgT tg d (wipeF fr own) with
        | some fr' => bnd (tsts C ifs fr' S2) fun k S3 => bnd (if k then bnd (ev C elt fr' S3) fun y => M.ret (some y) else some (.ok none S3)) fun r S4 => if t.still S4 then some (.ok r S4) else none
        | none => none
theorem noEx_some {α : Type} {x : Option (Rs α)} {r : Rs α} (h : noEx x = some r) : ∃ a S, x = some (.ok a S) ∧ r = .ok a S := by
  unfold noEx at h
  split at h
  · cases h; exact ⟨_, _, rfl, rfl⟩
  · cases h
/-- what stands while the comprehension runs -/
def LcI (T : Tp) (C : Cf) (tg : Tg) (own : List Nat) (ifs : List Te) (elt : Ex) (t : Its) (fr : Fr) (α1 : List Addr) (S1 : Store) (H1 : Hp) (D0 : Addr) (ds' : List D) (Sf : Store) (i : Nat) (H : Hp) : Prop :=
  ∃ α S acc vs, Grow α1 α H1 H ∧ RS (T.wn (D0 :: T.no)) α H S ∧ (∀ k, k ≤ C.m → WF k S1 → WF k S) ∧ RVs (T.wn (D0 :: T.no)) α H acc vs ∧ H D0 = some (.lst vs) ∧ acc.length ≤ i ∧ t.still S = true ∧
    C.m ≤ S.length ∧ lcGo (lcF C tg own ifs elt t fr) (t.ds.drop i) acc S = some (.ok ds' Sf)
theorem less_no {D0 : Addr} {α : List Addr} {H : Hp} {S : Store} (rs : RS (T.wn (D0 :: T.no)) α H S) : RS T α H S := by
  have kp : ∀ a o, H a = some o → NoBox (T.wn (D0 :: T.no)) α a → H a = some o ∧ NoBox T α a := fun a o h n => ⟨h, n.1, fun z => n.2 (List.mem_cons_of_mem _ z)⟩
  exact ⟨rs.len, rs.nd, fun n a d h1 h2 => BoxAt_sub (T := T.wn (D0 :: T.no)) (no := T.no) kp (fun _ _ z => z) (fun _ _ z => z) rfl (rs.box n a d h1 h2), fun a ha => rs.no a (List.mem_cons_of_mem _ ha)⟩
theorem less_RVs {D0 : Addr} {α : List Addr} {H : Hp} {ds : List D} {vs : List V} (r : RVs (T.wn (D0 :: T.no)) α H ds vs) : RVs T α H ds vs :=
  RVs_sub (T := T.wn (D0 :: T.no)) (no := T.no) (fun a o h n => ⟨h, n.1, fun z => n.2 (List.mem_cons_of_mem _ z)⟩) (fun _ _ z => z) (fun _ _ z => z) ds vs r
theorem noD {D0 : Addr} {α : List Addr} {a : Addr} (n : NoBox (T.wn (D0 :: T.no)) α a) : a ≠ D0 := fun z => n.2 (z ▸ List.mem_cons_self)
theorem rdT_upd {H : Hp} {D0 : Addr} {vs : List V} {o : HO} (hD : H D0 = some (.lst vs)) : ∀ a ws, Rd H a (.tup ws) → Rd (upd H D0 o) a (.tup ws) := fun a ws h => by
  rcases h with h | ⟨o', h⟩
  · exact .inl (by rw [upd_ne (fun z => by rw [z, hD] at h; cases h)]; exact h)
  · exact .inr ⟨o', by rw [upd_ne (fun z => by rw [z, hD] at h; cases h)]; exact h⟩
theorem lc_run {tg : Tg} {own : List Nat} {i : It} {us : List Te} {x : Ex} {bx : Bool} (hsub : ∀ j ∈ tgV tg, j ∈ own) {σ : L2.St} {H : Hp} {Q : VK} (h : tE T C W (.lc bx tg own i us x) σ H Q) :
    tLc (tIt T C W i) (gT T tg) (ttB T C us) (teB T C x) own σ H Q := by
  obtain ⟨α, S, fr, r, hm, rs, rf, e, p⟩ := h
  have e : bnd (evIt C i fr S) (fun t S1 => if fits t.ds.length && t.still S1 then bnd (noEx (lcGo (lcF C tg own us x t fr) t.ds [] S1)) (mkL bx) else none) = some r := e
  unfold tLc
  refine goM hm rs rf e p fun t S1 α1 H1 J n1 Y hm1 rs1 rf1 e1 p1 _ => ?_
  intro D0 hD0
  by_cases hfs : (fits t.ds.length && t.still S1) = true
  rotate_left
  · rw [if_neg hfs] at e1; cases e1
  rw [if_pos hfs] at e1
  have hfs2 := hfs
  rw [Bool.and_eq_true] at hfs2
  obtain ⟨hfit, hst⟩ := hfs2
  have hn : t.ds.length < sizeLine := by
    have := fits_ok hfit
    have e : sizeLine = 16777216 := sizeLine_eq
    omega
  cases hl : noEx (lcGo (lcF C tg own us x t fr) t.ds [] S1) with
  | none => rw [hl] at e1; cases e1
  | some rr =>
    obtain ⟨ds', Sf, hgo, rfl⟩ := noEx_some hl
    rw [hl, bnd_ok] at e1
    have Y : Yld T J t α1 H1 := Y
    have hno : ∀ a ∈ D0 :: T.no, a ∈ T.no ∨ H1 a = none := fun a ha => by
      rcases List.mem_cons.mp ha with rfl | ha
      · exact .inr hD0
      · exact .inl ha
    have nD1 : D0 ∉ α1 := rs1.free hD0
    have nDno : D0 ∉ T.no := (rs1.freeN hD0).2
    have init : LcI T C tg own us x t fr α1 S1 H1 D0 ds' Sf 0 (upd H1 D0 (.lst [])) := by
      have g0 := grow_upd (o := .lst []) rs1.bx hD0
      refine ⟨α1, S1, [], [], g0, ⟨rs1.len, rs1.nd, fun n a d h1 h2 => ?_, fun a ha => ?_⟩, fun _ _ z => z, RVs_nil, upd_same, Nat.le_refl _, hst, hm1, by rw [List.drop_zero]; exact hgo⟩
      · obtain ⟨o', h', _⟩ := rs1.bx a (List.mem_of_getElem? h1)
        refine BoxAt_sub (T := T) (no := D0 :: T.no) (H := H1) (α := α1) (fun a o h n => ?_) (fun a vs h => g0.rd rs1.bx h) (fun _ _ z => z) (by rw [upd_ne (ne_of_none h' hD0)]) (rs1.box n a d h1 h2)
        exact ⟨g0.keep a o h n.1, g0.nob hno h n⟩
      · rcases List.mem_cons.mp ha with rfl | ha
        · exact ⟨⟨_, upd_same⟩, nD1⟩
        · obtain ⟨⟨o, ho⟩, hn⟩ := rs1.no a ha
          exact ⟨⟨o, by rw [upd_ne (ne_of_none ho hD0)]; exact ho⟩, hn⟩
    refine ⟨fun j m H => m = t.ds.length - j ∧ j ≤ t.ds.length ∧ LcI T C tg own us x t fr α1 S1 H1 D0 ds' Sf j H, ⟨_, rfl, Nat.zero_le _, init⟩, ?_⟩
    rintro j m H2 ⟨rfl, hj, α2, S2, acc, vs, g2, rs2, wf2, ra, hD2, hla, st2, hm2, go2⟩
    by_cases hlt : j < t.ds.length
    · -- a turn
      obtain ⟨jgo, yl⟩ := Y.go (D0 :: T.no) α2 H2 S2 j t.ds[j] hno (g2.toN rs1.bx) rs2 st2 (by simp [hlt])
      refine .inr ⟨jgo, LcI T C tg own us x t fr α1 S1 H1 D0 ds' Sf (j + 1), fun H' q => ⟨t.ds.length - (j + 1), by omega, rfl, hlt, q⟩, fun xv H3 hy => ?_⟩
      obtain ⟨keep3, rx⟩ := yl xv H3 hy
      have n3 : Nxt (T.wn (D0 :: T.no)) C.m α2 S2 H2 α2 S2 H3 := rs2.kept keep3
      have rs3 := n3.rs
      rw [List.drop_eq_getElem_cons hlt] at go2
      have go3 : bnd (lcF C tg own us x t fr t.ds[j] S2) (fun r S' => match r with
        | none => lcGo (lcF C tg own us x t fr) (t.ds.drop (j + 1)) acc S'
        | some y => lcGo (lcF C tg own us x t fr) (t.ds.drop (j + 1)) (acc ++ [y]) S') = some (.ok ds' Sf) := go2
      cases ht : asgT tg t.ds[j] (wipeF fr own) with
      | none =>
        have : lcF C tg own us x t fr t.ds[j] S2 = none := by simp only [lcF, ht]
        rw [this] at go3; cases go3
      | some fr' =>
        have el : lcF C tg own us x t fr t.ds[j] S2 = bnd (tsts C us fr' S2) fun k S3 => bnd (if k then bnd (ev C x fr' S3) fun y => M.ret (some y) else some (.ok none S3)) fun r S4 => if t.still S4 then some (.ok r S4) else none := by simp only [lcF, ht]
        rw [el] at go3
        have rfB : RF (T.wn (D0 :: T.no)) α2 H3 fr σ := ⟨rf1.len, fun i d e => let ⟨v, h1, h2⟩ := rf1.at_ i d e; ⟨v, h1, RV_grow rs2.bx n3.g _ _ (RV_growN rs1.bx g2 hno d v h2)⟩⟩
        refine ⟨D0 :: T.no, α2, S2, t.ds[j], wipeF fr own, fr', rs3, rfB.wipe own, rx, ht, fun σ2 rf2 hk => ⟨?_, ?_⟩⟩
        · refine wipe_eq ?_ fun i hi => hk i fun z => hi (hsub i z)
          rw [← rf2.len, ← rf1.len]
          have h7 := (rfB.wipe own).len
          rw [wipe_length] at h7
          have hl2 := asgT_len _ _ _ _ ht
          have h8 := rf1.len
          omega
        · refine ⟨D0 :: T.no, α2, S2, fr', ?_⟩
          cases ek : tsts C us fr' S2 with
          | none => rw [ek] at go3; cases go3
          | some q =>
            cases q with
            | ex c fs S' => rw [ek] at go3; cases go3
            | ok k S3 =>
              refine ⟨.ok k S3, hm2, rs3, rf2, rfl, fun α3 H4 kb n4 hk => ?_⟩
              have hk : kb = k := hk
              subst hk
              rw [ek, bnd_ok] at go3
              have hm3 : C.m ≤ S3.length := Nat.le_trans hm2 (n4.len rs3)
              have kD : ∀ {α' : List Addr} {H' : Hp}, Grow α2 α' H3 H' → H' D0 = some (.lst vs) := fun g' => g'.keep D0 _ (keep3 D0 _ hD2) (rs2.no D0 List.mem_cons_self).2
              cases kb with
              | false =>
                simp only [Bool.false_eq_true, if_false, bnd_ok] at go3 ⊢
                by_cases hs : t.still S3 = true
                · rw [if_pos hs] at go3
                  exact ⟨α3, S3, acc, vs, g2.trans (n3.g.trans n4.g), n4.rs, fun k hk w => n4.wf k hk (wf2 k hk w), RVs_grow rs3.bx n4.g _ _ (RVs_grow rs2.bx n3.g _ _ ra), kD n4.g, Nat.le_succ_of_le hla, hs, hm3, go3⟩
                · rw [if_neg hs] at go3; cases go3
              | true =>
                simp only [if_true] at go3 ⊢
                refine ⟨D0 :: T.no, α3, S3, fr', ?_⟩
                cases ex : ev C x fr' S3 with
                | none => rw [ex] at go3; cases go3
                | some q =>
                  cases q with
                  | ex c fs S' => rw [ex] at go3; cases go3
                  | ok y S4 =>
                    refine ⟨.ok y S4, hm3, n4.rs, rf2.nxt rs3 n4, rfl, fun α4 H5 w n5 ry => ?_⟩
                    have ry : RV (T.wn (D0 :: T.no)) α4 H5 y w := ry
                    rw [ex, bnd_ok] at go3
                    have go3 : (bnd (if t.still S4 then some (.ok (some y) S4) else none) fun r S' => match r with
                      | none => lcGo (lcF C tg own us x t fr) (t.ds.drop (j + 1)) acc S'
                      | some y => lcGo (lcF C tg own us x t fr) (t.ds.drop (j + 1)) (acc ++ [y]) S') = some (.ok ds' Sf) := go3
                    by_cases hs : t.still S4 = true
                    · rw [if_pos hs, bnd_ok] at go3
                      have gg := n4.g.trans n5.g
                      have hD5 := kD gg
                      have nDα : D0 ∉ α4 := (n5.rs.no D0 List.mem_cons_self).2
                      refine ⟨vs, hD5, ?_, ?_⟩
                      · rw [← RVs_len ra]; omega
                      have kp : ∀ a o, H5 a = some o → NoBox (T.wn (D0 :: T.no)) α4 a → upd H5 D0 (.lst (vs ++ [w])) a = some o ∧ NoBox ((T.wn (D0 :: T.no)).wn (D0 :: T.no)) α4 a := fun a o h n => ⟨by rw [upd_ne (noD n)]; exact h, n⟩
                      have kt := rdT_upd (o := .lst (vs ++ [w])) hD5
                      have racc : RVs (T.wn (D0 :: T.no)) α4 H5 acc vs := RVs_grow rs3.bx gg _ _ (RVs_grow rs2.bx n3.g _ _ ra)
                      refine ⟨α4, S4, acc ++ [y], vs ++ [w], ?_, ⟨n5.rs.len, n5.rs.nd, fun n a d h1 h2 => ?_, fun a ha => ?_⟩, fun k hk w => n5.wf k hk (n4.wf k hk (wf2 k hk w)), ?_, upd_same, by simp; omega, hs, Nat.le_trans hm3 (n5.len n4.rs), go3⟩
                      · have g5 := g2.trans (n3.g.trans gg)
                        refine ⟨g5.pre, fun a o h n => ?_, fun a ha => ?_⟩
                        · rw [upd_ne (ne_of_none h hD0)]; exact g5.keep a o h n
                        · obtain ⟨o, h, mo⟩ := g5.bx a ha
                          have hz : a ≠ D0 := fun z => nDα (z ▸ ha)
                          exact ⟨o, by rw [upd_ne hz]; exact h, mo⟩
                      · have hz : a ≠ D0 := fun z => nDα (z ▸ List.mem_of_getElem? h1)
                        exact BoxAt_sub kp kt (fun _ _ z => z) (by rw [upd_ne hz]) (n5.rs.box n a d h1 h2)
                      · obtain ⟨⟨o, ho⟩, hn⟩ := n5.rs.no a ha
                        refine ⟨?_, hn⟩
                        by_cases hz : a = D0
                        · exact ⟨_, by rw [hz]; exact upd_same⟩
                        · exact ⟨o, by rw [upd_ne hz]; exact ho⟩
                      · exact RVs_app (RVs_sub kp kt (fun _ _ z => z) _ _ racc) (RVs_cons (RV_sub kp kt (fun _ _ z => z) _ _ ry) RVs_nil)
                    · rw [if_neg hs] at go3; cases go3
    · -- the end
      have ej : j = t.ds.length := by omega
      subst ej
      refine .inl ⟨Y.stop (D0 :: T.no) α2 H2 S2 hno (g2.toN rs1.bx) rs2 st2, ?_⟩
      rw [List.drop_length] at go2
      have go2 : some (Rs.ok acc S2) = some (.ok ds' Sf) := go2
      cases go2
      have rsT := less_no rs2
      have nDα : D0 ∉ α2 := (rs2.no D0 List.mem_cons_self).2
      cases bx with
      | false =>
        simp only [mkL, Bool.false_eq_true, if_false] at e1
        cases e1
        refine p1 α2 H2 _ ⟨g2, rsT, wf2⟩ ?_
        show RV _ _ _ _ _
        rw [RV]
        exact ⟨D0, vs, rfl, hD2, ⟨nDα, nDno⟩, less_RVs ra⟩
      | true =>
        simp only [mkL, if_true] at e1
        cases e1
        have kp : ∀ a o, H2 a = some o → NoBox (T.wn (D0 :: T.no)) α2 a → H2 a = some o ∧ NoBox ((T.wn (D0 :: T.no)).wn T.no) (α2 ++ [D0]) a := fun a o h n => ⟨h, fun z => by
          rcases List.mem_append.mp z with z | z
          · exact n.1 z
          · exact noD n (by simpa using z), fun z => n.2 (List.mem_cons_of_mem _ z)⟩
        have rfx : ∀ (n : Nat) (a : Addr), α2[n]? = some a → (α2 ++ [D0])[n]? = some a := fun n a h => by
          rw [List.getElem?_append_left (List.getElem?_eq_some_iff.mp h).1]; exact h
        have racc : RVs T (α2 ++ [D0]) H2 ds' vs := RVs_sub (T := T.wn (D0 :: T.no)) (no := T.no) kp (fun _ _ z => z) rfx _ _ ra
        have gB : Grow α1 (α2 ++ [D0]) H1 H2 := by
          obtain ⟨β, hβ, hb⟩ := g2.pre
          refine ⟨⟨β ++ [D0], by rw [hβ, List.append_assoc], fun a ha => ?_⟩, g2.keep, fun a ha => ?_⟩
          · rcases List.mem_append.mp ha with z | z
            · exact hb a z
            · have : a = D0 := by simpa using z
              rw [this]; exact hD0
          · rcases List.mem_append.mp ha with z | z
            · exact g2.bx a z
            · have : a = D0 := by simpa using z
              exact ⟨.lst vs, by rw [this]; exact hD2, trivial⟩
        refine p1 (α2 ++ [D0]) H2 _ ⟨gB, ⟨by simp [rsT.len], ?_, fun n a d h1 h2 => ?_, fun a ha => ?_⟩, fun k hk w n d hn' hd => ?_⟩ ?_
        · rw [List.nodup_append]
          refine ⟨rsT.nd, by simp, fun a ha b hb' => ?_⟩
          obtain rfl : b = D0 := by simpa using hb'
          exact fun z => nDα (z ▸ ha)
        · by_cases hn2 : n < α2.length
          · rw [List.getElem?_append_left hn2] at h1
            rw [List.getElem?_append_left (by rw [← rsT.len]; exact hn2)] at h2
            exact BoxAt_sub (T := T.wn (D0 :: T.no)) (no := T.no) kp (fun _ _ z => z) rfx rfl (rs2.box n a d h1 h2)
          · have hl' : n < (α2 ++ [D0]).length := (List.getElem?_eq_some_iff.mp h1).1
            have : n = α2.length := by simp at hl'; omega
            subst this
            simp at h1
            rw [rsT.len] at h2
            simp at h2
            subst h1 h2
            exact ⟨vs, hD2, racc⟩
        · obtain ⟨q1, q2⟩ := rsT.no a ha
          refine ⟨q1, fun z => ?_⟩
          rcases List.mem_append.mp z with z | z
          · exact q2 z
          · have : a = D0 := by simpa using z
            exact nDno (this ▸ ha)
        · have hs : n < Sf.length := by omega
          rw [List.getElem?_append_left hs] at hd
          exact wf2 k hk w n d hn' hd
        · show RV _ _ _ _ _
          rw [RV]
          exact ⟨D0, by rw [← rsT.len]; simp, rfl⟩
end
end Vm
/-! Vm 15b: comprehensions of two clauses. -/
namespace Vm
open PySem L2
section
variable {T : Tp} {X : Cx} {g : Cfg} {C : Cf} {W : WX} {e a b : Expr} {c ca cb : Ex} {pos : Pos}
def tiB (T : Tp) (C : Cf) (i : It) : TI := fun σ H Q => ∃ no, tIt (T.wn no) C W0 i σ H Q
abbrev lc2F (C : Cf) (tg : Tg) (own : List Nat) (ifs : List Te) (tg1 : Tg) (vs1 : List Nat) (it1 : It) (ifs1 : List Te) (elt : Ex) (t : Its) (fr : Fr) : D → List D → M (List D) := fun d acc S2 => match asgT tg d (wipeF fr own) with
        | some fr' => bnd (tsts C ifs fr' S2) fun k S3 => bnd (if k then bnd (evIt C it1 fr' S3) fun t1 S4 => if fits t1.ds.length && t1.still S4 then
            lcGo (lcF C tg1 vs1 ifs1 elt t1 fr') t1.ds acc S4 else none else some (.ok acc S3)) fun acc' S8 => if t.still S8 && fits acc'.length then some (.ok acc' S8) else none
        | none => none
theorem GrowN.trans {no α α1 α2 : List Addr} {H H1 H2 : Hp} (a : GrowN no α α1 H H1) (b : GrowN no α1 α2 H1 H2) (b1 : Bx α1 H1) (n1 : ∀ x ∈ no, ∃ o, H1 x = some o) : GrowN no α α2 H H2 := by
  obtain ⟨β, rfl, h1⟩ := a.pre
  obtain ⟨γ, rfl, h2⟩ := b.pre
  refine ⟨⟨β ++ γ, by rw [List.append_assoc], fun x hx => ?_⟩, fun x o h n m => b.keep x o (a.keep x o h n m) (a.noin h n) m, fun x vs h => b.rd x vs (a.rd x vs h)⟩
  rcases List.mem_append.mp hx with z | z
  · exact h1 x z
  · have h3 := h2 x z
    cases e : H x with
    | none => rfl
    | some o =>
      exfalso
      by_cases hb : x ∈ α
      · obtain ⟨o', e', _⟩ := b1 x (List.mem_append_left _ hb)
        rw [h3] at e'; cases e'
      · by_cases hm : x ∈ no
        · obtain ⟨o', e'⟩ := n1 x hm
          rw [h3] at e'; cases e'
        · rw [a.keep x o e hb hm] at h3; cases h3
/-- a list in the making grows -/
theorem GrowN.app {no α : List Addr} {H : Hp} {D0 : Addr} {vs : List V} {o : HO} (hD : H D0 = some (.lst vs)) (hn : D0 ∈ no) : GrowN no α α H (upd H D0 o) :=
  ⟨⟨[], by simp, by simp⟩, fun x o' h _ m => by rw [upd_ne (show x ≠ D0 from fun z => m (by rw [z]; exact hn))]; exact h, fun x ws h => rdT_upd hD x ws h⟩
/-- what stands in the inner loop, in the outer loop: the list in the making -/
structure LcS (T : Tp) (C : Cf) (α1 : List Addr) (S1 : Store) (H1 : Hp) (D0 : Addr) (α : List Addr) (S : Store) (H : Hp) (acc : List D) : Prop where
  ex : ∃ vs, RVs (T.wn (D0 :: T.no)) α H acc vs ∧ H D0 = some (.lst vs)
  g : Grow α1 α H1 H
  rs : RS (T.wn (D0 :: T.no)) α H S
  wf : ∀ k, k ≤ C.m → WF k S1 → WF k S
  m : C.m ≤ S.length
theorem LcS.nxt {α1 α α' : List Addr} {S1 S S' : Store} {H1 H H' : Hp} {D0 : Addr} {acc : List D} (s : LcS T C α1 S1 H1 D0 α S H acc) (n : Nxt (T.wn (D0 :: T.no)) C.m α S H α' S' H') : LcS T C α1 S1 H1 D0 α' S' H' acc := by
  obtain ⟨vs, r, hD⟩ := s.ex
  exact ⟨⟨vs, RVs_grow s.rs.bx n.g _ _ r, n.g.keep D0 _ hD (s.rs.no D0 List.mem_cons_self).2⟩, s.g.trans n.g, n.rs, fun k hk w => n.wf k hk (s.wf k hk w), Nat.le_trans s.m (n.len s.rs)⟩
/-- an item more -/
theorem LcS.app {α1 α : List Addr} {S1 S : Store} {H1 H : Hp} {D0 : Addr} {acc : List D} (s : LcS T C α1 S1 H1 D0 α S H acc) (hD0 : H1 D0 = none) {vs : List V} (ra : RVs (T.wn (D0 :: T.no)) α H acc vs) (hD : H D0 = some (.lst vs)) {y : D} {w : V} (ry : RV (T.wn (D0 :: T.no)) α H y w) :
    LcS T C α1 S1 H1 D0 α S (upd H D0 (.lst (vs ++ [w]))) (acc ++ [y]) := by
  have nDα : D0 ∉ α := (s.rs.no D0 List.mem_cons_self).2
  have kp : ∀ a o, H a = some o → NoBox (T.wn (D0 :: T.no)) α a → upd H D0 (.lst (vs ++ [w])) a = some o ∧ NoBox ((T.wn (D0 :: T.no)).wn (D0 :: T.no)) α a := fun a o h n => ⟨by rw [upd_ne (noD n)]; exact h, n⟩
  have kt := rdT_upd (o := .lst (vs ++ [w])) hD
  refine ⟨⟨vs ++ [w], RVs_app (RVs_sub kp kt (fun _ _ z => z) _ _ ra) (RVs_cons (RV_sub kp kt (fun _ _ z => z) _ _ ry) RVs_nil), upd_same⟩, ?_, ⟨s.rs.len, s.rs.nd, fun n a d h1 h2 => ?_, fun a ha => ?_⟩, s.wf, s.m⟩
  · have g5 := s.g
    refine ⟨g5.pre, fun a o h n => ?_, fun a ha => ?_⟩
    · rw [upd_ne (ne_of_none h hD0)]; exact g5.keep a o h n
    · obtain ⟨o, h, mo⟩ := g5.bx a ha
      have hz : a ≠ D0 := fun z => nDα (z ▸ ha)
      exact ⟨o, by rw [upd_ne hz]; exact h, mo⟩
  · have hz : a ≠ D0 := fun z => nDα (z ▸ List.mem_of_getElem? h1)
    exact BoxAt_sub kp kt (fun _ _ z => z) (by rw [upd_ne hz]) (s.rs.box n a d h1 h2)
  · obtain ⟨⟨o, ho⟩, hn⟩ := s.rs.no a ha
    refine ⟨?_, hn⟩
    by_cases hz : a = D0
    · exact ⟨_, by rw [hz]; exact upd_same⟩
    · exact ⟨o, by rw [upd_ne hz]; exact ho⟩
theorem RF.growM {no α α' : List Addr} {H H' : Hp} {fr : Fr} {σ : L2.St} (r : RF (T.wn no) α H fr σ) (g : GrowN no α α' H H') : RF (T.wn no) α' H' fr σ :=
  ⟨r.len, fun i d e => let ⟨v, h1, h2⟩ := r.at_ i d e; ⟨v, h1, RV_growM (T := T.wn no) (no := no) g (fun _ z => .inl z) d v h2⟩⟩
theorem RS.nos {no α : List Addr} {H : Hp} {S : Store} (rs : RS (T.wn no) α H S) : ∀ x ∈ no, ∃ o, H x = some o := fun x hx => (rs.no x hx).1
/-- the inner loop -/
theorem lc_in {tg1 : Tg} {vs1 : List Nat} {us1 : List Te} {x : Ex} {J1 : L2.It} {t1 : Its} {α1 α4 : List Addr} {S1 S4 S8 : Store} {H1 H4 : Hp} {D0 : Addr} {acc acc2 : List D} {fr : Fr} {σ2 : L2.St} {Nx : Hp → Prop} (hsub : ∀ j ∈ tgV tg1, j ∈ vs1) (hD0 : H1 D0 = none)
    (Y1 : Yld (T.wn (D0 :: T.no)) J1 t1 α4 H4) (s4 : LcS T C α1 S1 H1 D0 α4 S4 H4 acc) (rf : RF (T.wn (D0 :: T.no)) α4 H4 fr σ2) (hst : t1.still S4 = true) (hla : acc.length + t1.ds.length ≤ 2000000) (hgo : lcGo (lcF C tg1 vs1 us1 x t1 fr) t1.ds acc S4 = some (.ok acc2 S8))
    (fin : ∀ α H, LcS T C α1 S1 H1 D0 α S8 H acc2 → Nx H) :
    ∃ W1 : Nat → Nat → Hp → Prop, (∃ m, W1 0 m H4) ∧ ∀ j k H, W1 j k H →
      (J1.stop j H ∧ Nx H) ∨ (J1.go j H ∧ ∃ Nx1 : Hp → Prop, (∀ H', Nx1 H' → ∃ k', k' < k ∧ W1 (j + 1) k' H') ∧ ∀ xv H', J1.yld j H xv H' → gT T tg1 xv (wipe σ2 vs1) H' fun σ3 H5 => wipe σ3 vs1 = wipe σ2 vs1 ∧ ttB T C us1 σ3 H5 fun b H6 =>
        if b = true then teB T C x σ3 H6 fun y H7 => ∃ acc, H7 D0 = some (.lst acc) ∧ acc.length < sizeLine ∧ Nx1 (upd H7 D0 (.lst (acc ++ [y]))) else Nx1 H6) := by
  let Iv : Nat → Hp → Prop := fun j H => ∃ α S acc', LcS T C α1 S1 H1 D0 α S H acc' ∧ GrowN (D0 :: T.no) α4 α H4 H ∧ acc'.length ≤ acc.length + j ∧ t1.still S = true ∧ lcGo (lcF C tg1 vs1 us1 x t1 fr) (t1.ds.drop j) acc' S = some (.ok acc2 S8)
  refine ⟨fun j m H => m = t1.ds.length - j ∧ j ≤ t1.ds.length ∧ Iv j H, ⟨_, rfl, Nat.zero_le _, α4, S4, acc, s4, (Grow.refl s4.rs.bx).toN s4.rs.bx, Nat.le_refl _, hst, by rw [List.drop_zero]; exact hgo⟩, ?_⟩
  rintro j m H ⟨rfl, hj, α2, S2, accj, s2, gn, hlj, st2, go2⟩
  by_cases hlt : j < t1.ds.length
  · obtain ⟨jgo, yl⟩ := Y1.go (D0 :: T.no) α2 H S2 j t1.ds[j] (fun _ z => .inl z) gn s2.rs st2 (by simp [hlt])
    refine .inr ⟨jgo, Iv (j + 1), fun H' q => ⟨t1.ds.length - (j + 1), by omega, rfl, hlt, q⟩, fun xv H3 hy => ?_⟩
    obtain ⟨keep3, rx⟩ := yl xv H3 hy
    have n3 : Nxt (T.wn (D0 :: T.no)) C.m α2 S2 H α2 S2 H3 := s2.rs.kept keep3
    have s3 := s2.nxt n3
    have gn3 : GrowN (D0 :: T.no) α4 α2 H4 H3 := gn.trans (n3.g.toN s2.rs.bx) s2.rs.bx s2.rs.nos
    rw [List.drop_eq_getElem_cons hlt] at go2
    have go3 : bnd (lcF C tg1 vs1 us1 x t1 fr t1.ds[j] S2) (fun r S' => match r with
      | none => lcGo (lcF C tg1 vs1 us1 x t1 fr) (t1.ds.drop (j + 1)) accj S'
      | some y => lcGo (lcF C tg1 vs1 us1 x t1 fr) (t1.ds.drop (j + 1)) (accj ++ [y]) S') = some (.ok acc2 S8) := go2
    cases ht : asgT tg1 t1.ds[j] (wipeF fr vs1) with
    | none =>
      have : lcF C tg1 vs1 us1 x t1 fr t1.ds[j] S2 = none := by simp only [lcF, ht]
      rw [this] at go3; cases go3
    | some fr' =>
      have el : lcF C tg1 vs1 us1 x t1 fr t1.ds[j] S2 = bnd (tsts C us1 fr' S2) fun k S3 => bnd (if k then bnd (ev C x fr' S3) fun y => M.ret (some y) else some (.ok none S3)) fun r S4 => if t1.still S4 then some (.ok r S4) else none := by simp only [lcF, ht]
      rw [el] at go3
      have rfB : RF (T.wn (D0 :: T.no)) α2 H3 fr σ2 := rf.growM gn3
      refine ⟨D0 :: T.no, α2, S2, t1.ds[j], wipeF fr vs1, fr', s3.rs, rfB.wipe vs1, rx, ht, fun σ3 rf3 hk => ⟨?_, ?_⟩⟩
      · refine wipe_eq ?_ fun i hi => hk i fun z => hi (hsub i z)
        rw [← rf3.len, ← rf.len]
        have h7 := (rfB.wipe vs1).len
        rw [wipe_length] at h7
        have hl2 := asgT_len _ _ _ _ ht
        have h8 := rf.len
        omega
      · refine ⟨D0 :: T.no, α2, S2, fr', ?_⟩
        cases ek : tsts C us1 fr' S2 with
        | none => rw [ek] at go3; cases go3
        | some q =>
          cases q with
          | ex c fs S' => rw [ek] at go3; cases go3
          | ok k S3 =>
            refine ⟨.ok k S3, s2.m, s3.rs, rf3, rfl, fun α3 H5 kb n4 hk => ?_⟩
            have hk : kb = k := hk
            subst hk
            rw [ek, bnd_ok] at go3
            have s5 := s3.nxt n4
            have gn5 : GrowN (D0 :: T.no) α4 α3 H4 H5 := gn3.trans (n4.g.toN s3.rs.bx) s3.rs.bx s3.rs.nos
            cases kb with
            | false =>
              simp only [Bool.false_eq_true, if_false, bnd_ok] at go3 ⊢
              by_cases hs : t1.still S3 = true
              · rw [if_pos hs] at go3
                exact ⟨α3, S3, accj, s5, gn5, Nat.le_succ_of_le hlj, hs, go3⟩
              · rw [if_neg hs] at go3; cases go3
            | true =>
              simp only [if_true] at go3 ⊢
              refine ⟨D0 :: T.no, α3, S3, fr', ?_⟩
              cases ex : ev C x fr' S3 with
              | none => rw [ex] at go3; cases go3
              | some q =>
                cases q with
                | ex c fs S' => rw [ex] at go3; cases go3
                | ok y S5 =>
                  refine ⟨.ok y S5, s5.m, s5.rs, rf3.nxt s3.rs n4, rfl, fun α5 H7 w n5 ry => ?_⟩
                  have ry : RV (T.wn (D0 :: T.no)) α5 H7 y w := ry
                  rw [ex, bnd_ok] at go3
                  have go3 : (bnd (if t1.still S5 then some (.ok (some y) S5) else none) fun r S' => match r with
                    | none => lcGo (lcF C tg1 vs1 us1 x t1 fr) (t1.ds.drop (j + 1)) accj S'
                    | some y => lcGo (lcF C tg1 vs1 us1 x t1 fr) (t1.ds.drop (j + 1)) (accj ++ [y]) S') = some (.ok acc2 S8) := go3
                  by_cases hs : t1.still S5 = true
                  · rw [if_pos hs, bnd_ok] at go3
                    have s7 := s5.nxt n5
                    obtain ⟨vs, ra, hD7⟩ := s7.ex
                    have gn7 : GrowN (D0 :: T.no) α4 α5 H4 H7 := gn5.trans (n5.g.toN s5.rs.bx) s5.rs.bx s5.rs.nos
                    refine ⟨vs, hD7, ?_, α5, S5, accj ++ [y], s7.app hD0 ra hD7 ry, gn7.trans (GrowN.app hD7 List.mem_cons_self) s7.rs.bx s7.rs.nos, by simp; omega, hs, go3⟩
                    rw [← RVs_len ra]
                    have e : sizeLine = 16777216 := sizeLine_eq
                    omega
                  · rw [if_neg hs] at go3; cases go3
  · have ej : j = t1.ds.length := by omega
    subst ej
    refine .inl ⟨Y1.stop (D0 :: T.no) α2 H S2 (fun _ z => .inl z) gn s2.rs st2, ?_⟩
    rw [List.drop_length] at go2
    have go2 : some (Rs.ok accj S2) = some (.ok acc2 S8) := go2
    cases go2
    exact fin α2 H s2
/-- the list is done -/
theorem lc_fin {bx : Bool} {α1 α2 : List Addr} {S1 Sf : Store} {H1 H2 : Hp} {D0 : Addr} {ds' : List D} {σ : L2.St} {Q : VK} {r : Rs D} (s2 : LcS T C α1 S1 H1 D0 α2 Sf H2 ds') (hD0 : H1 D0 = none) (rs1 : RS T α1 H1 S1) (hm1 : C.m ≤ S1.length) (nD1 : D0 ∉ α1) (nDno : D0 ∉ T.no) (e1 : mkL bx ds' Sf = some r) (p1 : PostR T C.m W (rV T) α1 S1 H1 σ Q r) : Q (.ref D0) H2 := by
  obtain ⟨⟨vs, ra, hD2⟩, g2, rs2, wf2, hm2⟩ := s2
  have rsT := less_no rs2
  have nDα : D0 ∉ α2 := (rs2.no D0 List.mem_cons_self).2
  cases bx with
  | false =>
    simp only [mkL, Bool.false_eq_true, if_false] at e1
    cases e1
    refine p1 α2 H2 _ ⟨g2, rsT, wf2⟩ ?_
    show RV _ _ _ _ _
    rw [RV]
    exact ⟨D0, vs, rfl, hD2, ⟨nDα, nDno⟩, less_RVs ra⟩
  | true =>
    simp only [mkL, if_true] at e1
    cases e1
    have kp : ∀ a o, H2 a = some o → NoBox (T.wn (D0 :: T.no)) α2 a → H2 a = some o ∧ NoBox ((T.wn (D0 :: T.no)).wn T.no) (α2 ++ [D0]) a := fun a o h n => ⟨h, fun z => by
      rcases List.mem_append.mp z with z | z
      · exact n.1 z
      · exact noD n (by simpa using z), fun z => n.2 (List.mem_cons_of_mem _ z)⟩
    have rfx : ∀ (n : Nat) (a : Addr), α2[n]? = some a → (α2 ++ [D0])[n]? = some a := fun n a h => by
      rw [List.getElem?_append_left (List.getElem?_eq_some_iff.mp h).1]; exact h
    have racc : RVs T (α2 ++ [D0]) H2 ds' vs := RVs_sub (T := T.wn (D0 :: T.no)) (no := T.no) kp (fun _ _ z => z) rfx _ _ ra
    have gB : Grow α1 (α2 ++ [D0]) H1 H2 := by
      obtain ⟨β, hβ, hb⟩ := g2.pre
      refine ⟨⟨β ++ [D0], by rw [hβ, List.append_assoc], fun a ha => ?_⟩, g2.keep, fun a ha => ?_⟩
      · rcases List.mem_append.mp ha with z | z
        · exact hb a z
        · have : a = D0 := by simpa using z
          rw [this]; exact hD0
      · rcases List.mem_append.mp ha with z | z
        · exact g2.bx a z
        · have : a = D0 := by simpa using z
          exact ⟨.lst vs, by rw [this]; exact hD2, trivial⟩
    refine p1 (α2 ++ [D0]) H2 _ ⟨gB, ⟨by simp [rsT.len], ?_, fun n a d h1 h2 => ?_, fun a ha => ?_⟩, fun k hk w n d hn' hd => ?_⟩ ?_
    · rw [List.nodup_append]
      refine ⟨rsT.nd, by simp, fun a ha b hb' => ?_⟩
      obtain rfl : b = D0 := by simpa using hb'
      exact fun z => nDα (z ▸ ha)
    · by_cases hn2 : n < α2.length
      · rw [List.getElem?_append_left hn2] at h1
        rw [List.getElem?_append_left (by rw [← rsT.len]; exact hn2)] at h2
        exact BoxAt_sub (T := T.wn (D0 :: T.no)) (no := T.no) kp (fun _ _ z => z) rfx rfl (rs2.box n a d h1 h2)
      · have hl' : n < (α2 ++ [D0]).length := (List.getElem?_eq_some_iff.mp h1).1
        have : n = α2.length := by simp at hl'; omega
        subst this
        simp at h1
        rw [rsT.len] at h2
        simp at h2
        subst h1 h2
        exact ⟨vs, hD2, racc⟩
    · obtain ⟨q1, q2⟩ := rsT.no a ha
      refine ⟨q1, fun z => ?_⟩
      rcases List.mem_append.mp z with z | z
      · exact q2 z
      · have : a = D0 := by simpa using z
        exact nDno (this ▸ ha)
    · have hs : n < Sf.length := by omega
      rw [List.getElem?_append_left hs] at hd
      exact wf2 k hk w n d hn' hd
    · show RV _ _ _ _ _
      rw [RV]
      exact ⟨D0, by rw [← rsT.len]; simp, rfl⟩
theorem lc2_run {tg tg1 : Tg} {own vs1 : List Nat} {i i1 : It} {us us1 : List Te} {x : Ex} {bx : Bool} (hsub : ∀ j ∈ tgV tg, j ∈ own) (hsub1 : ∀ j ∈ tgV tg1, j ∈ vs1) {σ : L2.St} {H : Hp} {Q : VK} (h : tE T C W (.lc2 bx tg own i us tg1 vs1 i1 us1 x) σ H Q) :
    tLc2 (tIt T C W i) (gT T tg) (ttB T C us) (tiB T C i1) (gT T tg1) (ttB T C us1) (teB T C x) own vs1 σ H Q := by
  obtain ⟨α, S, fr, r, hm, rs, rf, e, p⟩ := h
  have e : bnd (evIt C i fr S) (fun t S1 => if fits t.ds.length && t.still S1 then bnd (noEx (foGo (lc2F C tg own us tg1 vs1 i1 us1 x t fr) t.ds [] S1)) (mkL bx) else none) = some r := e
  unfold tLc2
  refine goM hm rs rf e p fun t S1 α1 H1 J n1 Y hm1 rs1 rf1 e1 p1 _ => ?_
  intro D0 hD0
  by_cases hfs : (fits t.ds.length && t.still S1) = true
  rotate_left
  · rw [if_neg hfs] at e1; cases e1
  rw [if_pos hfs] at e1
  have hfs2 := hfs
  rw [Bool.and_eq_true] at hfs2
  obtain ⟨hfit, hst⟩ := hfs2
  cases hl : noEx (foGo (lc2F C tg own us tg1 vs1 i1 us1 x t fr) t.ds [] S1) with
  | none => rw [hl] at e1; cases e1
  | some rr =>
    obtain ⟨ds', Sf, hgo, rfl⟩ := noEx_some hl
    rw [hl, bnd_ok] at e1
    have Y : Yld T J t α1 H1 := Y
    have hno : ∀ a ∈ D0 :: T.no, a ∈ T.no ∨ H1 a = none := fun a ha => by
      rcases List.mem_cons.mp ha with rfl | ha
      · exact .inr hD0
      · exact .inl ha
    have nD1 : D0 ∉ α1 := rs1.free hD0
    have nDno : D0 ∉ T.no := (rs1.freeN hD0).2
    have init : LcS T C α1 S1 H1 D0 α1 S1 (upd H1 D0 (.lst [])) [] := by
      have g0 := grow_upd (o := .lst []) rs1.bx hD0
      refine ⟨⟨[], RVs_nil, upd_same⟩, g0, ⟨rs1.len, rs1.nd, fun n a d h1 h2 => ?_, fun a ha => ?_⟩, fun _ _ z => z, hm1⟩
      · obtain ⟨o', h', _⟩ := rs1.bx a (List.mem_of_getElem? h1)
        refine BoxAt_sub (T := T) (no := D0 :: T.no) (H := H1) (α := α1) (fun a o h n => ?_) (fun a vs h => g0.rd rs1.bx h) (fun _ _ z => z) (by rw [upd_ne (ne_of_none h' hD0)]) (rs1.box n a d h1 h2)
        exact ⟨g0.keep a o h n.1, g0.nob hno h n⟩
      · rcases List.mem_cons.mp ha with rfl | ha
        · exact ⟨⟨_, upd_same⟩, nD1⟩
        · obtain ⟨⟨o, ho⟩, hn⟩ := rs1.no a ha
          exact ⟨⟨o, by rw [upd_ne (ne_of_none ho hD0)]; exact ho⟩, hn⟩
    let Iv : Nat → Hp → Prop := fun j H => ∃ α S acc, LcS T C α1 S1 H1 D0 α S H acc ∧ acc.length ≤ 1000000 ∧ t.still S = true ∧ foGo (lc2F C tg own us tg1 vs1 i1 us1 x t fr) (t.ds.drop j) acc S = some (.ok ds' Sf)
    refine ⟨fun j m H => m = t.ds.length - j ∧ j ≤ t.ds.length ∧ Iv j H, ⟨_, rfl, Nat.zero_le _, α1, S1, [], init, Nat.zero_le _, hst, by rw [List.drop_zero]; exact hgo⟩, ?_⟩
    rintro j m H2 ⟨rfl, hj, α2, S2, acc, s2, hla, st2, go2⟩
    by_cases hlt : j < t.ds.length
    · -- a turn
      obtain ⟨jgo, yl⟩ := Y.go (D0 :: T.no) α2 H2 S2 j t.ds[j] hno (s2.g.toN rs1.bx) s2.rs st2 (by simp [hlt])
      refine .inr ⟨jgo, Iv (j + 1), fun H' q => ⟨t.ds.length - (j + 1), by omega, rfl, hlt, q⟩, fun xv H3 hy => ?_⟩
      obtain ⟨keep3, rx⟩ := yl xv H3 hy
      have n3 : Nxt (T.wn (D0 :: T.no)) C.m α2 S2 H2 α2 S2 H3 := s2.rs.kept keep3
      have s3 := s2.nxt n3
      rw [List.drop_eq_getElem_cons hlt] at go2
      have go3 : bnd (lc2F C tg own us tg1 vs1 i1 us1 x t fr t.ds[j] acc S2) (fun acc' S' => foGo (lc2F C tg own us tg1 vs1 i1 us1 x t fr) (t.ds.drop (j + 1)) acc' S') = some (.ok ds' Sf) := go2
      cases ht : asgT tg t.ds[j] (wipeF fr own) with
      | none =>
        have : lc2F C tg own us tg1 vs1 i1 us1 x t fr t.ds[j] acc S2 = none := by simp only [lc2F, ht]
        rw [this] at go3; cases go3
      | some fr' =>
        have el : lc2F C tg own us tg1 vs1 i1 us1 x t fr t.ds[j] acc S2 = bnd (tsts C us fr' S2) fun k S3 => bnd (if k then bnd (evIt C i1 fr' S3) fun t1 S4 => if fits t1.ds.length && t1.still S4 then
            lcGo (lcF C tg1 vs1 us1 x t1 fr') t1.ds acc S4 else none else some (.ok acc S3)) fun acc' S8 => if t.still S8 && fits acc'.length then some (.ok acc' S8) else none := by simp only [lc2F, ht]
        rw [el] at go3
        have rfB : RF (T.wn (D0 :: T.no)) α2 H3 fr σ := ⟨rf1.len, fun i d e => let ⟨v, h1, h2⟩ := rf1.at_ i d e; ⟨v, h1, RV_grow s2.rs.bx n3.g _ _ (RV_growN rs1.bx s2.g hno d v h2)⟩⟩
        refine ⟨D0 :: T.no, α2, S2, t.ds[j], wipeF fr own, fr', s3.rs, rfB.wipe own, rx, ht, fun σ2 rf2 hk => ⟨?_, ?_⟩⟩
        · refine wipe_eq ?_ fun i hi => hk i fun z => hi (hsub i z)
          rw [← rf2.len, ← rf1.len]
          have h7 := (rfB.wipe own).len
          rw [wipe_length] at h7
          have hl2 := asgT_len _ _ _ _ ht
          have h8 := rf1.len
          omega
        · refine ⟨D0 :: T.no, α2, S2, fr', ?_⟩
          cases ek : tsts C us fr' S2 with
          | none => rw [ek] at go3; cases go3
          | some q =>
            cases q with
            | ex c fs S' => rw [ek] at go3; cases go3
            | ok k S3 =>
              refine ⟨.ok k S3, s2.m, s3.rs, rf2, rfl, fun α3 H4 kb n4 hk => ?_⟩
              have hk : kb = k := hk
              subst hk
              rw [ek, bnd_ok] at go3
              have s4 := s3.nxt n4
              cases kb with
              | false =>
                simp only [Bool.false_eq_true, if_false, bnd_ok] at go3 ⊢
                by_cases hs : (t.still S3 && fits acc.length) = true
                · rw [if_pos hs, bnd_ok] at go3
                  rw [Bool.and_eq_true] at hs
                  exact ⟨α3, S3, acc, s4, hla, hs.1, go3⟩
                · rw [if_neg hs] at go3; cases go3
              | true =>
                simp only [if_true] at go3 ⊢
                refine ⟨D0 :: T.no, α3, S3, fr', ?_⟩
                cases ex : evIt C i1 fr' S3 with
                | none => rw [ex] at go3; cases go3
                | some q =>
                  cases q with
                  | ex c fs S' => rw [ex] at go3; cases go3
                  | ok t1 S4 =>
                    have rf3 := rf2.nxt s3.rs n4
                    refine ⟨.ok t1 S4, s4.m, s4.rs, rf3, rfl, fun α5 H5 J1 n5 Y1 => ?_⟩
                    have Y1 : Yld (T.wn (D0 :: T.no)) J1 t1 α5 H5 := Y1
                    rw [ex, bnd_ok] at go3
                    have s5 := s4.nxt n5
                    have rf5 := rf3.nxt s4.rs n5
                    by_cases hf1 : (fits t1.ds.length && t1.still S4) = true
                    · rw [if_pos hf1] at go3
                      rw [Bool.and_eq_true] at hf1
                      cases hg : lcGo (lcF C tg1 vs1 us1 x t1 fr') t1.ds acc S4 with
                      | none => rw [hg] at go3; cases go3
                      | some q =>
                        cases q with
                        | ex c fs S' => rw [hg] at go3; cases go3
                        | ok acc2 S8 =>
                          rw [hg, bnd_ok] at go3
                          by_cases hs : (t.still S8 && fits acc2.length) = true
                          · rw [if_pos hs, bnd_ok] at go3
                            rw [Bool.and_eq_true] at hs
                            have hf2 : t1.ds.length ≤ 1000000 := by simpa [fits] using hf1.1
                            exact lc_in hsub1 hD0 Y1 s5 rf5 hf1.2 (by omega) hg fun α H s8 => ⟨α, S8, acc2, s8, by simpa [fits] using hs.2, hs.1, go3⟩
                          · rw [if_neg hs] at go3; cases go3
                    · rw [if_neg hf1] at go3; cases go3
    · -- the end
      have ej : j = t.ds.length := by omega
      subst ej
      refine .inl ⟨Y.stop (D0 :: T.no) α2 H2 S2 hno (s2.g.toN rs1.bx) s2.rs st2, ?_⟩
      rw [List.drop_length] at go2
      have go2 : some (Rs.ok acc S2) = some (.ok ds' Sf) := go2
      cases go2
      exact lc_fin s2 hD0 rs1 hm1 nD1 nDno e1 p1
end
end Vm
/-! Vm 15c: dict displays. -/
namespace Vm
open PySem L2
section
variable {T : Tp} {X : Cx} {g : Cfg} {C : Cf} {W : WX} {e a b : Expr} {c ca cb : Ex} {pos : Pos}
/-- the dict in the making -/
structure DcS (T : Tp) (C : Cf) (α1 : List Addr) (S1 : Store) (H1 : Hp) (p : Addr) (α : List Addr) (S : Store) (H : Hp) : Prop where
  d : H p = some (.dK [])
  g : Grow α1 α H1 H
  rs : RS (T.wn (p :: T.no)) α H S
  wf : ∀ k, k ≤ C.m → WF k S1 → WF k S
  m : C.m ≤ S.length
theorem DcS.nxt {α1 α α' : List Addr} {S1 S S' : Store} {H1 H H' : Hp} {p : Addr} (s : DcS T C α1 S1 H1 p α S H) (n : Nxt (T.wn (p :: T.no)) C.m α S H α' S' H') : DcS T C α1 S1 H1 p α' S' H' :=
  ⟨n.g.keep p _ s.d (s.rs.no p List.mem_cons_self).2, s.g.trans n.g, n.rs, fun k hk w => n.wf k hk (s.wf k hk w), Nat.le_trans s.m (n.len s.rs)⟩
def dcT (T : Tp) (C : Cf) : List D → List Ex → List (TE × TE)
  | k :: ks, e :: es => (teB T C (.cst k), teB T C e) :: dcT T C ks es
  | _, _ => []
theorem dc_pairs {α1 : List Addr} {S1 : Store} {H1 : Hp} {p : Addr} {fr : Fr} {σ : L2.St} {Sf : Store} : ∀ {ks : List D} {es : List Ex} {ds : List D} {α : List Addr} {S : Store} {H : Hp} {Q : List (V × V) → Hp → Prop}, ks.length = es.length → DcS T C α1 S1 H1 p α S H → RF (T.wn (p :: T.no)) α H fr σ → evs C es fr S = some (.ok ds Sf) →
    (∀ α' H' kv vs, Grow α α' H H' → DcS T C α1 S1 H1 p α' Sf H' → RVs (T.wn (p :: T.no)) α' H' ks kv → RVs (T.wn (p :: T.no)) α' H' ds vs → Q (kv.zip vs) H') → tPairs (dcT T C ks es) σ H Q
  | [], [], ds, α, S, H, Q, _, s, rf, e, q => by
    rw [evs] at e
    cases e
    exact q α H [] [] (.refl s.rs.bx) s RVs_nil RVs_nil
  | k :: ks, x :: es, ds, α, S, H, Q, hl, s, rf, e, q => by
    rw [evs] at e
    have e : bnd (ev C x fr S) (fun d => M.bind (evs C es fr) fun ds => M.ret (d :: ds)) = some (.ok ds Sf) := e
    show teB T C (.cst k) σ H fun kv H1 => teB T C x σ H1 fun y H2 => tPairs (dcT T C ks es) σ H2 fun ps H3 => Q ((kv, y) :: ps) H3
    refine ⟨p :: T.no, α, S, fr, .ok k S, s.m, s.rs, rf, by rw [ev]; rfl, fun α2 H2 kv n2 rk => ?_⟩
    have rk : RV (T.wn (p :: T.no)) α2 H2 k kv := rk
    have s2 := s.nxt n2
    have rf2 := rf.nxt s.rs n2
    cases ex : ev C x fr S with
    | none => rw [ex] at e; cases e
    | some r =>
      cases r with
      | ex c fs S' => rw [ex] at e; cases e
      | ok d S2 =>
        rw [ex, bnd_ok] at e
        have e : bnd (evs C es fr S2) (fun ds => M.ret (d :: ds)) = some (.ok ds Sf) := e
        refine ⟨p :: T.no, α2, S, fr, .ok d S2, s2.m, s2.rs, rf2, ex, fun α3 H3 v n3 rd => ?_⟩
        have rd : RV (T.wn (p :: T.no)) α3 H3 d v := rd
        have s3 := s2.nxt n3
        have rf3 := rf2.nxt s2.rs n3
        cases es' : evs C es fr S2 with
        | none => rw [es'] at e; cases e
        | some r =>
          cases r with
          | ex c fs S' => rw [es'] at e; cases e
          | ok ds' Sf' =>
            rw [es', bnd_ok] at e
            cases e
            have g3 : Grow α2 α3 H2 H3 := n3.g
            refine dc_pairs (ks := ks) (es := es) (by simpa using hl) s3 rf3 es' fun α' H' kvs vs g' s' r1 r2 => ?_
            refine q α' H' (kv :: kvs) (v :: vs) ((n2.g.trans n3.g).trans g') s' ?_ ?_
            · exact RVs_cons (RV_grow s2.rs.bx (n3.g.trans g') _ _ rk) r1
            · exact RVs_cons (RV_grow s3.rs.bx g' _ _ rd) r2
  | [], _ :: _, _, _, _, _, _, h, _, _, _, _ => by simp at h
  | _ :: _, [], _, _, _, _, _, h, _, _, _, _ => by simp at h
theorem kv_zip {α : List Addr} {H : Hp} : ∀ {ks ds : List D} {kv vs : List V}, keysOk ks = true → ks.length = ds.length → RVs T α H ks kv → RVs T α H ds vs → ∃ es : List (Key × V), kv.zip vs = es.map (fun e => (kV e.1, e.2)) ∧ es.length = ks.length ∧ ks.map keyD = es.map (fun e => some e.1) ∧ RVs T α H ds (es.map (·.2)) ∧ (es.map (·.1)).Nodup
  | [], ds, kv, vs, _, hl, r1, r2 => by
    have : kv = [] := by simpa [RVs] using r1
    subst this
    have hd : ds = [] := List.eq_nil_of_length_eq_zero hl.symm
    subst hd
    exact ⟨[], rfl, rfl, rfl, RVs_nil, .nil⟩
  | k :: ks, [], kv, vs, _, hl, r1, r2 => by simp at hl
  | k :: ks, d :: ds, kv, vs, hk, hl, r1, r2 => by
    rw [RVs] at r1 r2
    obtain ⟨v, r, rfl, h1, h2⟩ := r1
    obtain ⟨w, r', rfl, h3, h4⟩ := r2
    simp only [keysOk, Bool.and_eq_true, Bool.not_eq_true'] at hk
    obtain ⟨es, e1, e2, e3, e4, e5⟩ := kv_zip hk.2 (by simpa using hl) h2 h4
    obtain ⟨kk, ek⟩ := key_ok hk.1.1
    have ev : v = kV kk := by
      cases k <;> first | cases hk.1.1 | skip
      · rw [RV] at h1; cases ek; exact h1
      · rw [RV] at h1; cases ek; exact h1
    subst ev
    refine ⟨(kk, w) :: es, by rw [List.zip_cons_cons, e1]; rfl, by simp [e2], by rw [List.map_cons, List.map_cons, ek, e3], RVs_cons h3 e4, ?_⟩
    rw [List.map_cons, List.nodup_cons]
    refine ⟨fun hm => ?_, e5⟩
    obtain ⟨e, he, e6⟩ := List.mem_map.mp hm
    have hmem : some kk ∈ es.map (fun e => some e.1) := List.mem_map.mpr ⟨e, he, by rw [e6]⟩
    rw [← e3] at hmem
    obtain ⟨x, hx, ex⟩ := List.mem_map.mp hmem
    have := List.any_eq_false.mp hk.1.2 x hx
    rw [same_key ek ex] at this
    simp at this
theorem merge_app : ∀ (es acc : List (Key × V)), ((acc ++ es).map (·.1)).Nodup → mergeK acc es = acc ++ es
  | [], acc, _ => by rw [List.append_nil]; rfl
  | e :: es, acc, h => by
    show mergeK (putK acc e.1 e.2) es = _
    have hn : (acc.any fun kv => decide (kv.1 = e.1)) = false := by
      rw [List.any_eq_false]
      intro x hx z
      have z := of_decide_eq_true z
      rw [List.map_append, List.nodup_append] at h
      exact h.2.2 x.1 (List.mem_map.mpr ⟨x, hx, rfl⟩) e.1 (by simp) z
    unfold putK
    rw [hn, if_neg Bool.false_ne_true, merge_app es (acc ++ [(e.1, e.2)]) (by simpa using h)]
    simp
theorem dc_erase {α : List Addr} {S : Store} {H : Hp} {p : Addr} (rs : RS (T.wn (p :: T.no)) α H S) (hd : H p = some (.dK [])) (hnp : p ∉ T.no) :
    RS T α (fun a => if a = p then none else H a) S ∧ (∀ (ds : List D) (vs : List V), RVs (T.wn (p :: T.no)) α H ds vs → RVs T α (fun a => if a = p then none else H a) ds vs) := by
  have kp : ∀ a o, H a = some o → NoBox (T.wn (p :: T.no)) α a → (fun a => if a = p then none else H a) a = some o ∧ NoBox ((T.wn (p :: T.no)).wn T.no) α a := fun a o h n => ⟨by
    show (if a = p then none else H a) = some o
    rw [if_neg (show a ≠ p from fun z => n.2 (by rw [z]; exact List.mem_cons_self))]; exact h, n.1, fun z => n.2 (List.mem_cons_of_mem _ z)⟩
  have kt : ∀ a vs, Rd H a (.tup vs) → Rd (fun a => if a = p then none else H a) a (.tup vs) := fun a vs h => by
    rcases h with h | ⟨o, h⟩
    · exact .inl (by show (if a = p then none else H a) = _; rw [if_neg (fun z => by rw [z, hd] at h; cases h)]; exact h)
    · exact .inr ⟨o, by show (if a = p then none else H a) = _; rw [if_neg (fun z => by rw [z, hd] at h; cases h)]; exact h⟩
  have np : p ∉ α := (rs.no p List.mem_cons_self).2
  refine ⟨⟨rs.len, rs.nd, fun n a d h1 h2 => ?_, fun a ha => ?_⟩, fun ds vs r => RVs_sub (T := T.wn (p :: T.no)) (no := T.no) kp kt (fun _ _ z => z) _ _ r⟩
  · have hz : a ≠ p := fun z => np (z ▸ List.mem_of_getElem? h1)
    exact BoxAt_sub (T := T.wn (p :: T.no)) (no := T.no) kp kt (fun _ _ z => z) (by show (if a = p then none else H a) = _; rw [if_neg hz]) (rs.box n a d h1 h2)
  · obtain ⟨⟨o, ho⟩, hn⟩ := rs.no a (List.mem_cons_of_mem _ ha)
    exact ⟨⟨o, by show (if a = p then none else H a) = _; rw [if_neg (show a ≠ p from fun z => hnp (by rw [← z]; exact ha))]; exact ho⟩, hn⟩
theorem dc_run {ks : List D} {es : List Ex} {bx : Bool} {σ : L2.St} {H : Hp} {Q : VK} (h : tE T C W (.dct bx ks es) σ H Q) : tDisp (dcT T C ks es) σ H Q := by
  obtain ⟨α, S, fr, r, hm, rs, rf, e, p⟩ := h
  have e : bnd (noEx (evs C es fr S)) (fun ds => if keysOk ks && decide (ks.length = ds.length) && decide (ks.length ≤ 15) && decide (es.length = ks.length) then mkK bx ks ds else M.stuck) = some r := by
    rw [← e, ev]
  cases hx : noEx (evs C es fr S) with
  | none => rw [hx] at e; cases e
  | some rr =>
    obtain ⟨ds, Sf, hgo, rfl⟩ := noEx_some hx
    rw [hx, bnd_ok] at e
    by_cases hc : (keysOk ks && decide (ks.length = ds.length) && decide (ks.length ≤ 15) && decide (es.length = ks.length)) = true
    rotate_left
    · rw [if_neg hc] at e; cases e
    rw [if_pos hc] at e
    simp only [Bool.and_eq_true, decide_eq_true_eq] at hc
    obtain ⟨⟨⟨k1, k2⟩, k3⟩, k4⟩ := hc
    intro q hq
    have nq : q ∉ α := rs.free hq
    have nqno : q ∉ T.no := (rs.freeN hq).2
    have hno : ∀ a ∈ q :: T.no, a ∈ T.no ∨ H a = none := fun a ha => by
      rcases List.mem_cons.mp ha with rfl | ha
      · exact .inr hq
      · exact .inl ha
    have g0 := grow_upd (o := .dK []) rs.bx hq
    have init : DcS T C α S H q α S (upd H q (.dK [])) := by
      refine ⟨upd_same, g0, ⟨rs.len, rs.nd, fun n a d h1 h2 => ?_, fun a ha => ?_⟩, fun _ _ z => z, hm⟩
      · obtain ⟨o', h', _⟩ := rs.bx a (List.mem_of_getElem? h1)
        refine BoxAt_sub (T := T) (no := q :: T.no) (H := H) (α := α) (fun a o h n => ?_) (fun a vs h => g0.rd rs.bx h) (fun _ _ z => z) (by rw [upd_ne (ne_of_none h' hq)]) (rs.box n a d h1 h2)
        exact ⟨g0.keep a o h n.1, g0.nob hno h n⟩
      · rcases List.mem_cons.mp ha with rfl | ha
        · exact ⟨⟨_, upd_same⟩, nq⟩
        · obtain ⟨⟨o, ho⟩, hn⟩ := rs.no a ha
          exact ⟨⟨o, by rw [upd_ne (ne_of_none ho hq)]; exact ho⟩, hn⟩
    have rfB : RF (T.wn (q :: T.no)) α (upd H q (.dK [])) fr σ := ⟨rf.len, fun i d e => let ⟨v, h1, h2⟩ := rf.at_ i d e; ⟨v, h1, RV_growN rs.bx g0 hno d v h2⟩⟩
    refine dc_pairs k4.symm init rfB hgo fun α' H' kv vs _ s' r1 r2 => ?_
    obtain ⟨kvs, e1, e2, e3, e4, e5⟩ := kv_zip k1 k2 r1 r2
    refine ⟨s'.d, kvs, e1, by omega, ?_⟩
    rw [merge_app kvs [] (by simpa using e5), List.nil_append]
    obtain ⟨rsE, cv⟩ := dc_erase s'.rs s'.d nqno
    have hE : (fun a => if a = q then none else H' a) q = none := if_pos rfl
    have up : upd (fun a => if a = q then none else H' a) q (.dK kvs) = upd H' q (.dK kvs) := by
      funext a
      by_cases z : a = q
      · subst z; rw [upd_same, upd_same]
      · rw [upd_ne z, upd_ne z, if_neg z]
    rw [← up]
    have gE : Grow α α' H (fun a => if a = q then none else H' a) := by
      refine ⟨s'.g.pre, fun a o h n => ?_, rsE.bx⟩
      rw [if_neg (show a ≠ q from fun z => by rw [z, hq] at h; cases h)]
      exact s'.g.keep a o h n
    have nE : Nxt T C.m α S H α' Sf (fun a => if a = q then none else H' a) := ⟨gE, rsE, s'.wf⟩
    have dn : Done T C.m (rV T) α' Sf (fun a => if a = q then none else H' a) (mkK bx ks ds) Q := by
      cases r with
      | ok b S' => exact ⟨b, S', e, fun α2 H2 g n rv => p α2 H2 g (nE.trans (Nat.le_refl _) n) rv⟩
      | ex c fs S' => exfalso; cases bx <;> cases e
    exact dn.mkK s'.m rsE e3 (cv _ _ e4) hE
end
end Vm
/-! Vm 16: the IR's run is the text's: all expressions. -/
namespace Vm
open PySem L2
section
variable {T : Tp} {X : Cx} {g : Cfg} {C : Cf} {W : WX} {e a b : Expr} {c ca cb : Ex} {pos : Pos}
theorem takes0 {X : Cx} : Takes X W0 := fun u s' ⟨a, B, sI, pins, σ, H, cls, d, e, I, nb, up, sky, na, os, ag, w⟩ => w.elim
theorem lookup_relS_free {sc : Scope} : ∀ {names : List (Str × NameKind)} {x : Str}, names.lookup x = some .free →
    (names.map fun (n, k) => if (k == NameKind.free && sc.kind == .function && sc.names.lookup n == some .cell) then (n, NameKind.cell) else (n, k)).lookup x = some .cell ∨
    (names.map fun (n, k) => if (k == NameKind.free && sc.kind == .function && sc.names.lookup n == some .cell) then (n, NameKind.cell) else (n, k)).lookup x = some .free
  | [], _, h => by simp at h
  | (n, k₀) :: r, x, h => by
    have ih := @lookup_relS_free sc r x
    show List.lookup x ((if (k₀ == NameKind.free && sc.kind == .function && sc.names.lookup n == some .cell) = true then (n, NameKind.cell) else (n, k₀)) :: (r.map _)) = some .cell ∨ List.lookup x ((if (k₀ == NameKind.free && sc.kind == .function && sc.names.lookup n == some .cell) = true then (n, NameKind.cell) else (n, k₀)) :: (r.map _)) = some .free
    cases hx : x == n with
    | true =>
      simp only [List.lookup_cons, hx] at h
      cases h
      by_cases hc : (NameKind.free == NameKind.free && sc.kind == .function && sc.names.lookup n == some .cell) = true
      · rw [if_pos hc]; simp only [List.lookup_cons, hx]; exact .inl trivial
      · rw [if_neg hc]; simp only [List.lookup_cons, hx]; exact .inr trivial
    | false =>
      simp only [List.lookup_cons, hx] at h
      by_cases hc : (k₀ == NameKind.free && sc.kind == .function && sc.names.lookup n == some .cell) = true
      · rw [if_pos hc]; simp only [List.lookup_cons, hx]; exact ih h
      · rw [if_neg hc]; simp only [List.lookup_cons, hx]; exact ih h
/-- the block's context -/
theorem Ok.blk {sc : Scope} {no : List Addr} (ok : Ok T X g C W) (s : Shared) (H : Hp) (A : Addr) (cl : List (Str × Addr)) (fp : List Addr) (hb : BlkOk X.N X.env.scope sc (ownOf g.N sc)) :
    Ok (T.wn no) (X.blk s H sc (compEnvC sc cl A X.env) fp) { g with sc := sc } C W0 where
  xt := ⟨ok.xt.K, ok.xt.mg, ok.xt.calm, ok.xt.nd, ok.xt.un⟩
  N := ok.N
  sc := fun x k h => by
    cases k with
    | «local» => exact lookup_relS_keep (by decide) h
    | cell => exact lookup_relS_keep (by decide) h
    | globalImplicit => exact lookup_relS_keep (by decide) h
    | globalExplicit => trivial
    | free => exact lookup_relS_free h
  tk := takes0
  bl := ok.bl
  gl := ok.gl
  call := fun x id h => by
    obtain ⟨mg, kp, k, fd, ps, hr, F, hb, hkw⟩ := ok.call x id h
    exact ⟨mg, kp, k, fd, ps, hr, F, hb, hkw⟩
  fnn := fun x h => .inl (by
    show (sc.names.lookup x == some .cell) = true
    have h : sc.names.lookup x = some .cell := h
    rw [h]; rfl)
theorem Ok.w0 {no : List Addr} (ok : Ok T X g C W) : Ok (T.wn no) X g C W0 where
  xt := ⟨ok.xt.K, ok.xt.mg, ok.xt.calm, ok.xt.nd, ok.xt.un⟩
  N := ok.N
  sc := ok.sc
  tk := takes0
  bl := ok.bl
  gl := ok.gl
  call := fun x id h => by
    obtain ⟨mg, kp, k, fd, ps, hr, F, hb, hkw⟩ := ok.call x id h
    exact ⟨mg, kp, k, fd, ps, hr, F, hb, hkw⟩
  fnn := ok.fnn
theorem blk_of {sc : Scope} (ok : Ok T X g C W) (h : blkC g.N g.sc sc (ownOf g.N sc) = true) : BlkOk X.N X.env.scope sc (ownOf g.N sc) := by
  have q := blkOk_by h
  refine ⟨q.kind, q.uniq, fun p hp => by rw [ok.N]; exact q.ix p hp, fun y hy e => ?_, fun y hy e => by rw [ok.N]; exact q.own y hy e⟩
  rcases q.free y hy e with z | z
  · exact .inl (ok.sc _ _ z)
  · exact ok.sc _ _ z
/-- all expressions of fuel n -/
structure Sd (n : Nat) : Prop where
  e : ∀ {T : Tp} {X : Cx} {g : Cfg} {C : Cf} {W : WX} {e : Expr} {c : Ex}, Ok T X g C W → cE g n e = some c → PE X e (tE T C W c)
  o : ∀ {T : Tp} {X : Cx} {g : Cfg} {C : Cf} {W : WX} {e : Option Expr} {c : Op}, Ok T X g C W → cO g n e = some c → PO X e (tOo T C W c)
  t : ∀ {T : Tp} {X : Cx} {g : Cfg} {C : Cf} {W : WX} {e : Expr} {c : Te}, Ok T X g C W → cT g n e = some c → PT X e (tTe T C W c)
  i : ∀ {T : Tp} {X : Cx} {g : Cfg} {C : Cf} {W : WX} {tg e : Expr} {c : It}, Ok T X g C W → cI g n tg e = some c → PI X tg e (tIt T C W c)
theorem sd_es {n : Nat} (ih : ∀ k, k < n → Sd k) (ok : Ok T X g C W) {es : List Expr} {cs : List Ex} (h : cEs g n es = some cs) : PA X es (tEs T C W cs) ∧ cs.length = es.length ∧ (∀ e ∈ es, noStar e = true) := by
  have p := cEs_paired h
  have key : ∀ {es : List Expr} {cs : List Ex}, Paired (fun e c => ∃ k, k < n ∧ cE g k e = some c) es cs → Paired (fun e c => noStar e = true ∧ PE X e (tE T C W c)) es cs ∧ cs.length = es.length ∧ ∀ e ∈ es, noStar e = true := by
    intro es cs p
    induction p with
    | nil => exact ⟨.nil, rfl, by simp⟩
    | cons h _ t =>
      obtain ⟨k, hk, he⟩ := h
      refine ⟨.cons ⟨cE_ns he, (ih k hk).e ok he⟩ t.1, by rw [List.length_cons, List.length_cons, t.2.1], fun e' he' => ?_⟩
      rcases List.mem_cons.mp he' with rfl | z
      · exact cE_ns he
      · exact t.2.2 e' z
  obtain ⟨q1, q2, q3⟩ := key p
  exact ⟨pa_ok q1, q2, q3⟩
end
end Vm
/-! Vm 17: the IR's run is the text's: all expressions. -/
namespace Vm
open PySem L2
section
variable {T : Tp} {X : Cx} {g : Cfg} {C : Cf} {W : WX} {e a b : Expr} {c ca cb : Ex} {pos : Pos}
theorem cT_ns {n : Nat} {e : Expr} {c : Te} (h : cT g n e = some c) : noStar e = true := by
  cases n with
  | zero => simp [cT] at h
  | succ n =>
    cases e with
    | Starred v p =>
      simp only [cT, Option.map_eq_some_iff] at h
      obtain ⟨x, h1, _⟩ := h
      exact cE_ns (e := .Starred v p) h1
    | _ => rfl
theorem getLast_split {es : List Expr} {cs : List Ex} {cl : Ex} {P : Expr → Ex → Prop} (p : Paired P es cs) (h : cs.getLast? = some cl) : ∃ es' l, es = es' ++ [l] ∧ Paired P es' cs.dropLast ∧ P l cl := by
  induction p with
  | nil => simp at h
  | @cons e c es cs he t ih =>
    cases cs with
    | nil =>
      cases t
      simp at h
      subst h
      exact ⟨[], e, rfl, .nil, he⟩
    | cons c2 cs =>
      rw [List.getLast?_cons_cons] at h
      obtain ⟨es', l, e1, p1, p2⟩ := ih h
      exact ⟨e :: es', l, by rw [e1]; rfl, by rw [List.dropLast_cons_cons]; exact .cons he p1, p2⟩
theorem sd_ts {n : Nat} (ih : ∀ k, k < n → Sd k) (ok : Ok T X g C W) {es : List Expr} {cs : List Te} (h : cTs g n es = some cs) : Paired (fun e c => PT X e (tTe T C W c)) es cs :=
  Paired.mapP (cTs_paired h) fun e c ⟨k, hk, he⟩ => (ih k hk).t ok he
theorem sd_ks {n : Nat} (ih : ∀ k, k < n → Sd k) (ok : Ok T X g C W) {ks : List Keyword} {cs : List Ex} (h : cKs g n ks = some cs) : PK X ks (tEs T C W cs) :=
  pk_ok (Paired.mapP (cKs_paired h) fun e c ⟨k, hk, he⟩ => (ih k hk).e ok he)
theorem paired_len {α β : Type} {P : α → β → Prop} {xs : List α} {ys : List β} (p : Paired P xs ys) : ys.length = xs.length := by
  induction p with
  | nil => rfl
  | cons _ _ t => rw [List.length_cons, List.length_cons, t]
theorem kwNames_len : ∀ {ks : List Keyword} {ns : List Str}, kwNames ks = some ns → ks.length = ns.length
  | [], ns, h => by simp only [kwNames, Option.some.injEq] at h; subst h; rfl
  | ⟨some x, e, p⟩ :: r, ns, h => by
    simp only [kwNames, Option.map_eq_some_iff] at h
    obtain ⟨t, h1, rfl⟩ := h
    rw [List.length_cons, List.length_cons, kwNames_len h1]
  | ⟨none, e, p⟩ :: r, ns, h => by simp [kwNames] at h
theorem sd_rng {n : Nat} (ih : ∀ k, k < n → Sd k) (ok : Ok T X g C W) {x : Str} {px p : Pos} (hg : isGl g x = true) (h : cRng g n x a p = some c) : PE X (.Call (.Name x px) [a] [] p) (tE T C W c) := by
  cases n with
  | zero => simp [cRng] at h
  | succ n =>
    have ih' := ih n (Nat.lt_succ_self n)
    unfold cRng at h
    split at h
    · cases ‹n + 1 = 0›
    · rename_i n' y py as pp e1
      cases e1
      split at h
      · rename_i hy
        obtain ⟨hgy, rfl⟩ := hy
        split at h
        · rename_i hx
          subst hx
          split at h
          · obtain ⟨z, h1, rfl⟩ := Option.map_eq_some_iff.mp h
            exact se_rng1 (tp := false) rfl ok hg hgy (cE_ns h1) (ih'.e ok h1)
          · simp only [Option.bind_eq_some_iff, Option.map_eq_some_iff] at h
            obtain ⟨z, h1, w, h2, rfl⟩ := h
            exact se_rng2 (tp := false) rfl ok hg hgy (cE_ns h1) (ih'.e ok h1) (cE_ns h2) (ih'.e ok h2)
          · cases h
        · split at h
          · rename_i hx
            subst hx
            split at h
            · obtain ⟨z, h1, rfl⟩ := Option.map_eq_some_iff.mp h
              exact se_rng1 (tp := true) rfl ok hg hgy (cE_ns h1) (ih'.e ok h1)
            · simp only [Option.bind_eq_some_iff, Option.map_eq_some_iff] at h
              obtain ⟨z, h1, w, h2, rfl⟩ := h
              exact se_rng2 (tp := true) rfl ok hg hgy (cE_ns h1) (ih'.e ok h1) (cE_ns h2) (ih'.e ok h2)
            · cases h
          · cases h
      · cases h
    · cases h
theorem sd_itm {n : Nat} (ih : ∀ k, k < n → Sd k) (ok : Ok T X g C W) {x : Str} {px p : Pos} (hg : isGl g x = true) (h : cItm g n x a p = some c) : PE X (.Call (.Name x px) [a] [] p) (tE T C W c) := by
  cases n with
  | zero => simp [cItm] at h
  | succ n =>
    have ih' := ih n (Nat.lt_succ_self n)
    unfold cItm at h
    split at h
    · cases ‹n + 1 = 0›
    · rename_i n' o m ap cp pp e1
      cases e1
      split at h
      · rename_i hc
        obtain ⟨rfl, rfl, hb, hl⟩ := hc
        obtain ⟨y, h1, rfl⟩ := Option.map_eq_some_iff.mp h
        exact se_items ok hg hb hl (ih'.e ok h1)
      · cases h
    · cases h
theorem cI_ns {n : Nat} {tg : Expr} {i : It} (h : cI g n tg e = some i) : noSet e = true := by
  cases n with
  | zero => simp [cI] at h
  | succ n =>
    cases e with
    | Set _ _ _ =>
      simp [cI, noSet] at h
    | _ => rfl
theorem sd_i {n : Nat} (ih : ∀ k, k < n + 1 → Sd k) (ok : Ok T X g C W) {tg : Expr} {i : It} (h : cI g (n + 1) tg e = some i) : PI X tg e (tIt T C W i) := by
  have ih' := ih n (Nat.lt_succ_self n)
  unfold cI at h
  split at h
  · cases ‹n + 1 = 0›
  · rename_i n' tg' x px as p e1
    cases e1
    split at h
    · rename_i hx
      obtain ⟨hg, hf, hx⟩ := hx
      split at h
      · rename_i hx
        subst hx
        split at h
        · obtain ⟨z, h1, rfl⟩ := Option.map_eq_some_iff.mp h
          exact si_rng1 ok hg (cE_ns h1) (ih'.e ok h1)
        · simp only [Option.bind_eq_some_iff, Option.map_eq_some_iff] at h
          obtain ⟨z, h1, w, h2, rfl⟩ := h
          exact si_rng2 ok hg (cE_ns h1) (ih'.e ok h1) (cE_ns h2) (ih'.e ok h2)
        · cases h
      · rename_i hnr
        split at h
        · split at h
          · rename_i hx
            subst hx
            split at h
            · obtain ⟨z, h1, rfl⟩ := Option.map_eq_some_iff.mp h
              exact si_enum ok hg (cE_ns h1) (ih'.e ok h1)
            · cases h
          · rename_i hne
            have hz : x = "zip" := by
              rcases hx with h | h | h
              · exact absurd h hnr
              · exact absurd h hne
              · exact h
            subst hz
            split at h
            · simp only [Option.bind_eq_some_iff, Option.map_eq_some_iff] at h
              obtain ⟨z, h1, w, h2, rfl⟩ := h
              exact si_zip ok hg (cE_ns h1) (ih'.e ok h1) (cE_ns h2) (ih'.e ok h2)
            · cases h
        · cases h
    · obtain ⟨z, h1, rfl⟩ := Option.map_eq_some_iff.mp h
      exact si_val ok.xt (ih'.e ok h1)
  · rename_i n' hne e1
    cases hne
    split at h
    · obtain ⟨z, h1, rfl⟩ := Option.map_eq_some_iff.mp h
      exact si_val ok.xt (ih'.e ok h1)
    · cases h
theorem sd_o {n : Nat} (ih : ∀ k, k < n + 1 → Sd k) (ok : Ok T X g C W) {o : Option Expr} {co : Op} (h : cO g (n + 1) o = some co) : PO X o (tOo T C W co) := by
  cases o with
  | none => simp only [cO, Option.some.injEq] at h; subst h; exact so_no
  | some e =>
    simp only [cO, Option.map_eq_some_iff] at h
    obtain ⟨x, h1, rfl⟩ := h
    exact so_yes ((ih n (Nat.lt_succ_self n)).e ok h1)
theorem cKeys_len : ∀ {ks : List (Option Expr)} {cs : List D}, cKeys ks = some cs → cs.length = ks.length ∧ ks.all (·.isSome) = true
  | [], cs, h => by simp only [cKeys, Option.some.injEq] at h; subst h; exact ⟨rfl, rfl⟩
  | some k :: r, cs, h => by
    cases k <;> try (simp [cKeys] at h; done)
    simp only [cKeys, Option.bind_eq_some_iff] at h
    obtain ⟨d, h1, hh⟩ := h
    split at hh
    · obtain ⟨ds, h3, rfl⟩ := Option.map_eq_some_iff.mp hh
      obtain ⟨q1, q2⟩ := cKeys_len h3
      exact ⟨by simp [q1], by simpa using q2⟩
    · cases hh
  | none :: r, cs, h => by simp [cKeys] at h
theorem sd_pps {n : Nat} (ok : Ok T X g C W) : ∀ {ks : List (Option Expr)} {vs : List Expr} {cs : List D} {es : List Ex}, cKeys ks = some cs → Paired (fun e c => ∃ k, Sd k ∧ cE g k e = some c) vs es → ks.length = vs.length → PPs X pos ks vs (dcT T C cs es)
  | [], vs, cs, es, h, p, hl => by
    simp only [cKeys, Option.some.injEq] at h
    subst h
    cases p with
    | nil => exact pps_nil
    | cons _ _ => simp at hl
  | some k :: ks, vs, cs, es, h, p, hl => by
    cases k <;> try (simp [cKeys] at h; done)
    simp only [cKeys, Option.bind_eq_some_iff] at h
    obtain ⟨d, h1, hh⟩ := h
    split at hh
    · obtain ⟨ds, h3, rfl⟩ := Option.map_eq_some_iff.mp hh
      cases p with
      | nil => simp at hl
      | cons hp t =>
        obtain ⟨j, sd, he⟩ := hp
        refine pps_cons ⟨fun pins s σ H Q I h => ?_⟩ ⟨fun pins s σ H Q I h => ?_⟩ (sd_pps (n := n) ok h3 t (by simpa using hl))
        · obtain ⟨no, h⟩ := h
          exact (se_cst (T := T.wn no) (C := C) (W := W0) h1).run pins s σ H Q I h
        · obtain ⟨no, h⟩ := h
          exact (sd.e (ok.w0 (no := no)) he).run pins s σ H Q I h
    · cases hh
  | none :: ks, vs, cs, es, h, p, hl => by simp [cKeys] at h
theorem sd_dct {n : Nat} (ih : ∀ k, k < n → Sd k) (ok : Ok T X g C W) {k : Option Expr} {ks : List (Option Expr)} {vs : List Expr} {cs : List D} {es : List Ex} {bx : Bool} (h1 : cKeys (k :: ks) = some cs) (h2 : cEs g n vs = some es) (hl : cs.length = es.length) (h15 : cs.length ≤ 15) : PE X (.Dict (k :: ks) vs pos) (tE T C W (.dct bx cs es)) := by
  obtain ⟨q1, q2⟩ := cKeys_len h1
  have p := cEs_paired h2
  have p2 : Paired (fun e c => ∃ k, Sd k ∧ cE g k e = some c) vs es := Paired.mapP p fun e c ⟨k, hk, he⟩ => ⟨k, ih k hk, he⟩
  have hlv : es.length = vs.length := paired_len p
  have hkv : (k :: ks).length = vs.length := by rw [← q1, hl, hlv]
  exact (pe_disp (sd_pps (n := n) ok h1 p2 hkv) q2 hkv (by simp) (by rw [← q1]; exact h15)).imp fun σ H Q h => dc_run h
end
end Vm
/-! Vm 18: the IR's run is the text's: all expressions. -/
namespace Vm
open PySem L2
section
variable {T : Tp} {X : Cx} {g : Cfg} {C : Cf} {W : WX} {e a b : Expr} {c ca cb : Ex} {pos : Pos}
theorem se_una' {op : UnaryOp} (ho : op ≠ .Not) (ha : PE X a (tE T C W ca)) : PE X (.UnaryOp op a pos) (tE T C W (.una op ca)) := se_una ha
/-- a comprehension's parts -/
theorem sd_blk {n : Nat} (ih : ∀ k, k < n + 1 → Sd k) (ok : Ok T X g C W) {elt tg it : Expr} {ifs : List Expr} {sc : Scope} {t : Tg} {i : It} {us : List Te} {x : Ex}
    (hb : blkC g.N g.sc sc (ownOf g.N sc) = true) (hl : ifs.length ≤ 1) (h1 : cTg { g with sc := sc } n tg = some t) (h2 : cI g n tg it = some i) (h3 : cTs { g with sc := sc } n ifs = some us) (h4 : cE { g with sc := sc } n elt = some x) :
    PI X tg it (tIt T C W i) ∧ BlkOk X.N X.env.scope sc (ownOf g.N sc) ∧ (∀ (s : Shared) (H : Hp) (A : Addr) (cl : List (Str × Addr)) (fp : List Addr), PG (X.blk s H sc (compEnvC sc cl A X.env) fp) tg (gT T t)) ∧
    (∀ (s : Shared) (H : Hp) (A : Addr) (cl : List (Str × Addr)) (fp : List Addr), PTs (X.blk s H sc (compEnvC sc cl A X.env) fp) ifs (ttB T C us)) ∧
    (∀ (s : Shared) (H : Hp) (A : Addr) (cl : List (Str × Addr)) (fp : List Addr), PE (X.blk s H sc (compEnvC sc cl A X.env) fp) elt (teB T C x)) ∧ (∀ x, foldedSetIterable it X.env x = pure x) := by
  have ih' := ih n (Nat.lt_succ_self n)
  have hbk := blk_of ok hb
  refine ⟨ih'.i ok h2, hbk, fun s H A cl fp => ?_, fun s H A cl fp => ?_, fun s H A cl fp => ?_, fun x => ?_⟩
  · have okb := ok.blk (no := T.no) s H A cl fp hbk
    exact st_tg okb.xt okb.N okb.sc okb.fnn h1
  · have key : ∀ (u : Te) (f : Expr) (k : Nat), k < n → cT { g with sc := sc } k f = some u → PTs (X.blk s H sc (compEnvC sc cl A X.env) fp) [f] (ttB T C [u]) := fun u f k hk hu => by
      refine pts_one ⟨fun pins s' σ H' Q I h => ?_⟩
      obtain ⟨no, h⟩ := h
      have okb := ok.blk (no := no) s H A cl fp hbk
      refine ((ih k (Nat.lt_succ_of_lt hk)).t okb hu).run pins s' σ H' Q I ?_
      obtain ⟨α, S, fr, r, hm, rs, rf, e, p⟩ := h
      have e0 : bnd (tst C u fr S) (fun k => if k then M.ret true else M.ret false) = some r := by simpa [tsts, M.bind] using e
      refine goM hm rs rf e0 p fun d S1 α1 H1 v n1 rd hm1 rs1 rf1 e1 p1 _ => ?_
      have rd : v = d := rd
      subst rd
      cases v <;> exact fin rs1 e1 p1 rfl
    have p := cTs_paired h3
    cases p with
    | nil =>
      refine ⟨fun pins s' σ H' Q I h => pts_nil.run pins s' σ H' Q I ?_⟩
      obtain ⟨no, α, S, fr, r, hm, rs, rf, e, p⟩ := h
      exact fin rs e p rfl
    | cons h t =>
      cases t with
      | nil =>
        obtain ⟨k, hk, hu⟩ := h
        exact key _ _ k hk hu
      | cons _ _ => simp at hl
  · refine ⟨fun pins s' σ H' Q I h => ?_⟩
    obtain ⟨no, h⟩ := h
    have okb := ok.blk (no := no) s H A cl fp hbk
    exact (ih'.e okb h4).run pins s' σ H' Q I h
  · have := cI_ns h2
    cases it <;> first | rfl | cases this
theorem sd_blk2 {n : Nat} (ih : ∀ k, k < n + 1 → Sd k) (ok : Ok T X g C W) {tg it : Expr} {ifs : List Expr} {sc : Scope} {t : Tg} {i1 : It} {us : List Te}
    (hb : blkC g.N g.sc sc (ownOf g.N sc) = true) (hl : ifs.length ≤ 1) (h1 : cTg { g with sc := sc } n tg = some t) (h2 : cI { g with sc := sc } n tg it = some i1) (h3 : cTs { g with sc := sc } n ifs = some us) :
    (∀ (s : Shared) (H : Hp) (A : Addr) (cl : List (Str × Addr)) (fp : List Addr), PI (X.blk s H sc (compEnvC sc cl A X.env) fp) tg it (tiB T C i1)) ∧ (∀ env x, foldedSetIterable it env x = pure x) ∧
    (∀ (s : Shared) (H : Hp) (A : Addr) (cl : List (Str × Addr)) (fp : List Addr), PG (X.blk s H sc (compEnvC sc cl A X.env) fp) tg (gT T t)) ∧
    (∀ (s : Shared) (H : Hp) (A : Addr) (cl : List (Str × Addr)) (fp : List Addr), PTs (X.blk s H sc (compEnvC sc cl A X.env) fp) ifs (ttB T C us)) := by
  have ih' := ih n (Nat.lt_succ_self n)
  have hbk := blk_of ok hb
  refine ⟨fun s H A cl fp => ⟨fun pins s' σ H' Q I h => ?_⟩, fun env x => ?_, fun s H A cl fp => ?_, fun s H A cl fp => ?_⟩
  · obtain ⟨no, h⟩ := h
    have okb := ok.blk (no := no) s H A cl fp hbk
    exact (ih'.i okb h2).run pins s' σ H' Q I h
  · have := cI_ns h2
    cases it <;> first | rfl | cases this
  · have okb := ok.blk (no := T.no) s H A cl fp hbk
    exact st_tg okb.xt okb.N okb.sc okb.fnn h1
  · have key : ∀ (u : Te) (f : Expr) (k : Nat), k < n → cT { g with sc := sc } k f = some u → PTs (X.blk s H sc (compEnvC sc cl A X.env) fp) [f] (ttB T C [u]) := fun u f k hk hu => by
      refine pts_one ⟨fun pins s' σ H' Q I h => ?_⟩
      obtain ⟨no, h⟩ := h
      have okb := ok.blk (no := no) s H A cl fp hbk
      refine ((ih k (Nat.lt_succ_of_lt hk)).t okb hu).run pins s' σ H' Q I ?_
      obtain ⟨α, S, fr, r, hm, rs, rf, e, p⟩ := h
      have e0 : bnd (tst C u fr S) (fun k => if k then M.ret true else M.ret false) = some r := by simpa [tsts, M.bind] using e
      refine goM hm rs rf e0 p fun d S1 α1 H1 v n1 rd hm1 rs1 rf1 e1 p1 _ => ?_
      have rd : v = d := rd
      subst rd
      cases v <;> exact fin rs1 e1 p1 rfl
    have p := cTs_paired h3
    cases p with
    | nil =>
      refine ⟨fun pins s' σ H' Q I h => pts_nil.run pins s' σ H' Q I ?_⟩
      obtain ⟨no, α, S, fr, r, hm, rs, rf, e, p⟩ := h
      exact fin rs e p rfl
    | cons h t =>
      cases t with
      | nil =>
        obtain ⟨k, hk, hu⟩ := h
        exact key _ _ k hk hu
      | cons _ _ => simp at hl
theorem sd_e {n : Nat} (ih : ∀ k, k < n + 1 → Sd k) (ok : Ok T X g C W) (h : cE g (n + 1) e = some c) : PE X e (tE T C W c) := by
  have ih' := ih n (Nat.lt_succ_self n)
  have ihs : ∀ k, k < n → Sd k := fun k hk => ih k (Nat.lt_succ_of_lt hk)
  unfold cE at h
  split at h
  · cases ‹n + 1 = 0›
  · -- Name
    rename_i n' x p e1
    cases e1
    split at h
    · rename_i i hi
      split at h
      · cases h
      · rename_i hd
        cases h
        rw [not_or] at hd
        exact se_nm ok hi hd
    · split at h
      · rename_i hx
        cases h
        exact se_glb ok hx.1 hx.2.1 hx.2.2
      · cases h
  · -- Constant
    rename_i n' cc k p e1
    cases e1
    obtain ⟨d, h1, rfl⟩ := Option.map_eq_some_iff.mp h
    exact se_cst h1
  · -- (*a, ..)
    rename_i n' a sp es k p e1
    cases e1
    simp only [Option.bind_eq_some_iff] at h
    obtain ⟨x, h1, cs, h2, h3⟩ := h
    split at h3
    · rename_i hl
      cases h3
      exact se_tupS ok.xt (ih'.e ok h1) (sd_es ihs ok h2).1 hl
    · cases h3
  · rename_i n' a sp es p e1
    cases e1
    simp only [Option.bind_eq_some_iff] at h
    obtain ⟨x, h1, cs, h2, h3⟩ := h
    split at h3
    · rename_i hl
      cases h3
      exact se_lstS ok.xt (ih'.e ok h1) (sd_es ihs ok h2).1 hl
    · cases h3
  · -- Tuple
    rename_i n' es k p _ e1
    cases e1
    obtain ⟨cs, h1, h2⟩ := Option.bind_eq_some_iff.mp h
    split at h2
    · rename_i hl
      cases h2
      exact se_tup (sd_es ihs ok h1).1 hl
    · cases h2
  · -- List
    rename_i n' es p _ e1
    cases e1
    obtain ⟨cs, h1, h2⟩ := Option.bind_eq_some_iff.mp h
    split at h2
    · rename_i hl
      cases h2
      exact se_lst (sd_es ihs ok h1).1 hl
    · cases h2
  · cases h; exact se_dct0
  · -- dict displays
    rename_i n' k ks vs p e1
    cases e1
    obtain ⟨cs, h1, h⟩ := Option.bind_eq_some_iff.mp h
    obtain ⟨es, h2, h⟩ := Option.bind_eq_some_iff.mp h
    split at h
    · rename_i hc
      simp only [Bool.and_eq_true, beq_iff_eq, decide_eq_true_eq] at hc
      cases h
      exact sd_dct ihs ok h1 h2 hc.1 hc.2
    · cases h
  · -- BinOp
    rename_i n' a op b p e1
    cases e1
    simp only [Option.bind_eq_some_iff, Option.map_eq_some_iff] at h
    obtain ⟨x, h1, y, h2, rfl⟩ := h
    exact se_bin ok.xt (ih'.e ok h1) (ih'.e ok h2)
  · -- not
    rename_i n' a p e1
    cases e1
    obtain ⟨x, h1, rfl⟩ := Option.map_eq_some_iff.mp h
    exact se_not ok.xt (ih'.e ok h1)
  · rename_i n' op a p hno e1
    cases e1
    obtain ⟨x, h1, rfl⟩ := Option.map_eq_some_iff.mp h
    exact se_una (ih'.e ok h1)
  · -- and
    rename_i n' es p e1
    cases e1
    obtain ⟨xs, h1, h2⟩ := Option.bind_eq_some_iff.mp h
    split at h2
    · rename_i l hl
      cases h2
      obtain ⟨es', l', rfl, p1, k, hk, he⟩ := getLast_split (cEs_paired h1) hl
      exact conj_ok ((ihs k hk).e ok he) (Paired.mapP p1 fun e c ⟨k, hk, he⟩ => (ihs k hk).e ok he)
    · cases h2
  · rename_i n' es p e1
    cases e1
    obtain ⟨xs, h1, h2⟩ := Option.bind_eq_some_iff.mp h
    split at h2
    · rename_i l hl
      cases h2
      obtain ⟨es', l', rfl, p1, k, hk, he⟩ := getLast_split (cEs_paired h1) hl
      exact disj_ok ((ihs k hk).e ok he) (Paired.mapP p1 fun e c ⟨k, hk, he⟩ => (ihs k hk).e ok he)
    · cases h2
  · -- IfExp
    rename_i n' t a b p e1
    cases e1
    simp only [Option.bind_eq_some_iff, Option.map_eq_some_iff] at h
    obtain ⟨u, h1, x, h2, y, h3, rfl⟩ := h
    exact se_ite (ih'.t ok h1) (ih'.e ok h2) (ih'.e ok h3)
  · -- Compare
    rename_i n' a op b p e1
    cases e1
    split at h
    · rename_i x ng hx ho
      obtain ⟨y, h1, rfl⟩ := Option.map_eq_some_iff.mp h
      exact se_gin ok hx ho (ih'.e ok h1)
    split at h
    · rename_i hs
      simp only [Option.bind_eq_some_iff, Option.map_eq_some_iff] at h
      obtain ⟨x, h1, y, h2, rfl⟩ := h
      exact se_cmp ok.xt hs (ih'.e ok h1) (ih'.e ok h2)
    · cases h
  · rename_i n' a op op' b d p e1
    cases e1
    split at h
    · rename_i hs
      rw [Bool.and_eq_true] at hs
      simp only [Option.bind_eq_some_iff, Option.map_eq_some_iff] at h
      obtain ⟨x, h1, y, h2, z, h3, rfl⟩ := h
      exact se_chn ok.xt hs.2 (ih'.e ok h1) (ih'.e ok h2) (ih'.e ok h3)
    · cases h
  · -- Call of a name
    rename_i n' x px as ks p e1
    cases e1
    split at h
    · rename_i hx
      obtain ⟨hg, hd⟩ := hx
      split at h
      · rename_i id hf
        obtain ⟨es, h1, rfl⟩ := Option.map_eq_some_iff.mp h
        obtain ⟨q1, q2, q3⟩ := sd_es ihs ok h1
        exact se_call ok hg hf hd q3 q1 q2
      · rename_i id ks' hf _
        split at h
        · rename_i nms hn
          simp only [Option.bind_eq_some_iff, Option.map_eq_some_iff] at h
          obtain ⟨es, h1, pm, h2, rfl⟩ := h
          refine se_callK ok hg hf hd (sd_ks ihs ok h1) hn h2 (kwNames_len hn) ?_
          rw [← kwNames_len hn]
          exact paired_len (cKs_paired h1)
        · cases h
      · split at h
        · rename_i a1
          split at h
          · exact sd_rng (ih := fun k hk => ihs k hk) ok hg h
          split at h
          · exact sd_itm (ih := fun k hk => ihs k hk) ok hg h
          · split at h
            · rename_i f hf
              obtain ⟨y, h1, rfl⟩ := Option.map_eq_some_iff.mp h
              have ns := cE_ns h1
              exact se_blt ok hg hf (by simpa using ns) (pa_one ns (ih'.e ok h1))
            · cases h
        · rename_i a1 b1
          split at h
          · rename_i hx
            subst hx
            simp only [Option.bind_eq_some_iff] at h
            obtain ⟨y, h1, ks, h2, h3⟩ := h
            split at h3
            · rename_i hl
              cases h3
              exact se_isi ok hg (cE_ns h1) (ih'.e ok h1) h2 hl
            · cases h3
          · split at h
            · rename_i f hf
              simp only [Option.bind_eq_some_iff, Option.map_eq_some_iff] at h
              obtain ⟨y, h1, z, h2, rfl⟩ := h
              have ns := cE_ns h1
              have ns2 := cE_ns h2
              exact se_blt ok hg hf (by simpa using ⟨ns, ns2⟩) (pa_two ns (ih'.e ok h1) ns2 (ih'.e ok h2))
            · cases h
        · cases h
      · cases h
    · cases h
  · -- methods
    rename_i n' o x ap as p e1
    cases e1
    split at h
    · rename_i hl
      rw [Bool.and_eq_true] at hl
      split at h
      · split at h
        · rename_i f hf
          obtain ⟨y, h1, rfl⟩ := Option.map_eq_some_iff.mp h
          exact se_met0 ok.xt hf hl.2 hl.1 (ih'.e ok h1)
        · cases h
      · split at h
        · rename_i f hf
          simp only [Option.bind_eq_some_iff, Option.map_eq_some_iff] at h
          obtain ⟨y, h1, z, h2, rfl⟩ := h
          exact se_met1 ok.xt hf hl.2 hl.1 (ih'.e ok h1) (cE_ns h2) (ih'.e ok h2)
        · cases h
      · cases h
    · cases h
  · -- slices
    rename_i n' a lo hi p2 p e1
    cases e1
    simp only [Option.bind_eq_some_iff, Option.map_eq_some_iff] at h
    obtain ⟨x, h1, l, h2, hh, h3, rfl⟩ := h
    exact se_slc ok.xt (ih'.e ok h1) (ih'.o ok h2) (ih'.o ok h3)
  · cases h
  · -- subscripts
    rename_i n' a i p hn1 hn2 e1
    cases e1
    have hpl : PlainIx i := plain_ix fun lo hi st p z => by
      cases st with
      | none => exact hn1 _ _ _ z
      | some s => exact hn2 _ _ _ _ z
    split at h
    · rename_i x hx
      obtain ⟨y, h1, rfl⟩ := Option.map_eq_some_iff.mp h
      exact se_gsub ok hx hpl (ih'.e ok h1)
    simp only [Option.bind_eq_some_iff, Option.map_eq_some_iff] at h
    obtain ⟨x, h1, y, h2, rfl⟩ := h
    exact se_sub ok.xt hpl (ih'.e ok h1) (ih'.e ok h2)
  · -- comprehensions
    rename_i n' elt tg it ifs sc p e1
    cases e1
    simp only at h
    split at h
    · rename_i hb
      rw [Bool.and_eq_true, decide_eq_true_eq] at hb
      obtain ⟨t, h1, h⟩ := Option.bind_eq_some_iff.mp h
      split at h
      · rename_i hv
        simp only [Option.bind_eq_some_iff, Option.map_eq_some_iff] at h
        obtain ⟨i, h2, us, h3, x, h4, rfl⟩ := h
        obtain ⟨q1, q2, q3, q4, q5, q6⟩ := sd_blk (n := n) ih ok hb.1 hb.2 h1 h2 h3 h4
        refine (pe_lc ok.xt.calm ok.xt.nd q1 q2 q3 q4 q5 q6).imp fun σ H Q h => lc_run (fun j hj => ?_) h
        have := List.all_eq_true.mp hv j hj
        exact of_decide_eq_true this
      · cases h
    · cases h
  · -- comprehensions of two clauses
    rename_i n' elt tg it ifs tg1 it1 ifs1 sc p e1
    cases e1
    simp only at h
    split at h
    · rename_i hb
      simp only [Bool.and_eq_true, decide_eq_true_eq] at hb
      obtain ⟨t, h1, h⟩ := Option.bind_eq_some_iff.mp h
      obtain ⟨t1, g1, h⟩ := Option.bind_eq_some_iff.mp h
      split at h
      · rename_i hv
        rw [Bool.and_eq_true] at hv
        simp only [Option.bind_eq_some_iff, Option.map_eq_some_iff] at h
        obtain ⟨i, h2, us, h3, i1, g2, us1, g3, x, h4, rfl⟩ := h
        obtain ⟨q1, q2, q3, q4, q5, q6⟩ := sd_blk (n := n) ih ok hb.1.1 hb.1.2 h1 h2 h3 h4
        obtain ⟨r1, r2, r3, r4⟩ := sd_blk2 (n := n) ih ok hb.1.1 hb.2 g1 g2 g3
        refine (pe_lc2 ok.xt.calm ok.xt.nd q1 q2 (fun j hj => of_decide_eq_true (List.all_eq_true.mp hv.2 j hj)) q3 q4 r1 r3 r4 q5 q6 r2).imp fun σ H Q h => lc2_run (fun j hj => of_decide_eq_true (List.all_eq_true.mp hv.1 j hj)) (fun j hj => hj) h
      · cases h
    · cases h
  · cases h
end
end Vm
/-! Vm 19: the IR's run is the text's: all expressions. -/
namespace Vm
open PySem L2
section
variable {T : Tp} {X : Cx} {g : Cfg} {C : Cf} {W : WX} {e a b : Expr} {c ca cb : Ex} {pos : Pos}
theorem sd_t {n : Nat} (ih : ∀ k, k < n + 1 → Sd k) (ok : Ok T X g C W) {u : Te} (h : cT g (n + 1) e = some u) : PT X e (tTe T C W u) := by
  have ih' := ih n (Nat.lt_succ_self n)
  have ihs : ∀ k, k < n → Sd k := fun k hk => ih k (Nat.lt_succ_of_lt hk)
  unfold cT at h
  split at h
  · cases ‹n + 1 = 0›
  · rename_i n' a p e1
    cases e1
    obtain ⟨x, h1, rfl⟩ := Option.map_eq_some_iff.mp h
    exact st_neg (ih'.t ok h1)
  · rename_i n' es p e1
    cases e1
    obtain ⟨ts, h1, h2⟩ := Option.bind_eq_some_iff.mp h
    split at h2
    · cases h2
    · rename_i hne
      cases h2
      have q := sd_ts ihs ok h1
      refine (tconj_ok q fun z => hne ?_).pt
      subst z
      cases q
      rfl
  · rename_i n' es p e1
    cases e1
    obtain ⟨ts, h1, h2⟩ := Option.bind_eq_some_iff.mp h
    split at h2
    · cases h2
    · rename_i hne
      cases h2
      have q := sd_ts ihs ok h1
      refine (tdisj_ok q fun z => hne ?_).pt
      subst z
      cases q
      rfl
  · cases h
  · rename_i n' a op b p e1
    cases e1
    split at h
    · rename_i x ng hx ho
      obtain ⟨y, h1, rfl⟩ := Option.map_eq_some_iff.mp h
      exact st_gin ok hx ho (ih'.e ok h1)
    split at h
    · rename_i hs
      simp only [Option.bind_eq_some_iff, Option.map_eq_some_iff] at h
      obtain ⟨x, h1, y, h2, rfl⟩ := h
      exact st_cmp ok.xt hs (ih'.e ok h1) (ih'.e ok h2)
    · cases h
  · rename_i n' a op op' b d p e1
    cases e1
    split at h
    · rename_i hs
      rw [Bool.and_eq_true] at hs
      simp only [Option.bind_eq_some_iff, Option.map_eq_some_iff] at h
      obtain ⟨x, h1, y, h2, z, h3, rfl⟩ := h
      exact st_chn ok.xt hs.2 (ih'.e ok h1) (ih'.e ok h2) (ih'.e ok h3)
    · cases h
  · cases h
  · rename_i x3 x2 x1 n' hn h1 h2 h3 h4 h5 h6 h7
    cases hn
    obtain ⟨x, hx, rfl⟩ := Option.map_eq_some_iff.mp h
    refine st_v ok.xt (ih'.e ok hx) fun whole => ?_
    cases x3 with
    | UnaryOp op a p => cases op <;> first | rfl | exact absurd rfl (h1 _ _)
    | BoolOp op es p => cases op <;> first | exact absurd rfl (h2 _ _) | exact absurd rfl (h3 _ _)
    | IfExp _ _ _ _ => exact absurd rfl (h4 _ _ _ _)
    | Compare _ _ _ _ => exact absurd rfl (h7 _ _ _ _)
    | _ => rfl
theorem sd_all (n : Nat) : Sd n := by
  induction n using Nat.strongRecOn with
  | ind n ih =>
    cases n with
    | zero =>
      refine ⟨fun _ h => ?_, fun _ h => ?_, fun _ h => ?_, fun _ h => ?_⟩
      · simp [cE] at h
      · simp [cO] at h
      · simp [cT] at h
      · simp [cI] at h
    | succ n =>
      exact ⟨fun ok h => sd_e ih ok h, fun ok h => sd_o ih ok h, fun ok h => sd_t ih ok h, fun ok h => sd_i ih ok h⟩
end
end Vm
/-! Vm 20: several except clauses, each with or without a name. -/
namespace Vm
open PySem PySem.Spec PyProof.Rows L2
/-- what a clause says: its class, the slot of its name, its suite's reading -/
structure Cl where
  c : Value
  i : Option Nat
  ts : Addr → Value → Option Addr → TS
/-- the ends behind a suite: the name is gone -/
def endsAs (i : Option Nat) (D : Ends) : Ends := match i with
  | none => D
  | some i => { nx := fun σ' H' => D.nx (σ'.set i none) H', rt := D.rt, bk := fun σ' H' => D.bk (σ'.set i none) H', ct := fun σ' H' => D.ct (σ'.set i none) H' }
def setAs (i : Option Nat) (a : Addr) (σ : L2.St) : L2.St := match i with
  | none => σ
  | some i => σ.set i (some (.ref a))
def wMx (K : PySem.W.Frag) (Wout : WX) (D : Ends) : List Cl → WX
  | [] => Wout
  | k :: r => fun cls d σ H => ∃ b, PySem.W.exmOne K cls k.c = some b ∧ (b = true → ∀ a, H a = none → k.ts a cls d (endsAs k.i D) (setAs k.i a σ) H) ∧ (b = false → wMx K Wout D r cls d σ H)
inductive HdsX (X : Cx) : List ExceptHandler → List Cl → Prop
  | nil : HdsX X [] []
  | plain {x : Str} {c : Value} {ts : Addr → Value → Option Addr → TS} {b₀ : Stmt} {suite : List Stmt} {np pos' : Pos} {hds : List ExceptHandler} {l : List Cl} (hc : Names X x c)
      (hsu : ∀ (a : Addr) (oe : Obj) (cls : Value) (d : Option Addr) (pn : List (Addr × Obj)), Zc cls d oe → (∃ vs, oe.data = .fields vs) → PSs (X.suite a ((a, oe) :: pn)) (b₀ :: suite) (ts a cls d)) (r : HdsX X hds l) :
      HdsX X (.ExceptHandler (some (.Name x np)) none (b₀ :: suite) pos' :: hds) (⟨c, none, ts⟩ :: l)
  | named {x n : Str} {i : Nat} {c : Value} {ts : Addr → Value → Option Addr → TS} {b₀ : Stmt} {suite : List Stmt} {np pos' : Pos} {hds : List ExceptHandler} {l : List Cl} (hi : X.N[i]? = some n) (hln : X.env.kindOf n = some .local) (hc : Names X x c)
      (hsu : ∀ (a : Addr) (oe : Obj) (cls : Value) (d : Option Addr) (pn : List (Addr × Obj)), Zc cls d oe → (∃ vs, oe.data = .fields vs) → PSs (X.suite a ((a, oe) :: pn)) (b₀ :: suite) (ts a cls d)) (r : HdsX X hds l) :
      HdsX X (.ExceptHandler (some (.Name x np)) (some n) (b₀ :: suite) pos' :: hds) (⟨c, some i, ts⟩ :: l)
section
variable {X : Cx} {body : List Stmt} {h₀ : ExceptHandler} {hds : List ExceptHandler} {l : List Cl} {pos : Pos} {tb : WX → TS} {Wout : WX}
theorem ps_try_x (hs : X.stack = X.env :: X.outer) (hf : X.env.frame = some X.env.locals) (hN : X.N.Nodup) (tk : Takes X Wout)
    (hb : ∀ (W : WX) (pn : List (Addr × Obj)) (xe : Value → Shared → Prop), Takes (X.tr pn xe) W → PassesOwn (model X.prog X.w) X.A X.env xe → PSs (X.tr pn xe) body (tb W))
    (hh : HdsX X (h₀ :: hds) l) : PS X (.Try body (h₀ :: hds) [] [] pos) (fun D σ H => tb (wMx X.K Wout D l) D σ H) := by
  refine ⟨fun pins s σ H D I h => ?_⟩
  have ok := I.ok
  have hfr : X.A.frames = some (X.env :: X.outer) := by rw [ok.frames, hs]
  refine wpAny_Try_except ?_
  refine wpAny_mono ((hb (wMx X.K Wout D l) (X.pn ++ pins) (fun e s₁ => wpAny (model X.prog X.w) X.A (noteFrame e X.env) (fun _ s₂ => wpAny (model X.prog X.w) X.A (setFlight e none) (fun _ s₃ =>
    wpAny (model X.prog X.w) X.A (handleBy e X.env (h₀ :: hds)) (SP X pins D) X.xe s₃) X.xe s₂) X.xe s₁) (fun u s' xx => ?_) PassesOwn.looking).run [] s σ H D (I.toTry _) h) (fun f s1 hsp => ?_) (fun e s1 he => he)
  · -- the catch
    obtain ⟨a, B, sI, pins', σ', H', cls, d, rfl, J', nb, up, sky, na, os, ag, w⟩ := xx
    have J : Inv X pins σ' H' sI := J'.ofTry ok
    have sky' : Sky B (X.env :: X.outer) a (Zc cls d) X.env.locals s'.heap := by rw [← hs]; exact sky
    show wpAny (model X.prog X.w) X.A (noteFrame (.ref a) X.env) _ _ _
    refine Sky.land Zc.steady hfr hf sky' fun h3 fl3 up3 => ?_
    have J3 : Inv X pins σ' H' { s' with heap := h3 } := J.landed nb fl3.1 (up.trans up3) os ag
    obtain ⟨oe3, vs3, he3, hz3, hd3⟩ := fl3.there
    have notFr : ∀ {h : Heap} {o : Obj} {vs : Array Value}, h.FunFrames B (X.env :: X.outer) → h.get? a = some o → o.data = .fields vs → a ∉ frs (X.env :: X.outer) := fun {h o vs} ff e dd hm => by
      obtain ⟨_, o', e', hnf⟩ := ff.mem hm
      rw [e] at e'; cases e'
      exact hnf _ dd
    have nfr := notFr fl3.2.2.1 he3 hd3
    have nL : a ≠ X.env.locals := fun z => nfr (List.mem_filterMap.mpr ⟨X.env, List.mem_cons_self, by rw [hf, z]⟩)
    have nF : a ∉ X.fs := fun hm => by
      obtain ⟨e, he, q⟩ := List.mem_filterMap.mp hm
      exact nfr (List.mem_filterMap.mpr ⟨e, List.mem_cons_of_mem _ he, q⟩)
    have S3 := J3.suite he3 hd3 na nL nF
    have LT : PySem.W.Looks (model X.prog X.w) h3 (typeOf (.ref a)) cls := fun A Q E s k q => wpAny_typeOf_ref (k _ _ he3) (by rw [hz3.1]; exact q)
    have test : ∀ {x : Str} {c : Value} {np : Pos} {Q : Value → Shared → Prop} {E : Value → Shared → Prop}, Names X x c → Q c { s' with heap := h3 } → wpAny (model X.prog X.w) (X.A.mark (some (.ref a))) (eval (.Name x np) X.env) Q E { s' with heap := h3 } := fun {x c np Q E} hc q => by
      obtain ⟨hg, hdbg, hm | ⟨hm, hv, hnn⟩⟩ := hc
      · exact ld_glob (X := X.suite a ((a, oe3) :: (X.pn ++ pins))) S3 hg hm q hdbg
      · exact ld_blt (X := X.suite a ((a, oe3) :: (X.pn ++ pins))) S3 hg hm hv q hnn hdbg
    have go : ∀ {hds' : List ExceptHandler} {l' : List Cl}, HdsX X hds' l' → wMx X.K Wout D l' cls d σ' H' →
        wpAny (model X.prog X.w) X.A (handleBy (.ref a) X.env hds') (SP X pins D) X.xe { s' with heap := h3 } := by
      intro hds' l' hk
      induction hk with
      | nil =>
        intro w
        refine wpAny_handleBy_nil ?_
        obtain ⟨k1, k2, k3, oe, vs, T, oT, ts', he, hz, hd, h1, hr⟩ := id fl3
        unfold PySem.passOn
        refine wpAny_bind (wpAny_field he hd h1 ?_)
        rw [if_neg (show ¬ ((Value.ref T == Value.none) = true) from by simp)]
        have fin : wpAny (model X.prog X.w) X.A (setFlight (.ref a) X.env.frame) (fun _ s4 => wpAny (model X.prog X.w) X.A (throw (.ref a) : Sem Flow) (SP X pins D) X.xe s4) X.xe { s' with heap := h3 } := by
          rw [hf]
          refine HandSPX.setFlight_upZ fl3 fun h4 hh4 up4 => wpAny_throw (tk _ _ ?_)
          exact ⟨a, B, sI, pins, σ', H', cls, d, rfl, J, nb, (up.trans up3).trans up4, .inr (.inr (by rw [hs]; exact hh4)), na, os, ag, w⟩
        first
          | exact wpAny_bind (wpAny_pure (wpAny_bind fin))
          | exact wpAny_bind fin
      | @plain x c ts b₀ suite np pos' hds2 l2 hc hsu r ih =>
        intro w
        obtain ⟨b, hb1, hyes, hno⟩ := w
        refine wpAny_handleBy_cons (codeAny_handlers_test ?_) (by intro q; cases q)
        have LM := PySem.W.exm_one (M := model X.prog X.w) (J3.kIn) LT hb1
        refine test hc (LM.here ?_)
        cases b with
        | true =>
          refine codeAny_handlers_suite ?_
          refine HandSPX.lands_againZ fl3 fun h4 fl4 up4 => ?_
          have J4 : Inv X pins σ' H' { s' with heap := h4 } := J.landed nb fl4.1 ((up.trans up3).trans up4) os ag
          obtain ⟨oe4, vs4, he4, hz4, hd4⟩ := fl4.there
          have S4 := J4.suite he4 hd4 na nL nF
          refine wpAny_mono ((hsu a oe4 cls d (X.pn ++ pins) hz4 ⟨_, hd4⟩).run [] _ _ H' _ S4 (hyes rfl a na)) (fun f s6 hsp => ?_) (fun _ _ z => False.elim z)
          cases f with
          | next =>
            obtain ⟨σ6, H6, S6, q6⟩ := hsp
            exact ⟨_, _, S6.unsuite ok, q6⟩
          | brk =>
            obtain ⟨σ6, H6, S6, q6⟩ := hsp
            exact ⟨_, _, S6.unsuite ok, q6⟩
          | cont =>
            obtain ⟨σ6, H6, S6, q6⟩ := hsp
            exact ⟨_, _, S6.unsuite ok, q6⟩
          | ret u =>
            obtain ⟨v6, σ6, H6, S6, r6, q6⟩ := hsp
            exact ⟨_, _, _, S6.unsuite ok, r6, q6⟩
        | false =>
          show wpAny _ X.A (handleBy (.ref a) X.env hds2) _ _ _
          exact ih (hno rfl)
      | @named x n i c ts b₀ suite np pos' hds2 l2 hi hln hc hsu r ih =>
        intro w
        obtain ⟨b, hb1, hyes, hno⟩ := w
        refine wpAny_handleBy_cons (codeAny_handlers_test ?_) (by intro q; cases q)
        have LM := PySem.W.exm_one (M := model X.prog X.w) (J3.kIn) LT hb1
        refine test hc (LM.here ?_)
        have hloc : Loc X.env.scope n := .inl hln
        cases b with
        | true =>
          refine codeAny_handlers_suite_as ?_
          refine HandSPX.lands_againZ fl3 fun h4 fl4 up4 => ?_
          have J4 : Inv X pins σ' H' { s' with heap := h4 } := J.landed nb fl4.1 ((up.trans up3).trans up4) os ag
          obtain ⟨oe4, vs4, he4, hz4, hd4⟩ := fl4.there
          have S4 := J4.suite he4 hd4 na nL nF
          refine store_ok (X := X.suite a ((a, oe4) :: (X.pn ++ pins))) (v := .ref a) S4 hN hi hloc rfl (fun s5 S5 => ?_) (.inr hln)
          refine wpAny_mono ((hsu a oe4 cls d (X.pn ++ pins) hz4 ⟨_, hd4⟩).run [] s5 _ H' _ S5 (hyes rfl a na)) (fun f s6 hsp => ?_) (fun _ _ z => False.elim z)
          have end_ : ∀ {σ6 : L2.St} {H6 : Hp} {Q : Shared → Prop}, Inv (X.suite a ((a, oe4) :: (X.pn ++ pins))) [] σ6 H6 s6 → (∀ s7, Inv X pins (σ6.set i none) H6 s7 → Q s7) →
              wpAny (model X.prog X.w) X.A (do bindName X.env n .none; unbindBehindTheSuite X.env n pos') (fun _ s7 => Q s7) X.xe s6 := fun {σ6 H6 Q} S6 hq => gone_ok (S6.unsuite ok) hN hi hln hq
          cases f with
          | next =>
            obtain ⟨σ6, H6, S6, q6⟩ := hsp
            exact end_ S6 fun s7 J7 => ⟨_, _, J7, q6⟩
          | brk =>
            obtain ⟨σ6, H6, S6, q6⟩ := hsp
            exact end_ S6 fun s7 J7 => ⟨_, _, J7, q6⟩
          | cont =>
            obtain ⟨σ6, H6, S6, q6⟩ := hsp
            exact end_ S6 fun s7 J7 => ⟨_, _, J7, q6⟩
          | ret u =>
            obtain ⟨v6, σ6, H6, S6, r6, q6⟩ := hsp
            exact end_ S6 fun s7 J7 => ⟨_, _, _, J7, r6, q6⟩
        | false =>
          show wpAny _ X.A (handleBy (.ref a) X.env hds2) _ _ _
          exact ih (hno rfl)
    exact go hh w
  · cases f with
    | next =>
      obtain ⟨σ', H', J', q⟩ := hsp
      exact wpAny_execs_nil ⟨σ', H', J'.ofTry ok, q⟩
    | brk =>
      obtain ⟨σ', H', J', q⟩ := hsp
      exact ⟨σ', H', J'.ofTry ok, q⟩
    | cont =>
      obtain ⟨σ', H', J', q⟩ := hsp
      exact ⟨σ', H', J'.ofTry ok, q⟩
    | ret u =>
      obtain ⟨v, σ', H', J', r, q⟩ := hsp
      exact ⟨v, σ', H', J'.ofTry ok, r, q⟩
end
end Vm
/-! Vm 21: own errors: made, raised; what a suite hands back. -/
namespace Vm
open PySem PySem.Spec PyProof.Rows L2
/-- __init__ of a class of one field: a new exception gets its field -/
def spI (K : PySem.W.Frag) (C : Addr) (f : Str) : Sp := fun vs H Q _ => ∃ (a : Addr) (y : V), vs = [.ref a, y] ∧ OexC K C ∧ PySem.W.findIn K (.ref C) f = some none ∧ H a = some (exo a C none) ∧
  ∀ dx, H dx = none → dx ≠ a → Q .non (upd (upd H dx (exd dx [(f, y)])) a (exo a C (some dx)))
/-- the text of such an __init__ -/
def initB (f : Str) : List Stmt → Prop
  | [.Assign [.Attribute (.Name s _) g _] (.Name h _) _] => s = "self" ∧ g = f ∧ h = f
  | _ => False
section
variable {P : Program} {w : World} {K : PySem.W.Frag} {mg : Str → Option Value} {base : Heap}
theorem ok_init {q : Str} {sI : Stmt} {f : Str} {fI C : Addr} {fd : FuncData} (F : Fun K "__init__" q sI fI fd) (hb : initB f (defBody sI)) (S : FnScope ["self", f] ["self", f] (defScope sI))
    (h0 : (defScope sI).names.lookup ("self" : Str) = some .local) (h1 : (defScope sI).names.lookup f = some .local) (hd : (f == ("__debug__" : Str)) = false) (hc : (f == ("__classdict__" : Str)) = false) :
    FnOk P w K mg base (L2.CX P w) 1 fI fd ["self", f] (spI K C f) := by
  refine F.okX S (fun vs H Q E h => ?_) (fun cdv A outer s H vs Q E hr h => ?_)
  · obtain ⟨a, y, rfl, _⟩ := h
    rfl
  · generalize hB : defBody sI = B at hb
    unfold initB at hb
    split at hb
    · rename_i s' p1 g p2 h' p3 p4
      obtain ⟨rfl, rfl, rfl⟩ := hb
      refine ⟨_, pss_one (ps_ost (pe_var (i := 0) rfl (.inl h0) (by decide) (by decide)) (pe_var (i := 1) rfl (.inl h1) hd hc)), ?_⟩
      obtain ⟨a, y, rfl, T, hno, ea, k⟩ := h
      refine ⟨y, rfl, .ref a, rfl, a, C, rfl, T, hno, .inl ⟨ea, fun dx hdx hne => k dx hdx hne⟩⟩
    · exact hb.elim
end
/-- what is known of a class that is raised -/
structure ClsOk (T : Tp) (X : Cx) (x : Str) (c : Nat) : Prop where
  mg : T.mg x = some (.ref (T.ca c))
  oex : OexC X.K (T.ca c)
  xf : XfC X.K (T.ca c)
  ini : ∃ (f : Str) (fI : Addr) (k : Nat) (fd : FuncData), T.cf c = [f] ∧ PySem.W.findIn X.K (.ref (T.ca c)) "__init__" = some (some (.ref fI)) ∧ PySem.W.typeIn X.K (.ref fI) = some (.type "function") ∧
    FnOk X.prog X.w X.K X.mg X.base (L2.CX X.prog X.w) k fI fd ["self", f] (spI X.K (T.ca c) f) ∧ Room (k + 1) X.A ∧ Binds X.K fd ["self", f] [] ∧ PySem.W.findIn X.K (.ref (T.ca c)) f = some none
theorem passF {X : Cx} : Passes (L2.CX X.prog X.w) X (fun _ _ _ => False) := fun _ _ _ _ _ _ _ h => by
  obtain ⟨_, _, _, _, _, _, _, _, _, _, _, _, z⟩ := h
  exact z.elim
section
variable {T : Tp} {X : Cx} {g : Cfg} {C : Cf} {W : WX} {e a b : Expr} {c ca cb : Ex} {pos : Pos}
/-- raise C(e) -/
theorem mk_rse {x : Str} {cid : Nat} {p : Pos} (ok : Ok T X g C W) (K : ClsOk T X x cid) (hg : isGl g x = true) (hd : x ≠ "__debug__") (hns : noStar e = true) (he : PE X e (tE T C W c)) :
    PMk X (.Call (.Name x p) [e] [] pos) (fun σ H Q => ∃ α S fr r, C.m ≤ S.length ∧ RS T α H S ∧ RF T α H fr σ ∧ ev C c fr S = some r ∧
      PostR T C.m W (rV T) α S H σ (fun v H1 => ∃ α1 S1 d, RS T α1 H1 S1 ∧ RV T α1 H1 d v ∧ ∀ (H2 : Hp) (dd : Addr), Nxt T C.m α1 S1 H1 α1 S1 H2 → ExV T α1 H2 cid [d] (.ref (T.ca cid)) (some dd) → Q (.ref (T.ca cid)) (some dd) H2) r) := by
  obtain ⟨f, fI, k, fd, hcf, iC, tI, F, hr, hb, hno⟩ := K.ini
  have hm : X.mg x = some (.ref (T.ca cid)) := by rw [ok.xt.mg]; exact K.mg
  have base := pmk_oex (pos := pos) (p := p) K.oex iC tI F hr hb .nil passF (gl_of ok hg) hm (pa_one hns he) (beq_eq_false_iff_ne.mpr hd) (star_cons hns) rfl
  intro pins s σ H Q I h
  refine base pins s σ H Q I ?_
  obtain ⟨α, S, fr, r, hm', rs, rf, e, p⟩ := h
  have e0 : bnd (evs C [c] fr S) (fun ds => match ds with | [d] => M.ret d | _ => M.stuck) = some r := by
    rw [← e]
    simp only [evs, M.bind]
    cases ev C c fr S with
    | none => rfl
    | some q => cases q <;> rfl
  refine goM hm' rs rf e0 p fun ds S1 α1 H1 vs n1 rd hm1 rs1 rf1 e1 p1 ex => ?_
  have ld := evs_len ex
  match ds, ld, e1, rd with
  | [d], _, e1, rd =>
    have rd : RVs T α1 H1 [d] vs := rd
    rw [RVs] at rd
    obtain ⟨v, r', rfl, rd1, rd2⟩ := rd
    have : r' = [] := by simpa [RVs] using rd2
    subst this
    obtain ⟨α0, S0, d0, rs0, rd0, k0⟩ := fin rs1 e1 p1 rd1
    refine ⟨by simp, fun a ha => ⟨a, v, rfl, K.oex, hno, upd_same, fun dx hdx hne => ⟨rfl, dx, [(f, v)], upd_same, ?_, ?_, ?_⟩⟩⟩
    · rw [upd_ne hne, upd_same]
    · rw [upd_ne hne] at hdx; exact hdx
    · have hdx' : H1 dx = none := by rw [upd_ne hne] at hdx; exact hdx
      have e2 : upd (del (upd (upd (upd H1 a (exo a (T.ca cid) none)) dx (exd dx [(f, v)])) a (exo a (T.ca cid) (some dx))) a) dx (.xd [(f, v)]) = upd H1 dx (.xd [(f, v)]) := by
        funext b
        by_cases hb : b = dx
        · rw [hb, upd_same, upd_same]
        · rw [upd_ne hb, upd_ne hb]
          by_cases hba : b = a
          · rw [hba, del_same, ha]
          · rw [del_ne hba, upd_ne hba, upd_ne hb, upd_ne hba]
      rw [e2]
      have n2 : Nxt T C.m α0 S0 H1 α0 S0 (upd H1 dx (.xd [(f, v)])) := nxt_upd rs0 hdx'
      refine k0 _ dx n2 ⟨rfl, fun _ => ⟨dx, [(f, v)], rfl, upd_same, fun j d' hj => ?_⟩⟩
      cases j with
      | zero =>
        simp at hj
        subst hj
        refine ⟨f, v, by rw [hcf]; rfl, by simp [List.lookup], RV_grow rs0.bx n2.g _ _ rd0⟩
      | succ j => simp at hj
end
end Vm
/-! Vm 22: what an except suite hands back. -/
namespace Vm
open PySem PySem.Spec PyProof.Rows L2 PySem.W PySem.Calls
/-- isinstance(x, c), x's class below c -/
theorem isi_yes {prog : Program} {w : World} {A : Around} {E : Value → Shared → Prop} {s : Shared} {Q : Value → Shared → Prop} {K : Frag} {x t c : Value} (LT : ∀ M : Model, Looks M s.heap (typeOf x) t) (X : K.In s.heap) (e : kitOne K t c = some true)
    (hx : x ≠ .builtin "__main__.__loader__#opaque") (h : ∀ tk, Q (.bool true) { s with toks := tk }) : wpAny (model prog w) A (call (.builtin "isinstance") [x, c]) Q E s := by
  refine call_isinstance (S := fun _ R s' => (K.In s'.heap ∧ ∀ M : Model, Looks M s'.heap (typeOf x) t) ∧ ∀ tk, R (.ok (.ret (.bool true))) { s' with toks := tk }) (fun prog w A R s hs => isinstance_outer ?_ hx) ⟨⟨X, LT⟩, h⟩
  obtain ⟨h0, g, d, tt, os⟩ := s
  obtain ⟨⟨X, p⟩, hq⟩ := hs
  have LT := p (model prog w)
  unfold kitOne at e
  unfold Builtin.«isinstance.nested»
  refine wpAny_bind (LT.at ?_)
  by_cases q : (t == c) = true
  · rw [if_pos q]
    first
      | exact wpAny_pure (hq tt)
      | exact wpAny_bind (wpAny_rule (hq tt))
      | exact wpAny_bind (wpAny_rule (wpAny_pure (hq tt)))
  · rw [if_neg q] at e
    rw [if_neg q]
    obtain ⟨hty, his, hsub⟩ := kit_cls (M := model prog w) X e
    have LI : Looks (model prog w) h0 (isInstance x c) true := LT.andThen hsub
    refine wpAny_bind (hty.at ?_)
    rw [if_pos (by decide)]
    k_delta "plainIsInstance"
    refine wpAny_bind (wpAny_bind (his.at ?_))
    simp only [Bool.not_true, Bool.false_eq_true, if_false]
    refine wpAny_bind (LI.at ?_)
    first
      | exact wpAny_pure (wpAny_pure (hq tt))
      | (simp only [if_true]; first | exact wpAny_pure (wpAny_pure (hq tt)) | exact wpAny_pure (hq tt) | exact wpAny_bind (wpAny_pure (wpAny_pure (hq tt))))
/-- isinstance(e, c), e the exception that the suite holds -/
def rIsY (K : Frag) (cls : Value) (a : Addr) : List V → Hp → VK → Prop := fun xs H Q => ∃ (c : V) (cv : Value), xs = [.ref a, c] ∧ (∀ u, RelV c u → u = cv) ∧ kitOne K cls cv = some true ∧ Q (.bl true) H
theorem call_isY {X : Cx} {a : Addr} {oe : Obj} {cls : Value} {d : Option Addr} {pn : List (Addr × Obj)} (hz : Zc cls d oe) : CallR (X.suite a ((a, oe) :: pn)) (.builtin "isinstance") (rIsY X.K cls a) := by
  intro pins s σ H xs us Q I r h
  obtain ⟨c, cv, rfl, hcv, e, q⟩ := h
  cases r with
  | cons rx rr =>
    cases rr with
    | cons rt rr =>
      cases rr
      cases rx
      have ec := hcv _ rt
      subst ec
      obtain ⟨hget, _⟩ := I.pin (a, oe) (List.mem_append.mpr (.inl List.mem_cons_self))
      exact isi_yes (fun M A Q E s k q => wpAny_typeOf_ref (k _ _ hget) (by rw [hz.1]; exact q)) I.kIn e (fun z => nomatch z) fun tk => ⟨.bl true, H, I.kept (t' := tk) fun _ _ z => z, rfl, q⟩
end Vm
/-! Vm 23: the suites. -/
namespace Vm
open PySem L2
structure Cfgs extends Cfg where
  /-- the classes of errors -/
  cl : Str → Option Nat
  /-- those that are raised here -/
  rs : Str → Option Nat
section
variable (g : Cfgs)
/-- isinstance(the error, class) -/
def cIsi (n : Option Str) : Expr → Option Nat
  | .Call (.Name i _) [.Name x _, .Name y _] [] _ => if i = "isinstance" ∧ isGl g.toCfg i ∧ some x = n ∧ isGl g.toCfg y ∧ y ≠ "__debug__" then g.cl y else none
  | _ => none
def cHi (n : Option Str) : Expr → Option Hi
  | .Constant c _ _ => (cConst c).map .cst
  | .Attribute (.Name x _) f _ => if some x = n then some (.fld f) else none
  | .IfExp t (.Constant a _ _) (.Constant b _ _) _ => (cIsi g n t).bind fun c => (cConst a).bind fun x => (cConst b).map fun y => .ifi c x y
  | e => (cIsi g n e).map .isi
end
structure Oks (T : Tp) (X : Cx) (g : Cfgs) (C : Cg) (W : WX) : Prop extends Ok T X g.toCfg C.toCf W where
  stk : X.stack = X.env :: X.outer
  frm : X.env.frame = some X.env.locals
  pas : PassesOwn (model X.prog X.w) X.A X.env X.xe
  cls : ∀ x c, g.cl x = some c → T.mg x = some (.ref (T.ca c))
  rse : ∀ x c, g.rs x = some c → ClsOk T X x c
  sub : ∀ c c' b, C.sub c c' = some b → PySem.W.exmOne X.K (.ref (T.ca c)) (.ref (T.ca c')) = some b ∧ (b = true → PySem.W.kitOne X.K (.ref (T.ca c)) (.ref (T.ca c')) = some true)
  fld : ∀ c f, C.cf c = [f] → T.cf c = [f] ∧ XfC X.K (T.ca c) ∧ PySem.W.findIn X.K (.ref (T.ca c)) f = some none
section
variable {T : Tp} {X : Cx} {g : Cfgs} {C : Cg} {W : WX} {e : Expr}
/-- in a suite: the error at a (its class cls, its dict d) stands in its slot, it carries fs -/
structure InS (T : Tp) (i : Option Nat) (a : Addr) (cls : Value) (d : Option Addr) (α : List Addr) (S : Store) (c : Nat) (fs : List D) (σ : L2.St) (H : Hp) : Prop where
  rs : RS T α H S
  ex : ExV T α H c fs cls d
  sl : ∀ j, i = some j → σ[j]? = some (some (.ref a))
def tHi (T : Tp) (C : Cg) (i : Option Nat) (a : Addr) (cls : Value) (d : Option Addr) (h : Hi) : TE := fun σ H Q => ∃ α S c fs x, InS T i a cls d α S c fs σ H ∧ hiD C c fs h = some x ∧ ∀ v, RV T α H x v → Q v H
def tHs (T : Tp) (C : Cg) (i : Option Nat) (a : Addr) (cls : Value) (d : Option Addr) (hs : List Hi) : TA := fun σ H Q => ∃ α S c fs xs, InS T i a cls d α S c fs σ H ∧ hs.mapM (hiD C c fs) = some xs ∧ ∀ vs, RVs T α H xs vs → Q vs H
/-- where the name stands -/
def NmAt (X : Cx) (n : Option Str) (i : Option Nat) : Prop := ∀ x, n = some x → ∃ j, i = some j ∧ X.N[j]? = some x ∧ X.env.kindOf x = some .local ∧ x ≠ "__debug__" ∧ x ≠ "__classdict__"
variable {n : Option Str} {i : Option Nat} {a : Addr} {oe : Obj} {cls : Value} {d : Option Addr} {pn : List (Addr × Obj)}
theorem nm_pe (hn : NmAt X n i) {x : Str} {p : Pos} (hx : some x = n) : ∃ j, i = some j ∧ PE (X.suite a ((a, oe) :: pn)) (.Name x p) (tVar j) := by
  obtain ⟨j, h1, h2, h3, h4, h5⟩ := hn x hx.symm
  exact ⟨j, h1, pe_var (X := X.suite a ((a, oe) :: pn)) h2 (.inl h3) (beq_eq_false_iff_ne.mpr h4) (beq_eq_false_iff_ne.mpr h5)⟩
theorem isi_pe (ok : Oks T X g C W) (hn : NmAt X n i) (hz : Zc cls d oe) {c' : Nat} (h : cIsi g n e = some c') :
    PE (X.suite a ((a, oe) :: pn)) e (fun σ H Q => ∃ α S c fs, InS T i a cls d α S c fs σ H ∧ C.sub c c' = some true ∧ Q (.bl true) H) ∧ noStar e = true ∧ (∀ whole, isTrue e X.env whole = (do let v ← whole; standAt e.pos; holding [v] (truthy v))) := by
  unfold cIsi at h
  split at h
  · rename_i ii p1 x p2 y p3 p4
    split at h
    · rename_i hc
      obtain ⟨rfl, hg, hx, hgy, hd⟩ := hc
      obtain ⟨j, hj, hpe⟩ := nm_pe (a := a) (oe := oe) (pn := pn) (p := p2) hn hx
      have hm : X.mg "isinstance" = none := by rw [ok.xt.mg]; exact ok.bl _ (by decide +kernel)
      have hv : bootBuiltins "isinstance" = some (.builtin "isinstance") := by decide +kernel
      have gly : Gl X y := gl_of ok.toOk hgy
      have gli : Gl X "isinstance" := gl_of ok.toOk hg
      have hy : PE (X.suite a ((a, oe) :: pn)) (.Name y p3) (tC (.ref (T.ca c'))) := pe_glob (X := X.suite a ((a, oe) :: pn)) gly (by rw [show (X.suite a ((a, oe) :: pn)).mg = X.mg from rfl, ok.xt.mg]; exact ok.cls y c' h) rfl (beq_eq_false_iff_ne.mpr hd)
      refine ⟨(pe_callB (X := X.suite a ((a, oe) :: pn)) (call_isY hz) gli hm hv (pa_cons hpe (pa_cons hy pa_nil rfl) rfl) (by decide +kernel) (by decide +kernel) rfl rfl).imp fun σ H Q h => ?_, rfl, fun _ => rfl⟩
      obtain ⟨α, S, c, fs, hs, hsub, q⟩ := h
      refine ⟨.ref a, hs.sl j hj, .ref (T.ca c'), .ref (T.ca c'), rfl, fun u r => r, ?_, q⟩
      rw [hs.ex.1]
      exact (ok.sub _ _ _ hsub).2 rfl
    · cases h
  · cases h
theorem hi_pe (ok : Oks T X g C W) (hn : NmAt X n i) (hz : Zc cls d oe) (hf : ∃ vs, oe.data = .fields vs) {h : Hi} (hh : cHi g n e = some h) : PE (X.suite a ((a, oe) :: pn)) e (tHi T C i a cls d h) ∧ noStar e = true := by
  have cst : ∀ {cc : Const} {x : D} {k : Nat} {p : Pos}, cConst cc = some x → PE (X.suite a ((a, oe) :: pn)) (.Constant cc k p) (fun σ H Q => ∃ α : List Addr, ∀ v, RV T α H x v → Q v H) := fun {cc x k p} h => by
    have key : ∀ {v : V} {t : TE}, PE (X.suite a ((a, oe) :: pn)) (.Constant cc k p) (tC v) → (∀ α H, RV T α H x v) → PE (X.suite a ((a, oe) :: pn)) (.Constant cc k p) (fun σ H Q => ∃ α : List Addr, ∀ v, RV T α H x v → Q v H) := fun h1 h2 => h1.imp fun σ H Q ⟨α, q⟩ => q _ (h2 α H)
    cases cc <;> simp only [cConst, Option.some.injEq, reduceCtorEq] at h <;> subst h
    · exact key (t := tC .non) pe_non fun _ _ => by rw [RV]
    · exact key (t := tC .non) pe_bl fun _ _ => by rw [RV]
    · exact key (t := tC .non) pe_int fun _ _ => by rw [RV]
    · exact key (t := tC .non) pe_str fun _ _ => by rw [RV]
  unfold cHi at hh
  split at hh
  · rename_i cc k p
    obtain ⟨x, h1, rfl⟩ := Option.map_eq_some_iff.mp hh
    refine ⟨(cst h1).imp fun σ H Q h => ?_, rfl⟩
    obtain ⟨α, S, c, fs, y, hs, e, q⟩ := h
    cases e
    exact ⟨α, q⟩
  · rename_i x p1 f p2
    split at hh
    · rename_i hx
      cases hh
      obtain ⟨j, hj, hpe⟩ := nm_pe (a := a) (oe := oe) (pn := pn) (p := p1) hn hx
      refine ⟨⟨fun pins s σ H Q I h => ?_⟩, rfl⟩
      obtain ⟨α, S, c, fs, y, hs, e, q⟩ := h
      simp only [hiD] at e
      split at e
      · rename_i hcf
        obtain ⟨t1, t2, t3⟩ := ok.fld c f hcf
        refine (pe_xf (X := X) t2 t3 hz hf hpe).run pins s σ H Q I ?_
        have hne : fs ≠ [] := by intro z; subst z; simp at e
        obtain ⟨dd, xs, h1, h2, h3⟩ := hs.ex.2 hne
        obtain ⟨nm, v, g1, g2, g3⟩ := h3 0 y e
        rw [t1] at g1
        cases g1
        exact ⟨.ref a, hs.sl j hj, rfl, hs.ex.1, dd, xs, v, h1, h2, g2, q v g3⟩
      · cases e
    · cases hh
  · rename_i t ca k1 p1 cb k2 p2 p
    simp only [Option.bind_eq_some_iff, Option.map_eq_some_iff] at hh
    obtain ⟨c', h1, x, h2, y, h3, rfl⟩ := hh
    obtain ⟨q1, q2, q3⟩ := isi_pe (a := a) (pn := pn) ok hn hz h1
    refine ⟨(pe_ifExp (X := X.suite a ((a, oe) :: pn)) (pt_val q1 q3) (cst h2) (cst h3)).imp fun σ H Q h => ?_, rfl⟩
    obtain ⟨α, S, c, fs, z, hs, e, q⟩ := h
    simp only [hiD] at e
    split at e
    · rename_i hsub
      cases e
      refine ⟨α, S, c, fs, hs, hsub, true, rfl, ?_⟩
      exact iteT ⟨α, q⟩
    · cases e
  · obtain ⟨c', h1, rfl⟩ := Option.map_eq_some_iff.mp hh
    obtain ⟨q1, q2, q3⟩ := isi_pe (a := a) (pn := pn) ok hn hz h1
    refine ⟨q1.imp fun σ H Q h => ?_, q2⟩
    obtain ⟨α, S, c, fs, z, hs, e, q⟩ := h
    simp only [hiD] at e
    split at e
    · rename_i hsub
      cases e
      exact ⟨α, S, c, fs, hs, hsub, q _ (by rw [RV])⟩
    · cases e
theorem his_pa (ok : Oks T X g C W) (hn : NmAt X n i) (hz : Zc cls d oe) (hf : ∃ vs, oe.data = .fields vs) : ∀ {es : List Expr} {hs : List Hi}, es.mapM (cHi g n) = some hs → PA (X.suite a ((a, oe) :: pn)) es (tHs T C i a cls d hs)
  | [], hs, h => by
    cases h
    exact pa_nil.imp fun σ H Q h => by
      obtain ⟨α, S, c, fs, xs, h1, h2, q⟩ := h
      cases h2
      exact q [] RVs_nil
  | e :: es, hs, h => by
    rw [List.mapM_cons] at h
    obtain ⟨k, h1, h⟩ := Option.bind_eq_some_iff.mp h
    obtain ⟨ks', h2, h⟩ := Option.bind_eq_some_iff.mp h
    cases h
    obtain ⟨q1, q2⟩ := hi_pe (a := a) (oe := oe) (pn := pn) ok hn hz hf h1
    refine (pa_cons q1 (his_pa ok hn hz hf h2) (star_cons q2)).imp fun σ H Q h => ?_
    obtain ⟨α, S, c, fs, xs, g1, g2, q⟩ := h
    rw [List.mapM_cons] at g2
    obtain ⟨x, g3, g2⟩ := Option.bind_eq_some_iff.mp g2
    obtain ⟨xs', g4, g2⟩ := Option.bind_eq_some_iff.mp g2
    cases g2
    exact ⟨α, S, c, fs, x, g1, g3, fun v rv => ⟨α, S, c, fs, xs', g1, g4, fun vs rvs => q (v :: vs) (RVs_cons rv rvs)⟩⟩
end
end Vm
/-! Vm 24: from the text to the IR: statements; their readings. -/
namespace Vm
open PySem L2
def notComp : Expr → Bool
  | .ListComp _ _ _ _ => false
  | .SetComp _ _ _ _ => false
  | .DictComp _ _ _ _ _ => false
  | _ => true
def lcSc : Expr → Option Scope
  | .ListComp _ _ s _ => some s
  | _ => none
/-- a plain local -/
def plainL (g : Cfg) (x : Str) : Bool := g.sc.names.lookup x == some .local
/-- is [..] stored into the name at its own end -/
def swaps (g : Cfg) (x : Str) (px : Pos) (sc : Scope) (p : Pos) : Bool := plainL g x && px.line == p.line && !(sc.names.any fun (n, k) => n == x && (k == .local || k == .cell))
def isTup : Expr → Bool
  | .Tuple _ _ _ => true
  | _ => false
def hiOf (g : Cfgs) (n : Option Str) : Expr → Option (Bool × List Hi)
  | .List es _ => if es.length ≤ 1000 then (es.mapM (cHi g n)).map fun hs => (false, hs) else none
  | .Tuple es _ _ => if es.length ≤ 1000 then (es.mapM (cHi g n)).map fun hs => (true, hs) else none
  | _ => none
def cHd (g : Cfgs) : ExceptHandler → Option Hd
  | .ExceptHandler (some (.Name x _)) nm [.Return (some e) _] _ => if isGl g.toCfg x ∧ x ≠ "__debug__" then (g.cl x).bind fun c => (hiOf g nm e).bind fun q => match nm with
    | none => some ⟨c, none, q.1, q.2⟩
    | some n => if plainL g.toCfg n ∧ n ≠ "__debug__" ∧ n ≠ "__classdict__" then (slotN g.N n).map fun i => ⟨c, some i, q.1, q.2⟩ else none
    else none
  | _ => none
def cHds (g : Cfgs) : List ExceptHandler → Option (List Hd)
  | [] => some []
  | h :: r => (cHd g h).bind fun x => (cHds g r).map fun y => x :: y
mutual
def cS (g : Cfgs) : Nat → Stmt → Option St
  | 0, _ => none
  | n + 1, .Pass _ => some .pass
  | n + 1, .Break _ => some .brk
  | n + 1, .Continue _ => some .cnt
  | n + 1, .Expr (.Constant (.str _) _ _) _ => some .pass
  | n + 1, .Expr e _ => if notComp e then (cE g.toCfg n e).map .expr else none
  | n + 1, .Return none _ => some .retN
  | n + 1, .Return (some e) _ => (cE g.toCfg n e).map .ret
  | n + 1, .If t a b _ => (cT g.toCfg n t).bind fun u => (cSs g n a).bind fun x => (cSs g n b).map fun y => .ife u x y
  | n + 1, .While t b [] p => (cT g.toCfg n t).bind fun u => (cSs g n b).map fun x => .whl (g.bx p) u x
  | n + 1, .For tg it b [] p => (cTg g.toCfg n tg).bind fun t => (cI g.toCfg n tg it).bind fun i => (cSs g n b).map fun x => .for_ (g.bx p) t i x
  | n + 1, .Assign [.Name x px] e p => match lcSc e with
    | some sc => if swaps g.toCfg x px sc e.pos then (slotN g.N x).bind fun i => (cE g.toCfg n e).map fun c => .asg (.nm i) c
      else (cTg g.toCfg n (.Name x px)).bind fun t => (cE g.toCfg n e).map fun c => .asg t c
    | none => if notComp e then (cTg g.toCfg n (.Name x px)).bind fun t => (cE g.toCfg n e).map fun c => .asg t c else none
  | n + 1, .Assign [.Subscript o i _] e p => match i with
    | .Slice _ _ _ _ => none
    | i => (cE g.toCfg n e).bind fun v => (cE g.toCfg n o).bind fun x => (cE g.toCfg n i).map fun y => .put x y v
  | n + 1, .Assign [.Tuple [.Name x px, .Name y py] k pt] (.Tuple [a, b] k2 pt2) p =>
    if plainL g.toCfg x && plainL g.toCfg y && px.line == py.line && x != y && !([a, b].all (foldedForSure 8)) && !([a, b].all (constantsAlone 8)) then
      (slotN g.N x).bind fun i => (slotN g.N y).bind fun j => (cE g.toCfg n a).bind fun u => (cE g.toCfg n b).map fun v => .asg (.tup [.nm i, .nm j]) (.tup [u, v])
    else if [a, b].all (foldedForSure 8) then (cTg g.toCfg n (.Tuple [.Name x px, .Name y py] k pt)).bind fun t => (cE g.toCfg n (.Tuple [a, b] k2 pt2)).map fun c => .asg t c else none
  | n + 1, .Assign [.Tuple [.Name x px, .Name y py, .Name z pz] k pt] (.Tuple [a, b, c] k2 pt2) p =>
    if plainL g.toCfg x && plainL g.toCfg y && plainL g.toCfg z && px.line == py.line && px.line == pz.line && x != y && x != z && y != z && !([a, b, c].all (foldedForSure 8)) && !([a, b, c].all (constantsAlone 8)) then
      (slotN g.N x).bind fun i => (slotN g.N y).bind fun j => (slotN g.N z).bind fun l => (cE g.toCfg n a).bind fun u => (cE g.toCfg n b).bind fun v => (cE g.toCfg n c).map fun w => .asg (.tup [.nm i, .nm j, .nm l]) (.tup [u, v, w])
    else none
  | n + 1, .Assign [.Tuple ts k pt] e p => if isTup e then none else (cTg g.toCfg n (.Tuple ts k pt)).bind fun t => if notComp e then (cE g.toCfg n e).map fun c => .asg t c else none
  | n + 1, .AugAssign (.Name x px) op e _ => if op == .Add || op == .Sub then match cTg g.toCfg n (.Name x px) with
    | some (.nm i) => (cE g.toCfg n e).map fun c => .aug i op c
    | _ => none
    else none
  | n + 1, .Raise (some (.Call (.Name x px) [a] [] p)) none _ => if isGl g.toCfg x ∧ x ≠ "__debug__" then (g.rs x).bind fun c => (cE g.toCfg n a).map fun u => .rse c [u] else none
  | n + 1, .Try b hs [] [] _ => if hs.isEmpty then none else (cSs g n b).bind fun x => (cHds g hs).map fun y => .try_ x y
  | _, _ => none
def cSs (g : Cfgs) : Nat → List Stmt → Option (List St)
  | 0, _ => none
  | _, [] => some []
  | n + 1, s :: r => (cS g n s).bind fun x => (cSs g n r).map fun y => x :: y
end
/-- what is wanted behind a block's run (n: the frame's slots) -/
def PostS (T : Tp) (m : Nat) (W : WX) (α : List Addr) (S : Store) (H : Hp) (n : Nat) (D : Ends) : Rs Fl → Prop
  | .ok (.nx fr) S' => ∀ α' H' σ', Nxt T m α S H α' S' H' → RF T α' H' fr σ' → σ'.length = n → D.nx σ' H'
  | .ok (.ret d) S' => ∀ α' H' v, Nxt T m α S H α' S' H' → RV T α' H' d v → D.rt v H'
  | .ok (.bk fr) S' => ∀ α' H' σ', Nxt T m α S H α' S' H' → RF T α' H' fr σ' → σ'.length = n → D.bk σ' H'
  | .ok (.ct fr) S' => ∀ α' H' σ', Nxt T m α S H α' S' H' → RF T α' H' fr σ' → σ'.length = n → D.ct σ' H'
  | .ex c fs S' => ∀ α' H' cls dd σ', Nxt T m α S H α' S' H' → ExV T α' H' c fs cls dd → σ'.length = n → W cls dd σ' H'
def tSt (T : Tp) (m : Nat) (W : WX) (x : Fr → M Fl) : TS := fun D σ H => ∃ α S fr r, m ≤ S.length ∧ RS T α H S ∧ RF T α H fr σ ∧ x fr S = some r ∧ PostS T m W α S H σ.length D r
abbrev sS (T : Tp) (C : Cg) (W : WX) (s : St) : TS := tSt T C.m W (exec C s)
abbrev sSs (T : Tp) (C : Cg) (W : WX) (s : List St) : TS := tSt T C.m W (execs C s)
section
variable {T : Tp} {m : Nat} {W : WX} {α : List Addr} {S : Store} {H : Hp} {σ : L2.St} {fr : Fr} {D : Ends} {n : Nat}
theorem _root_.L2.PS.imp {X : Cx} {s : Stmt} {t t' : TS} (h : PS X s t) (k : ∀ D σ H, t' D σ H → t D σ H) : PS X s t' := ⟨fun pins s σ H D I q => h.run pins s σ H D I (k D σ H q)⟩
theorem _root_.L2.PSs.imp {X : Cx} {s : List Stmt} {t t' : TS} (h : PSs X s t) (k : ∀ D σ H, t' D σ H → t D σ H) : PSs X s t' := ⟨fun pins s σ H D I q => h.run pins s σ H D I (k D σ H q)⟩
theorem PostS.nxt {m' : Nat} {r : Rs Fl} {α1 : List Addr} {S1 : Store} {H1 : Hp} (p : PostS T m W α S H n D r) (nx : Nxt T m α S H α1 S1 H1) (hm : m ≤ m') : PostS T m' W α1 S1 H1 n D r := by
  cases r with
  | ok fl S' => cases fl with
    | nx fr => exact fun α' H' σ' n' q => p α' H' σ' (nx.trans hm n') q
    | ret d => exact fun α' H' v n' q => p α' H' v (nx.trans hm n') q
    | bk fr => exact fun α' H' σ' n' q => p α' H' σ' (nx.trans hm n') q
    | ct fr => exact fun α' H' σ' n' q => p α' H' σ' (nx.trans hm n') q
  | ex c fs S' => exact fun α' H' cls dd σ' n' q => p α' H' cls dd σ' (nx.trans hm n') q
/-- a statement's expression, then the rest -/
theorem goS {β γ : Type} {x : Fr → M β} {f : β → M Fl} {R : Rel β γ} {P : γ → Hp → Prop} {r : Rs Fl} (hm : m ≤ S.length) (rs : RS T α H S) (rf : RF T α H fr σ) (e : bnd (x fr S) f = some r) (p : PostS T m W α S H σ.length D r)
    (k : ∀ b S1 α1 H1 v, Nxt T m α S H α1 S1 H1 → R α1 H1 b v → m ≤ S1.length → RS T α1 H1 S1 → RF T α1 H1 fr σ → f b S1 = some r → PostS T m W α1 S1 H1 σ.length D r → P v H1) : tM T m W x R σ H P := by
  cases hx : x fr S with
  | none => rw [hx] at e; cases e
  | some r1 =>
    rw [hx] at e
    refine ⟨α, S, fr, r1, hm, rs, rf, hx, ?_⟩
    cases r1 with
    | ok b S1 => exact fun α1 H1 g n1 q => k b S1 α1 H1 g n1 q (Nat.le_trans hm (n1.len rs)) n1.rs (rf.nxt rs n1) e (p.nxt n1 (Nat.le_refl _))
    | ex c fs S1 =>
      rw [bnd_ex] at e
      cases e
      exact fun α1 H1 cls dd n1 q => p α1 H1 cls dd σ n1 q rfl
/-- the end: next -/
theorem finN {r : Rs Fl} {fr' : Fr} {σ' : L2.St} (rs : RS T α H S) (e : some (Rs.ok (Fl.nx fr') S) = some r) (p : PostS T m W α S H n D r) (rf : RF T α H fr' σ') (hl : σ'.length = n) : D.nx σ' H := by
  cases e
  exact p α H σ' (.refl rs) rf hl
end
end Vm
/-! Vm 25: the IR's run is the text's: plain statements. -/
namespace Vm
open PySem L2
section
variable {T : Tp} {X : Cx} {g : Cfgs} {C : Cg} {W : WX} {e a b : Expr} {c ca cb : Ex} {pos : Pos}
theorem sw_no {t : Option Expr} {l : Nat} {env : Env} (h : notComp e = true) : swapsWith e t l env = pure false := by
  cases e <;> first | rfl | cases h
theorem ss_pass : PS X (.Pass pos) (sS T C W .pass) := ps_pass.imp fun D σ H h => by
  obtain ⟨α, S, fr, r, hm, rs, rf, e, p⟩ := h
  exact finN rs e p rf rfl
theorem ss_brk : PS X (.Break pos) (sS T C W .brk) := ps_break.imp fun D σ H h => by
  obtain ⟨α, S, fr, r, hm, rs, rf, e, p⟩ := h
  cases e
  exact p α H σ (.refl rs) rf rfl
theorem ss_cnt : PS X (.Continue pos) (sS T C W .cnt) := ps_continue.imp fun D σ H h => by
  obtain ⟨α, S, fr, r, hm, rs, rf, e, p⟩ := h
  cases e
  exact p α H σ (.refl rs) rf rfl
theorem ss_doc {x j p2} : PS X (.Expr (.Constant (.str x) j p2) pos) (sS T C W .pass) := ps_doc.imp fun D σ H h => by
  obtain ⟨α, S, fr, r, hm, rs, rf, e, p⟩ := h
  exact finN rs e p rf rfl
theorem ss_expr (he : PE X e (tE T C.toCf W c)) (hn : notComp e = true) : PS X (.Expr e pos) (sS T C W (.expr c)) := (ps_expr he (sw_no hn)).imp fun D σ H h => by
  obtain ⟨α, S, fr, r, hm, rs, rf, e, p⟩ := h
  exact goS hm rs rf e p fun d S1 α1 H1 v n1 rd hm1 rs1 rf1 e1 p1 => finN rs1 e1 p1 rf1 rfl
theorem ss_ret (he : PE X e (tE T C.toCf W c)) : PS X (.Return (some e) pos) (sS T C W (.ret c)) := (ps_ret he).imp fun D σ H h => by
  obtain ⟨α, S, fr, r, hm, rs, rf, e, p⟩ := h
  refine goS hm rs rf e p fun d S1 α1 H1 v n1 rd hm1 rs1 rf1 e1 p1 => ?_
  cases e1
  exact p1 α1 H1 v (.refl rs1) rd
theorem ss_retN : PS X (.Return none pos) (sS T C W .retN) := ps_retN.imp fun D σ H h => by
  obtain ⟨α, S, fr, r, hm, rs, rf, e, p⟩ := h
  cases e
  exact p α H .non (.refl rs) (by rw [RV])
theorem ss_if {t : Expr} {ct : Te} {as bs : List Stmt} {xs ys : List St} (ht : PT X t (tTe T C.toCf W ct)) (ha : PSs X as (sSs T C W xs)) (hb : PSs X bs (sSs T C W ys)) : PS X (.If t as bs pos) (sS T C W (.ife ct xs ys)) := (ps_if ht ha hb).imp fun D σ H h => by
  obtain ⟨α, S, fr, r, hm, rs, rf, e, p⟩ := h
  refine goS hm rs rf e p fun d S1 α1 H1 v n1 rd hm1 rs1 rf1 e1 p1 => ?_
  have rd : v = d := rd
  subst rd
  cases v with
  | true => exact iteT ⟨α1, S1, fr, r, hm1, rs1, rf1, e1, p1⟩
  | false => exact iteF ⟨α1, S1, fr, r, hm1, rs1, rf1, e1, p1⟩
theorem ss_asg {tg : Expr} {t : Tg} (he : PE X e (tE T C.toCf W c)) (hg : PG X tg (gT T t)) (hs : swapsWithSole [tg] e pos.line X.env = pure false) (hw : swappedStores [tg] e X.env = pure none) (h1 : (assignEach [tg] X.env).map (·.2) = [assign tg X.env]) :
    PS X (.Assign [tg] e pos) (sS T C W (.asg t c)) := (ps_asg he hg hs hw h1).imp fun D σ H h => by
  obtain ⟨α, S, fr, r, hm, rs, rf, e, p⟩ := h
  refine goS hm rs rf e p fun d S1 α1 H1 v n1 rd hm1 rs1 rf1 e1 p1 => ?_
  cases ea : asgT t d fr with
  | none => rw [ea] at e1; cases e1
  | some fr' =>
    rw [ea] at e1
    refine ⟨T.no, α1, S1, d, fr, fr', rs1, rf1, rd, ea, fun σ' rf' _ => finN rs1 e1 p1 rf' ?_⟩
    have l1 := rf'.len
    have l2 := asgT_len _ _ _ _ ea
    have l3 := rf1.len
    omega
theorem set_sub {i : Expr} (h : ∀ lo hi st p, i ≠ .Slice lo hi st p) {o : Expr} : ∀ v, assign (.Subscript o i pos) X.env v = (do
      let ov ← holding [v] (eval o X.env)
      let iv ← holding [v, ov] (eval i X.env)
      standAt pos
      holding [v, ov, iv] (setItem ov iv v)
      release [v, ov, iv] []) := by
  intro v
  cases i <;> first | rfl | exact absurd rfl (h _ _ _ _)
theorem ss_put {o i : Expr} {co ci : Ex} {p2 : Pos} (x : XT T X) (he : PE X e (tE T C.toCf W c)) (ho : PE X o (tE T C.toCf W co)) (hi : PE X i (tE T C.toCf W ci)) (hp : ∀ lo hi st p, i ≠ .Slice lo hi st p) (hs : swapsWith e (some (.Subscript o i p2)) pos.line X.env = pure false) :
    PS X (.Assign [.Subscript o i p2] e pos) (sS T C W (.put co ci c)) := (ps_asg he (pg_sub ho hi (set_put (m := C.m) x) (set_sub hp)) hs rfl rfl).imp fun D σ H h => by
  obtain ⟨α, S, fr, r, hm, rs, rf, e, p⟩ := h
  refine goS hm rs rf e p fun d S1 α1 H1 v n1 rd hm1 rs1 rf1 e1 p1 => ?_
  refine goS hm1 rs1 rf1 e1 p1 fun d2 S2 α2 H2 v2 n2 rd2 hm2 rs2 rf2 e2 p2 => ?_
  refine goS hm2 rs2 rf2 e2 p2 fun d3 S3 α3 H3 v3 n3 rd3 hm3 rs3 rf3 e3 p3 => ?_
  have rd' := RV_grow rs2.bx n3.g _ _ (RV_grow rs1.bx n2.g _ _ rd)
  have rd2' := RV_grow rs2.bx n3.g _ _ rd2
  cases ep : putD C.m d2 d3 d S3 with
  | none => rw [ep] at e3; cases e3
  | some q =>
    rw [ep] at e3
    cases q with
    | ex c fs S' =>
      exfalso
      unfold putD at ep
      repeat' split at ep
      all_goals cases ep
    | ok u S4 =>
      refine ⟨α3, S3, d2, d3, d, S4, hm3, rs3, rd2', rd3, rd', ep, fun α' H' n4 => ?_⟩
      exact finN n4.rs e3 (p3.nxt n4 (Nat.le_refl _)) (rf3.nxt rs3 n4) rfl
theorem ss_aug {i : Nat} {x : Str} {op : Operator} {p2 : Pos} (hop : op = .Add ∨ op = .Sub) (xt : XT T X) (hi : X.N[i]? = some x) (hx : Loc X.env.scope x) (hf : X.fn x = true ∨ X.env.scope.names.lookup x = some .local) (he : PE X e (tE T C.toCf W c)) :
    PS X (.AugAssign (.Name x p2) op e pos) (sS T C W (.aug i op c)) := by
  have key : ∀ (f : Int → Int → Int), PIp X op (ipI f) → (∀ x y k, augD op x y = some k → ∃ i j, x = .int i ∧ y = .int j ∧ k = .int (f i j)) → PS X (.AugAssign (.Name x p2) op e pos) (sS T C W (.aug i op c)) := fun f hp hk => by
    refine (ps_aug xt.nd hi hx he hp hf).imp fun D σ H h => ?_
    obtain ⟨α, S, fr, r, hm, rs, rf, e, p⟩ := h
    simp only [exec] at e
    cases eg : getFr fr i with
    | none => rw [eg] at e; cases e
    | some d =>
      rw [eg] at e
      obtain ⟨v, h1, h2⟩ := rf.at_ i d eg
      refine ⟨v, h1, ?_⟩
      refine goS hm rs rf e p fun d2 S1 α1 H1 v2 n1 rd hm1 rs1 rf1 e1 p1 => ?_
      cases ea : augD op d d2 with
      | none => rw [ea] at e1; cases e1
      | some k =>
        rw [ea] at e1
        obtain ⟨x', y', rfl, rfl, rfl⟩ := hk _ _ _ ea
        rw [RV] at h2
        have rd : RV T α1 H1 (.int y') v2 := rd
        rw [RV] at rd
        refine ⟨x', y', h2, rd, finN rs1 e1 p1 (rf1.set (by rw [RV])) (by rw [List.length_set])⟩
  rcases hop with rfl | rfl
  · exact key _ ip_add fun x y k h => by cases x <;> cases y <;> cases h; exact ⟨_, _, rfl, rfl, rfl⟩
  · exact key _ ip_sub fun x y k h => by cases x <;> cases y <;> cases h; exact ⟨_, _, rfl, rfl, rfl⟩
theorem ss_rse {x : Str} {cid : Nat} {p1 : Pos} (ok : Oks T X g C W) (K : ClsOk T X x cid) (hg : isGl g.toCfg x = true) (hd : x ≠ "__debug__") (hns : noStar e = true) (he : PE X e (tE T C.toCf W c)) (p2 : Pos) :
    PS X (.Raise (some (.Call (.Name x p1) [e] [] pos)) none p2) (sS T C W (.rse cid [c])) := (ps_raise ok.xt.calm ok.tk (mk_rse (C := C.toCf) ok.toOk K hg hd hns he)).imp fun D σ H h => by
  obtain ⟨α, S, fr, r, hm, rs, rf, e, p⟩ := h
  have e0 : bnd (ev C.toCf c fr S) (fun d => fun S => some (Rs.ex cid [d] S : Rs Fl)) = some r := by
    rw [← e]
    simp only [exec, evs, M.bind]
    cases ev C.toCf c fr S with
    | none => rfl
    | some q => cases q <;> rfl
  have q := goS (R := rV T) (P := fun v H1 => ∃ α1 S1 d, RS T α1 H1 S1 ∧ RV T α1 H1 d v ∧ ∀ (H2 : Hp) (dd : Addr), Nxt T C.m α1 S1 H1 α1 S1 H2 → ExV T α1 H2 cid [d] (.ref (T.ca cid)) (some dd) → W (.ref (T.ca cid)) (some dd) σ H2) hm rs rf e0 p fun d S1 α1 H1 v n1 rd hm1 rs1 rf1 e1 p1 => by
    cases e1
    exact ⟨α1, S1, d, rs1, rd, fun H2 dd n2 ev => p1 α1 H2 _ _ σ n2 ev rfl⟩
  exact q
/-! ### blocks -/
theorem sss_nil : PSs X [] (sSs T C W []) := pss_nil.imp fun D σ H h => by
  obtain ⟨α, S, fr, r, hm, rs, rf, e, p⟩ := h
  simp only [execs] at e
  exact finN rs e p rf rfl
theorem sss_cons {s : Stmt} {ss : List Stmt} {x : St} {xs : List St} (h1 : PS X s (sS T C W x)) (h2 : PSs X ss (sSs T C W xs)) : PSs X (s :: ss) (sSs T C W (x :: xs)) := (pss_cons h1 h2).imp fun D σ H h => by
  obtain ⟨α, S, fr, r, hm, rs, rf, e, p⟩ := h
  simp only [execs] at e
  cases ex : exec C x fr S with
  | none => rw [ex] at e; cases e
  | some r1 =>
    refine ⟨α, S, fr, r1, hm, rs, rf, ex, ?_⟩
    rw [ex] at e
    cases r1 with
    | ok fl S1 =>
      rw [bnd_ok] at e
      cases fl with
      | nx fr' => exact fun α' H' σ' n1 rf' hl => ⟨α', S1, fr', r, Nat.le_trans hm (n1.len rs), n1.rs, rf', e, by rw [hl]; exact p.nxt n1 (Nat.le_refl _)⟩
      | ret d => cases e; exact p
      | bk fr' => cases e; exact p
      | ct fr' => cases e; exact p
    | ex c fs S1 =>
      rw [bnd_ex] at e
      cases e
      exact p
end
end Vm
/-! Vm 26: the IR's run is the text's: loops. -/
namespace Vm
open PySem L2
def Cg.at (C : Cg) (m : Nat) : Cg := { C with m := m }
section
variable {T : Tp} {X : Cx} {g : Cfgs} {C : Cg} {W : WX} {e a b : Expr} {c ca cb : Ex} {pos : Pos}
theorem up_at (gc : Bool) (S : Store) : C.up gc S = C.at (if gc then S.length else C.m) := by cases gc <;> rfl
theorem Nxt.mono {m m' : Nat} {α α' : List Addr} {S S' : Store} {H H' : Hp} (h : m ≤ m') (n : Nxt T m' α S H α' S' H') : Nxt T m α S H α' S' H' := ⟨n.g, n.rs, fun k hk => n.wf k (Nat.le_trans hk h)⟩
theorem unbFr_len : ∀ {S : Store} {m : Nat} {fr fr' : Fr}, unbFr S m fr = some fr' → fr'.length = fr.length
  | S, m, [], fr', h => by simp only [unbFr, Option.some.injEq] at h; rw [← h]
  | S, m, none :: r, fr', h => by
    simp only [unbFr, Option.map_eq_some_iff] at h
    obtain ⟨t, h1, rfl⟩ := h
    rw [List.length_cons, List.length_cons, unbFr_len h1]
  | S, m, some d :: r, fr', h => by
    simp only [unbFr, Option.bind_eq_some_iff, Option.map_eq_some_iff] at h
    obtain ⟨e, h1, t, h2, rfl⟩ := h
    rw [List.length_cons, List.length_cons, unbFr_len h2]
theorem unbFr_get : ∀ {S : Store} {m : Nat} {fr fr' : Fr} {i : Nat} {e : D}, unbFr S m fr = some fr' → getFr fr' i = some e → ∃ d, getFr fr i = some d ∧ unb S m unbF d = some e
  | S, m, [], fr', i, e, h, g => by simp only [unbFr, Option.some.injEq] at h; subst h; simp [getFr] at g
  | S, m, none :: r, fr', i, e, h, g => by
    simp only [unbFr, Option.map_eq_some_iff] at h
    obtain ⟨t, h1, rfl⟩ := h
    cases i with
    | zero => simp [getFr] at g
    | succ i =>
      obtain ⟨d, q1, q2⟩ := unbFr_get (i := i) h1 (by simpa [getFr] using g)
      exact ⟨d, by simpa [getFr] using q1, q2⟩
  | S, m, some d :: r, fr', i, e, h, g => by
    simp only [unbFr, Option.bind_eq_some_iff, Option.map_eq_some_iff] at h
    obtain ⟨e0, h1, t, h2, rfl⟩ := h
    cases i with
    | zero =>
      simp [getFr] at g
      subst g
      exact ⟨d, by simp [getFr], h1⟩
    | succ i =>
      obtain ⟨d', q1, q2⟩ := unbFr_get (i := i) h2 (by simpa [getFr] using g)
      exact ⟨d', by simpa [getFr] using q1, q2⟩
theorem RF.unb {α : List Addr} {S : Store} {H : Hp} {fr fr' : Fr} {σ : L2.St} {m : Nat} (rs : RS T α H S) (rf : RF T α H fr σ) (h : unbFr S m fr = some fr') : RF T (α.take m) H fr' σ :=
  ⟨(unbFr_len h).trans rf.len, fun i e he => by
    obtain ⟨d, h1, h2⟩ := unbFr_get h he
    obtain ⟨v, h3, h4⟩ := rf.at_ i d h1
    exact ⟨v, h3, unb_ok rs unbF d e v h2 h4⟩⟩
/-- a loop's turn -/
theorem gc_body {gc : Bool} {m n : Nat} {α : List Addr} {S : Store} {H : Hp} {D : Ends} {r0 r : Rs Fl} {cont : Fl → M Fl} {N B : L2.St → Hp → Prop} (e : bnd (gcFl gc S.length (some r0)) cont = some r) (hm : m ≤ S.length) (rs : RS T α H S) (p : PostS T m W α S H n D r)
    (kn : ∀ fr' S' α' H' σ', Nxt T m α S H α' S' H' → RF T α' H' fr' σ' → σ'.length = n → (cont (.nx fr') S' = some r ∨ cont (.ct fr') S' = some r) → N σ' H')
    (kb : ∀ fr' S' α' H' σ', Nxt T m α S H α' S' H' → RF T α' H' fr' σ' → σ'.length = n → cont (.bk fr') S' = some r → B σ' H')
    (kr : ∀ d S', cont (.ret d) S' = some (.ok (.ret d) S')) :
    PostS T (if gc then S.length else m) W α S H n { nx := N, rt := D.rt, bk := B, ct := N } r0 := by
  have hle : m ≤ (if gc then S.length else m) := by cases gc; exact Nat.le_refl _; exact hm
  cases r0 with
  | ex c fs S' =>
    have e : some (Rs.ex c fs S' : Rs Fl) = some r := by cases gc <;> exact e
    cases e
    exact fun α' H' cls dd σ' n' q => p α' H' cls dd σ' (n'.mono hle) q
  | ok fl S' =>
    cases fl with
    | ret d =>
      have e : cont (.ret d) S' = some r := by cases gc <;> exact e
      rw [kr] at e
      cases e
      exact fun α' H' v n' q => p α' H' v (n'.mono hle) q
    | nx fr' =>
      intro α' H' σ' n' rf hl
      cases gc with
      | false => exact kn fr' S' α' H' σ' n' rf hl (.inl e)
      | true =>
        cases hu : unbFr S' S.length fr' with
        | none =>
          simp only [gcFl, if_true, hu] at e
          cases e
        | some fr'' =>
          simp only [gcFl, if_true, hu, Option.map_some, bnd_ok] at e
          exact kn fr'' _ _ H' σ' (nxt_gc hm rs n') (rf.unb n'.rs hu) hl (.inl e)
    | ct fr' =>
      intro α' H' σ' n' rf hl
      cases gc with
      | false => exact kn fr' S' α' H' σ' n' rf hl (.inr e)
      | true =>
        cases hu : unbFr S' S.length fr' with
        | none =>
          simp only [gcFl, if_true, hu] at e
          cases e
        | some fr'' =>
          simp only [gcFl, if_true, hu, Option.map_some, bnd_ok] at e
          exact kn fr'' _ _ H' σ' (nxt_gc hm rs n') (rf.unb n'.rs hu) hl (.inl e)
    | bk fr' =>
      intro α' H' σ' n' rf hl
      cases gc with
      | false => exact kb fr' S' α' H' σ' n' rf hl e
      | true =>
        cases hu : unbFr S' S.length fr' with
        | none =>
          simp only [gcFl, if_true, hu] at e
          cases e
        | some fr'' =>
          simp only [gcFl, if_true, hu, Option.map_some, bnd_ok] at e
          exact kb fr'' _ _ H' σ' (nxt_gc hm rs n') (rf.unb n'.rs hu) hl e
def tBd (T : Tp) (C : Cg) (W : WX) (xs : List St) : TS := fun D σ H => ∃ m, sSs T (C.at m) W xs D σ H
theorem bd_pss {bs : List Stmt} {xs : List St} (hb : ∀ m, PSs X bs (sSs T (C.at m) W xs)) : PSs X bs (tBd T C W xs) := ⟨fun pins s σ H D I ⟨m, h⟩ => (hb m).run pins s σ H D I h⟩
theorem ss_whl {gc : Bool} {t : Expr} {ct : Te} {bs : List Stmt} {xs : List St} (hp : PassesOwn (model X.prog X.w) X.A X.env X.xe) (ht : PT X t (tTe T C.toCf W ct)) (hb : ∀ m, PSs X bs (sSs T (C.at m) W xs)) : PS X (.While t bs [] pos) (sS T C W (.whl gc ct xs)) := by
  refine (ps_while hp ht (bd_pss hb)).imp fun D σ0 H0 h => ?_
  obtain ⟨α0, S0, fr0, r, hm0, rs0, rf0, e0, p0⟩ := h
  simp only [exec] at e0
  refine ⟨fun m σ H => ∃ α S fr, Nxt T C.m α0 S0 H0 α S H ∧ RF T α H fr σ ∧ σ.length = σ0.length ∧ whlGo (tst C.toCf ct) (fun fr S => gcFl gc S.length (execs (C.up gc S) xs fr S)) m fr S = some r, ⟨C.wh, α0, S0, fr0, .refl rs0, rf0, rfl, e0⟩, ?_⟩
  rintro m σ H ⟨α, S, fr, nx, rf, hl, e⟩
  cases m with
  | zero => cases e
  | succ m =>
    simp only [whlGo] at e
    have p : PostS T C.m W α S H σ.length D r := by rw [hl]; exact p0.nxt nx (Nat.le_refl _)
    refine goS (Nat.le_trans hm0 (nx.len rs0)) nx.rs rf e p fun k S1 α1 H1 v n1 rd hm1 rs1 rf1 e1 p1 => ?_
    have rd : v = k := rd
    subst rd
    cases v with
    | false => exact iteF (finN rs1 e1 p1 rf1 rfl)
    | true =>
      refine iteT ⟨fun σ' H' => ∃ α S fr, Nxt T C.m α0 S0 H0 α S H' ∧ RF T α H' fr σ' ∧ σ'.length = σ0.length ∧ whlGo (tst C.toCf ct) (fun fr S => gcFl gc S.length (execs (C.up gc S) xs fr S)) m fr S = some r, fun σ' H' q => ⟨m, Nat.lt_succ_self m, q⟩, ?_⟩
      simp only [if_true] at e1
      cases ex : execs (C.up gc S1) xs fr S1 with
      | none =>
        rw [ex] at e1
        cases gc <;> cases e1
      | some r0 =>
        rw [ex] at e1
        rw [up_at] at ex
        refine ⟨if gc then S1.length else C.m, α1, S1, fr, r0, ?_, rs1, rf1, ex, ?_⟩
        · show (if gc then S1.length else C.m) ≤ S1.length
          cases gc
          · exact hm1
          · exact Nat.le_refl _
        · refine gc_body (D := D) e1 hm1 rs1 p1 (fun fr' S' α' H' σ' n' rf' hl' hc => ?_) (fun fr' S' α' H' σ' n' rf' hl' hc => ?_) (fun d S' => rfl)
          · refine ⟨α', S', fr', (nx.trans (Nat.le_refl _) n1).trans (Nat.le_refl _) n', rf', hl'.trans hl, ?_⟩
            rcases hc with hc | hc <;> exact hc
          · exact finN n'.rs hc (p1.nxt n' (Nat.le_refl _)) rf' hl'
theorem ss_for {gc : Bool} {tg it : Expr} {t : Tg} {ci : It} {bs : List Stmt} {xs : List St} (xt : XT T X) (hp : PassesOwn (model X.prog X.w) X.A X.env X.xe) (hi : PI X tg it (tIt T C.toCf W ci)) (hg : PG X tg (gT T t)) (hb : ∀ m, PSs X bs (sSs T (C.at m) W xs)) (hs : ∀ x, foldedSetIterable it X.env x = pure x) :
    PS X (.For tg it bs [] pos) (sS T C W (.for_ gc t ci xs)) := by
  refine (ps_for hp xt.calm hi hg (bd_pss hb) hs).imp fun Dn σ0 H0 h => ?_
  obtain ⟨α0, S0, fr0, r, hm0, rs0, rf0, e0, p0⟩ := h
  simp only [exec] at e0
  refine goS hm0 rs0 rf0 e0 p0 fun its S1 α1 H1 J n1 Y hm1 rs1 rf1 e1 p1 => ?_
  have Y : Yld T J its α1 H1 := Y
  by_cases hst : its.still S1 = true
  rotate_left
  · rw [if_neg hst] at e1; cases e1
  rw [if_pos hst] at e1
  have hno : ∀ a ∈ T.no, a ∈ T.no ∨ H1 a = none := fun a h => .inl h
  let F : D → Fr → M Fl := fun d fr S => gcFl gc S.length (bnd (lift (asgT t d fr) S) fun fr' S' => execs (C.up gc S) xs fr' S')
  let Iv : Nat → L2.St → Hp → Prop := fun i σ H => ∃ α S fr, Nxt T C.m α1 S1 H1 α S H ∧ RF T α H fr σ ∧ σ.length = σ0.length ∧ its.still S = true ∧ forGo F its.still (its.ds.drop i) fr S = some r
  refine ⟨fun i m σ H => m = its.ds.length - i ∧ i ≤ its.ds.length ∧ Iv i σ H, ⟨_, rfl, Nat.zero_le _, α1, S1, fr0, .refl rs1, rf1, rfl, hst, by rw [List.drop_zero]; exact e1⟩, ?_⟩
  rintro i m σ H ⟨rfl, hi', α, S, fr, nx, rf, hl, hst', e⟩
  have p : PostS T C.m W α S H σ.length Dn r := by rw [hl]; exact p1.nxt nx (Nat.le_refl _)
  have hmS : C.m ≤ S.length := Nat.le_trans hm1 (nx.len rs1)
  by_cases hlt : i < its.ds.length
  · obtain ⟨jgo, yl⟩ := Y.go T.no α H S i its.ds[i] hno (nx.g.toN rs1.bx) nx.rs hst' (by simp [hlt])
    refine .inr ⟨jgo, Iv (i + 1), fun σ' H' q => ⟨its.ds.length - (i + 1), by omega, rfl, hlt, q⟩, fun xv H2 hy => ?_⟩
    obtain ⟨keep, rx⟩ := yl xv H2 hy
    have n2 : Nxt T C.m α S H α S H2 := nx.rs.kept keep
    rw [List.drop_eq_getElem_cons hlt] at e
    simp only [forGo] at e
    cases ea : asgT t its.ds[i] fr with
    | none =>
      have : F its.ds[i] fr S = none := by
        show gcFl gc S.length (bnd (lift (asgT t its.ds[i] fr) S) _) = none
        rw [ea]
        cases gc <;> rfl
      rw [this] at e; cases e
    | some fr' =>
      have eF : F its.ds[i] fr S = gcFl gc S.length (execs (C.up gc S) xs fr' S) := by
        show gcFl gc S.length (bnd (lift (asgT t its.ds[i] fr) S) _) = _
        rw [ea]
        rfl
      rw [eF] at e
      cases ex : execs (C.up gc S) xs fr' S with
      | none =>
        rw [ex] at e
        cases gc <;> cases e
      | some r0 =>
        rw [ex] at e
        rw [up_at] at ex
        refine ⟨T.no, α, S, its.ds[i], fr, fr', n2.rs, rf.nxt nx.rs n2, rx, ea, fun σ2 rf2 _ => ?_⟩
        have hl2 : σ2.length = σ.length := by
          have h1 := rf2.len
          have h2 := asgT_len _ _ _ _ ea
          have h3 := rf.len
          omega
        refine ⟨if gc then S.length else C.m, α, S, fr', r0, ?_, n2.rs, rf2, ex, ?_⟩
        · show (if gc then S.length else C.m) ≤ S.length
          cases gc
          · exact hmS
          · exact Nat.le_refl _
        · rw [hl2]
          refine gc_body (D := Dn) e hmS n2.rs (p.nxt n2 (Nat.le_refl _)) (fun fr3 S' α' H' σ' n' rf' hl' hc => ?_) (fun fr3 S' α' H' σ' n' rf' hl' hc => ?_) (fun d S' => rfl)
          · have hc' : (if its.still S' = true then forGo F its.still (its.ds.drop (i + 1)) fr3 S' else none) = some r := by rcases hc with hc | hc <;> exact hc
            by_cases hs2 : its.still S' = true
            · rw [if_pos hs2] at hc'
              exact ⟨α', S', fr3, (nx.trans (Nat.le_refl _) n2).trans (Nat.le_refl _) n', rf', hl'.trans hl, hs2, hc'⟩
            · rw [if_neg hs2] at hc'; cases hc'
          · exact finN n'.rs hc (p.nxt (n2.trans (Nat.le_refl _) n') (Nat.le_refl _)) rf' hl'
  · have ei : i = its.ds.length := by omega
    subst ei
    rw [List.drop_length] at e
    exact .inl ⟨Y.stop T.no α H S hno (nx.g.toN rs1.bx) nx.rs hst', finN nx.rs e p rf rfl⟩
end
end Vm
/-! Vm 27: the IR's run is the text's: comprehensions and pairs stored, try. -/
namespace Vm
open PySem L2
section
variable {T : Tp} {X : Cx} {g : Cfgs} {C : Cg} {W : WX} {e a b : Expr} {c ca cb : Ex} {pos : Pos}
theorem plainL_ok (ok : Ok T X g.toCfg C.toCf W) {x : Str} (h : plainL g.toCfg x = true) : X.env.scope.names.lookup x = some .local := ok.sc x _ (beq_iff_eq.mp h)
theorem ss_setLc {n : Nat} {i : Nat} {x : Str} {px p : Pos} {elt tg it : Expr} {ifs : List Expr} {sc : Scope} (ok : Oks T X g C W) (hi : slotN g.N x = some i) (hsw : swaps g.toCfg x px sc p = true) (h : cE g.toCfg n (.ListComp elt [⟨tg, it, ifs, 0⟩] sc p) = some c) :
    PS X (.Assign [.Name x px] (.ListComp elt [⟨tg, it, ifs, 0⟩] sc p) pos) (sS T C W (.asg (.nm i) c)) := by
  cases n with
  | zero => simp [cE] at h
  | succ n =>
    unfold swaps at hsw
    simp only [Bool.and_eq_true, Bool.not_eq_true'] at hsw
    obtain ⟨⟨h1, h2⟩, h3⟩ := hsw
    have hxl := plainL_ok ok.toOk h1
    unfold cE at h
    simp only at h
    split at h
    · rename_i hb
      rw [Bool.and_eq_true, decide_eq_true_eq] at hb
      obtain ⟨t, g1, h⟩ := Option.bind_eq_some_iff.mp h
      split at h
      · rename_i hv
        simp only [Option.bind_eq_some_iff, Option.map_eq_some_iff] at h
        obtain ⟨ci, g2, us, g3, ce, g4, rfl⟩ := h
        obtain ⟨q1, q2, q3, q4, q5, q6⟩ := sd_blk (n := n) (fun k _ => sd_all k) ok.toOk hb.1 hb.2 g1 g2 g3 g4
        refine ⟨fun pins s σ H Dn I h => ?_⟩
        refine (ps_setLc ok.xt.calm ok.xt.nd (by rw [ok.N]; exact slotN_ok hi) hxl (sw_true I.ok.kind hxl h2 h3) q1 q2 q3 q4 q5 q6).run pins s σ H Dn I ?_
        obtain ⟨α, S, fr, r, hm, rs, rf, e, p⟩ := h
        refine lc_run (fun j hj => of_decide_eq_true (List.all_eq_true.mp hv j hj)) (goS hm rs rf e p fun d S1 α1 H1 v n1 rd hm1 rs1 rf1 e1 p1 => ?_)
        simp only [asgT] at e1
        split at e1
        · exact finN rs1 e1 p1 (rf1.set rd) (by rw [List.length_set])
        · cases e1
      · cases h
    · cases h
theorem ss_setLc2 {n : Nat} {i : Nat} {x : Str} {px p : Pos} {elt tg it tg1 it1 : Expr} {ifs ifs1 : List Expr} {sc : Scope} (ok : Oks T X g C W) (hi : slotN g.N x = some i) (hsw : swaps g.toCfg x px sc p = true) (h : cE g.toCfg n (.ListComp elt [⟨tg, it, ifs, 0⟩, ⟨tg1, it1, ifs1, 0⟩] sc p) = some c) :
    PS X (.Assign [.Name x px] (.ListComp elt [⟨tg, it, ifs, 0⟩, ⟨tg1, it1, ifs1, 0⟩] sc p) pos) (sS T C W (.asg (.nm i) c)) := by
  cases n with
  | zero => simp [cE] at h
  | succ n =>
    unfold swaps at hsw
    simp only [Bool.and_eq_true, Bool.not_eq_true'] at hsw
    obtain ⟨⟨h1, h2⟩, h3⟩ := hsw
    have hxl := plainL_ok ok.toOk h1
    unfold cE at h
    simp only at h
    split at h
    · rename_i hb
      simp only [Bool.and_eq_true, decide_eq_true_eq] at hb
      obtain ⟨t, g1, h⟩ := Option.bind_eq_some_iff.mp h
      obtain ⟨t1, k1, h⟩ := Option.bind_eq_some_iff.mp h
      split at h
      · rename_i hv
        rw [Bool.and_eq_true] at hv
        simp only [Option.bind_eq_some_iff, Option.map_eq_some_iff] at h
        obtain ⟨ci, g2, us, g3, i1, k2, us1, k3, ce, g4, rfl⟩ := h
        obtain ⟨q1, q2, q3, q4, q5, q6⟩ := sd_blk (n := n) (fun k _ => sd_all k) ok.toOk hb.1.1 hb.1.2 g1 g2 g3 g4
        obtain ⟨r1, r2, r3, r4⟩ := sd_blk2 (n := n) (fun k _ => sd_all k) ok.toOk hb.1.1 hb.2 k1 k2 k3
        refine ⟨fun pins s σ H Dn I h => ?_⟩
        refine (ps_setLc2 ok.xt.calm ok.xt.nd (by rw [ok.N]; exact slotN_ok hi) hxl (sw_true I.ok.kind hxl h2 h3) q1 q2 (fun j hj => of_decide_eq_true (List.all_eq_true.mp hv.2 j hj)) q3 q4 r1 r3 r4 q5 q6 r2).run pins s σ H Dn I ?_
        obtain ⟨α, S, fr, r, hm, rs, rf, e, p⟩ := h
        refine lc2_run (fun j hj => of_decide_eq_true (List.all_eq_true.mp hv.1 j hj)) (fun j hj => hj) (goS hm rs rf e p fun d S1 α1 H1 v n1 rd hm1 rs1 rf1 e1 p1 => ?_)
        simp only [asgT] at e1
        split at e1
        · exact finN rs1 e1 p1 (rf1.set rd) (by rw [List.length_set])
        · cases e1
      · cases h
    · cases h
theorem sw_off {x : Str} {px : Pos} {sc : Scope} {l : Nat} {t : Tg} {n : Nat} (ok : Ok T X g.toCfg C.toCf W) (he : lcSc e = some sc) (h : swaps g.toCfg x px sc e.pos = false) (ht : cTg g.toCfg n (.Name x px) = some t) : swapsWith e (some (.Name x px)) l X.env = pure false := by
  cases e <;> first | cases he | skip
  rename_i elt gs p
  unfold swapsWith
  have key : (X.env.kindOf x == some .local && px.line == p.line && !(sc.names.any fun (n, k) => n == x && (k == .local || k == .cell))) = false := by
    cases hk : plainL g.toCfg x with
    | true =>
      unfold swaps at h
      rw [hk, Bool.true_and] at h
      rw [Bool.and_assoc]
      have h : (px.line == p.line && !(sc.names.any fun (n, k) => n == x && (k == .local || k == .cell))) = false := h
      rw [h, Bool.and_false]
    | false =>
      have hc : g.sc.names.lookup x = some .cell := by
        cases n with
        | zero => simp [cTg] at ht
        | succ n =>
          simp only [cTg] at ht
          split at ht
          · rename_i q
            unfold plainL at hk
            rw [q] at hk
            cases hk
          · assumption
          · cases ht
      have : X.env.kindOf x = some .cell := ok.sc x _ hc
      rw [this]
      rfl
  show (pure (X.env.blockKind == .function && X.env.kindOf x == some .local && px.line == p.line && !(sc.names.any fun (n, k) => n == x && (k == .local || k == .cell))) : Sem Bool) = pure false
  congr 1
  rw [Bool.and_assoc, Bool.and_assoc, ← Bool.and_assoc (X.env.kindOf x == some .local), key, Bool.and_false]
theorem ss_par {n : Nat} {i j : Nat} {x y : Str} {px py pt pt2 : Pos} {k k2 : Nat} (ok : Oks T X g C W) (hx : plainL g.toCfg x = true) (hy : plainL g.toCfg y = true) (hl : (px.line == py.line) = true) (hxy : x ≠ y) (hf : [a, b].all (foldedForSure 8) = false) (hk : [a, b].all (constantsAlone 8) = false)
    (hi : slotN g.N x = some i) (hj : slotN g.N y = some j) (hna : noStar a = true) (hnb : noStar b = true) (ha : PE X a (tE T C.toCf W ca)) (hb : PE X b (tE T C.toCf W cb)) :
    PS X (.Assign [.Tuple [.Name x px, .Name y py] k pt] (.Tuple [a, b] k2 pt2) pos) (sS T C W (.asg (.tup [.nm i, .nm j]) (.tup [ca, cb]))) := by
  have hxl := plainL_ok ok.toOk hx
  have hyl := plainL_ok ok.toOk hy
  have hij : i ≠ j := fun z => by
    subst z
    have h1 := slotN_ok hi
    rw [slotN_ok hj] at h1
    exact hxy (Option.some.inj h1).symm
  refine ⟨fun pins s σ H Dn I h => ?_⟩
  have hw : swappedStores [.Tuple [.Name x px, .Name y py] k pt] (.Tuple [a, b] k2 pt2) X.env = pure (some [x, y]) := by
    have e1 : X.env.blockKind = .function := by unfold Env.blockKind; rw [I.ok.kind]; rfl
    have e2 : X.env.kindOf x = some .local := hxl
    have e3 : X.env.kindOf y = some .local := hyl
    have hl' : (py.line == px.line) = true := by rw [beq_iff_eq] at hl ⊢; exact hl.symm
    have e5 : ([x, y].eraseDups).length = 2 := by
      have : (y == x) = false := by simpa using fun z => hxy z.symm
      simp [List.eraseDups_cons, this]
    unfold swappedStores
    simp only [List.length_cons, List.length_nil, e1]
    rw [if_neg (by decide)]
    split
    · rename_i h4
      exfalso
      simp only [List.any_cons, List.any_nil, Bool.or_false, Bool.or_eq_true] at h4
      rcases h4 with h4 | h4
      · cases a <;> first | (simp at h4; done) | cases hna
      · cases b <;> first | (simp at h4; done) | cases hnb
    simp only [List.head?_cons, Option.map_some, Expr.pos, Option.getD_some, List.filterMap_cons, e2, e3, List.filterMap_nil, hl', beq_self_eq_true, Bool.and_self, if_true, Bool.false_eq_true, if_false, List.length_cons, List.length_nil, hf, hk, e5]
    rfl
  refine (ps_par ok.xt.calm ok.xt.nd (by rw [ok.N]; exact slotN_ok hi) (by rw [ok.N]; exact slotN_ok hj) hij hxl hyl (pa_two hna ha hnb hb) hw rfl).run pins s σ H Dn I ?_
  obtain ⟨α, S, fr, r, hm, rs, rf, e, p⟩ := h
  have e0 : bnd (evs C.toCf [ca, cb] fr S) (fun ds => fun S => bnd (lift (asgT (.tup [.nm i, .nm j]) (.tup ds) fr) S) fun fr' => M.ret (.nx fr')) = some r := by
    rw [← e]
    simp only [exec, ev, M.bind]
    cases evs C.toCf [ca, cb] fr S with
    | none => rfl
    | some q => cases q <;> rfl
  refine goS hm rs rf e0 p fun ds S1 α1 H1 vs n1 rd hm1 rs1 rf1 e1 p1 => ?_
  cases ea : asgT (.tup [.nm i, .nm j]) (.tup ds) fr with
  | none => rw [ea] at e1; cases e1
  | some fr' =>
    rw [ea] at e1
    have hlen := asgTs_len (by simpa only [asgT] using ea)
    match ds, hlen, ea, rd with
    | [d1, d2], _, ea, rd =>
      have rd : RVs T α1 H1 [d1, d2] vs := rd
      rw [RVs] at rd
      obtain ⟨v, r', rfl, rd1, rd2⟩ := rd
      rw [RVs] at rd2
      obtain ⟨w, r'', rfl, rd2, rd3⟩ := rd2
      have : r'' = [] := by simpa [RVs] using rd3
      subst this
      simp only [asgT, asgTs] at ea
      refine ⟨v, w, rfl, finN rs1 e1 p1 (fr' := fr') ?_ (by rw [List.length_set, List.length_set])⟩
      split at ea
      · simp only [Option.bind_some] at ea
        split at ea
        · simp only [Option.bind_some, Option.some.injEq] at ea
          rw [← ea]
          exact (rf1.set rd1).set rd2
        · cases ea
      · cases ea
theorem ss_par3 {n : Nat} {i j l : Nat} {x y z : Str} {px py pz pt pt2 : Pos} {k k2 : Nat} {d : Expr} {cd : Ex} (ok : Oks T X g C W) (hx : plainL g.toCfg x = true) (hy : plainL g.toCfg y = true) (hz : plainL g.toCfg z = true) (hl : (px.line == py.line) = true) (hl2 : (px.line == pz.line) = true) (hxy : x ≠ y) (hxz : x ≠ z) (hyz : y ≠ z)
    (hf : [a, b, d].all (foldedForSure 8) = false) (hk : [a, b, d].all (constantsAlone 8) = false)
    (hi : slotN g.N x = some i) (hj : slotN g.N y = some j) (hll : slotN g.N z = some l) (hna : noStar a = true) (hnb : noStar b = true) (hnd : noStar d = true) (ha : PE X a (tE T C.toCf W ca)) (hb : PE X b (tE T C.toCf W cb)) (hd : PE X d (tE T C.toCf W cd)) :
    PS X (.Assign [.Tuple [.Name x px, .Name y py, .Name z pz] k pt] (.Tuple [a, b, d] k2 pt2) pos) (sS T C W (.asg (.tup [.nm i, .nm j, .nm l]) (.tup [ca, cb, cd]))) := by
  have hxl := plainL_ok ok.toOk hx
  have hyl := plainL_ok ok.toOk hy
  have hzl := plainL_ok ok.toOk hz
  have hij : i ≠ j := fun w => by
    subst w
    have h1 := slotN_ok hi
    rw [slotN_ok hj] at h1
    exact hxy (Option.some.inj h1).symm
  have hil : i ≠ l := fun w => by
    subst w
    have h1 := slotN_ok hi
    rw [slotN_ok hll] at h1
    exact hxz (Option.some.inj h1).symm
  have hjl : j ≠ l := fun w => by
    subst w
    have h1 := slotN_ok hj
    rw [slotN_ok hll] at h1
    exact hyz (Option.some.inj h1).symm
  refine ⟨fun pins s σ H Dn I h => ?_⟩
  have hw : swappedStores [.Tuple [.Name x px, .Name y py, .Name z pz] k pt] (.Tuple [a, b, d] k2 pt2) X.env = pure (some [x, y, z]) := by
    have e1 : X.env.blockKind = .function := by unfold Env.blockKind; rw [I.ok.kind]; rfl
    have e2 : X.env.kindOf x = some .local := hxl
    have e3 : X.env.kindOf y = some .local := hyl
    have e4 : X.env.kindOf z = some .local := hzl
    have hl' : (py.line == px.line) = true := by rw [beq_iff_eq] at hl ⊢; exact hl.symm
    have hl2' : (pz.line == px.line) = true := by rw [beq_iff_eq] at hl2 ⊢; exact hl2.symm
    have e5 : ([x, y, z].eraseDups).length = 3 := by
      have h1 : (y == x) = false := by simpa using fun w => hxy w.symm
      have h2 : (z == x) = false := by simpa using fun w => hxz w.symm
      have h3 : (z == y) = false := by simpa using fun w => hyz w.symm
      simp [List.eraseDups_cons, h1, h2, h3]
    unfold swappedStores
    simp only [List.length_cons, List.length_nil, e1]
    rw [if_neg (by decide)]
    split
    · rename_i h4
      exfalso
      simp only [List.any_cons, List.any_nil, Bool.or_false, Bool.or_eq_true] at h4
      rcases h4 with h4 | h4 | h4
      · cases a <;> first | (simp at h4; done) | cases hna
      · cases b <;> first | (simp at h4; done) | cases hnb
      · cases d <;> first | (simp at h4; done) | cases hnd
    simp only [List.head?_cons, Option.map_some, Expr.pos, Option.getD_some, List.filterMap_cons, e2, e3, e4, List.filterMap_nil, hl', hl2', beq_self_eq_true, Bool.and_self, if_true, Bool.false_eq_true, if_false, List.length_cons, List.length_nil, hf, hk, e5]
    rfl
  have pa3 : PA X [a, b, d] (tEs T C.toCf W [ca, cb, cd]) := pa_ok (.cons ⟨hna, ha⟩ (.cons ⟨hnb, hb⟩ (.cons ⟨hnd, hd⟩ .nil)))
  refine (ps_par3 ok.xt.calm ok.xt.nd (by rw [ok.N]; exact slotN_ok hi) (by rw [ok.N]; exact slotN_ok hj) (by rw [ok.N]; exact slotN_ok hll) hij hil hjl hxl hyl hzl pa3 hw rfl).run pins s σ H Dn I ?_
  obtain ⟨α, S, fr, r, hm, rs, rf, e, p⟩ := h
  have e0 : bnd (evs C.toCf [ca, cb, cd] fr S) (fun ds => fun S => bnd (lift (asgT (.tup [.nm i, .nm j, .nm l]) (.tup ds) fr) S) fun fr' => M.ret (.nx fr')) = some r := by
    rw [← e]
    simp only [exec, ev, M.bind]
    cases evs C.toCf [ca, cb, cd] fr S with
    | none => rfl
    | some q => cases q <;> rfl
  refine goS hm rs rf e0 p fun ds S1 α1 H1 vs n1 rd hm1 rs1 rf1 e1 p1 => ?_
  cases ea : asgT (.tup [.nm i, .nm j, .nm l]) (.tup ds) fr with
  | none => rw [ea] at e1; cases e1
  | some fr' =>
    rw [ea] at e1
    have hlen := asgTs_len (by simpa only [asgT] using ea)
    match ds, hlen, ea, rd with
    | [d1, d2, d3], _, ea, rd =>
      have rd : RVs T α1 H1 [d1, d2, d3] vs := rd
      rw [RVs] at rd
      obtain ⟨v, r', rfl, rd1, rd2⟩ := rd
      obtain ⟨w, w2, rfl, rd2, rd3⟩ := RVs_two rd2
      simp only [asgT, asgTs] at ea
      refine ⟨v, w, w2, rfl, finN rs1 e1 p1 (fr' := fr') ?_ (by rw [List.length_set, List.length_set, List.length_set])⟩
      split at ea
      · simp only [Option.bind_some] at ea
        split at ea
        · simp only [Option.bind_some] at ea
          split at ea
          · simp only [Option.bind_some, Option.some.injEq] at ea
            rw [← ea]
            exact ((rf1.set rd1).set rd2).set rd3
          · cases ea
        · cases ea
      · cases ea
/-! ### try -/
def tsR (T : Tp) (C : Cg) (i : Option Nat) (tp : Bool) (its : List Hi) : Addr → Value → Option Addr → TS := fun a cls d => fun Dn σ H => ∃ α S c fs ds, InS T i a cls d α S c fs σ H ∧ its.mapM (hiD C c fs) = some ds ∧
  ∀ α' H' v, Nxt T C.m α S H α' S H' → RV T α' H' (if tp then .tup ds else .lst ds) v → Dn.rt v H'
theorem mapM_len {α β : Type} {f : α → Option β} : ∀ {xs : List α} {ys : List β}, xs.mapM f = some ys → ys.length = xs.length
  | [], ys, h => by cases h; rfl
  | x :: xs, ys, h => by
    rw [List.mapM_cons] at h
    obtain ⟨k, h1, h⟩ := Option.bind_eq_some_iff.mp h
    obtain ⟨ks, h2, h⟩ := Option.bind_eq_some_iff.mp h
    cases h
    rw [List.length_cons, List.length_cons, mapM_len h2]
theorem hd_suite (ok : Oks T X g C W) {n : Option Str} {i : Option Nat} (hn : NmAt X n i) {q : Bool × List Hi} (h : hiOf g n e = some q) (a : Addr) (oe : Obj) (cls : Value) (d : Option Addr) (pn : List (Addr × Obj)) (hz : Zc cls d oe) (hf : ∃ vs, oe.data = .fields vs) :
    PSs (X.suite a ((a, oe) :: pn)) [.Return (some e) pos] (tsR T C i q.1 q.2 a cls d) := by
  unfold hiOf at h
  split at h
  · split at h
    · rename_i es p hl
      obtain ⟨hs, h1, rfl⟩ := Option.map_eq_some_iff.mp h
      refine (pss_one (ps_ret (pe_lst (his_pa (a := a) (pn := pn) ok hn hz hf h1)))).imp fun Dn σ H h => ?_
      obtain ⟨α, S, c, fs, ds, hi, hm, k⟩ := h
      refine ⟨α, S, c, fs, ds, hi, hm, fun vs rv => ?_⟩
      have l1 : ds.length = hs.length := mapM_len hm
      have l2 := mapM_len h1
      have l3 := RVs_len rv
      refine ⟨line1000 (by omega), fun p hp => ?_⟩
      have n2 : Nxt T C.m α S H α S (upd H p (.lst vs)) := nxt_upd hi.rs hp
      have l : Laid T α H (.lst vs) (.lst ds) := rv
      exact k α _ _ n2 (l.data hi.rs.bx n2.g upd_same (hi.rs.freeN hp))
    · cases h
  · split at h
    · rename_i es k0 p hl
      obtain ⟨hs, h1, rfl⟩ := Option.map_eq_some_iff.mp h
      refine (pss_one (ps_ret (pe_tup (his_pa (a := a) (pn := pn) ok hn hz hf h1)))).imp fun Dn σ H h => ?_
      obtain ⟨α, S, c, fs, ds, hi, hm, k⟩ := h
      refine ⟨α, S, c, fs, ds, hi, hm, fun vs rv => ?_⟩
      have l1 : ds.length = hs.length := mapM_len hm
      have l2 := mapM_len h1
      have l3 := RVs_len rv
      refine ⟨line1000 (by omega), fun p hp => ?_⟩
      have n2 : Nxt T C.m α S H α S (upd H p (.tup vs)) := nxt_upd hi.rs hp
      exact k α _ _ n2 (RV_tup hi.rs rv hp)
    · cases h
  · cases h
def clOf (T : Tp) (C : Cg) (h : Hd) : Cl := ⟨.ref (T.ca h.c), h.i, tsR T C h.i h.tp h.items⟩
theorem hd_ok (ok : Oks T X g C W) : ∀ {hs : List ExceptHandler} {cs : List Hd}, cHds g hs = some cs → HdsX X hs (cs.map (clOf T C))
  | [], cs, h => by simp only [cHds, Option.some.injEq] at h; subst h; exact .nil
  | hd :: hs, cs, h => by
    simp only [cHds, Option.bind_eq_some_iff, Option.map_eq_some_iff] at h
    obtain ⟨x, h1, xs, h2, rfl⟩ := h
    have ih := hd_ok ok h2
    unfold cHd at h1
    split at h1
    · rename_i y np nm e p p'
      split at h1
      · rename_i hg
        obtain ⟨c, h3, h1⟩ := Option.bind_eq_some_iff.mp h1
        obtain ⟨q, h4, h1⟩ := Option.bind_eq_some_iff.mp h1
        have nms : Names X y (.ref (T.ca c)) := ⟨gl_of ok.toOk hg.1, beq_eq_false_iff_ne.mpr hg.2, .inl (by rw [ok.xt.mg]; exact ok.cls y c h3)⟩
        cases nm with
        | none =>
          cases h1
          exact .plain nms (fun a oe cls d pn hz hf => hd_suite ok (n := none) (i := none) (fun x h => by cases h) h4 a oe cls d pn hz hf) ih
        | some n =>
          simp only at h1
          split at h1
          · rename_i hn
            obtain ⟨i, h5, rfl⟩ := Option.map_eq_some_iff.mp h1
            have hnl := plainL_ok ok.toOk hn.1
            have hN : X.N[i]? = some n := by rw [ok.N]; exact slotN_ok h5
            refine .named hN hnl nms (fun a oe cls d pn hz hf => hd_suite ok (n := some n) (i := some i) (fun x h => ?_) h4 a oe cls d pn hz hf) ih
            cases h
            exact ⟨i, rfl, hN, hnl, hn.2.1, hn.2.2⟩
          · cases h1
      · cases h1
    · cases h1
theorem handle_ok (ok : Oks T X g C W) {n : Nat} {α : List Addr} {S : Store} {H : Hp} {Dn : Ends} {r : Rs Fl} {c : Nat} {fs : List D} {S' : Store} : ∀ (hs : List Hd), handle C n c fs hs S' = some r → PostS T C.m W α S H n Dn r →
    ∀ α' H' cls dd σ', Nxt T C.m α S H α' S' H' → ExV T α' H' c fs cls dd → σ'.length = n → wMx X.K W Dn (hs.map (clOf T C)) cls dd σ' H'
  | [], e, p, α', H', cls, dd, σ', nx, ev, hl => by
    simp only [handle] at e
    cases e
    exact p α' H' cls dd σ' nx ev hl
  | h :: hs, e, p, α', H', cls, dd, σ', nx, ev, hl => by
    simp only [handle] at e
    have ec := ev.1
    cases hsub : C.sub c h.c with
    | none => rw [hsub] at e; cases e
    | some b =>
      rw [hsub] at e
      refine ⟨b, by rw [ec]; exact (ok.sub _ _ _ hsub).1, fun hb a ha => ?_, fun hb => ?_⟩
      · subst hb
        simp only at e
        by_cases hi : slotOk h.i n = true
        rotate_left
        · rw [if_neg hi] at e
          cases e
        rw [if_pos hi] at e
        obtain ⟨ds, h1, rfl⟩ := Option.map_eq_some_iff.mp e
        refine ⟨α', S', c, fs, ds, ⟨nx.rs, ev, fun j hj => ?_⟩, h1, fun α2 H2 v n2 rv => ?_⟩
        · show (setAs h.i a σ')[j]? = _
          have hj : h.i = some j := hj
          rw [hj] at hi ⊢
          simp only [slotOk, decide_eq_true_eq] at hi
          show (σ'.set j _)[j]? = _
          rw [List.getElem?_set_self (by rw [hl]; exact hi)]
        · have q := p α2 H2 v (nx.trans (Nat.le_refl _) n2) rv
          show (endsAs h.i Dn).rt v H2
          cases h.i <;> exact q
      · subst hb
        exact handle_ok ok hs e p α' H' cls dd σ' nx ev hl
theorem Oks.tr (ok : Oks T X g C W) {W' : WX} {pn : List (Addr × Obj)} {xe : Value → Shared → Prop} (tk : Takes (X.tr pn xe) W') (pa : PassesOwn (model X.prog X.w) X.A X.env xe) : Oks T (X.tr pn xe) g C W' where
  xt := ⟨ok.xt.K, ok.xt.mg, ok.xt.calm, ok.xt.nd, ok.xt.un⟩
  N := ok.N
  sc := ok.sc
  tk := tk
  bl := ok.bl
  gl := ok.gl
  call := fun x id h => by
    obtain ⟨mg, kp, k, fd, ps, hr, F, hb, hkw⟩ := ok.call x id h
    exact ⟨mg, kp, k, fd, ps, hr, F, hb, hkw⟩
  fnn := ok.fnn
  stk := ok.stk
  frm := ok.frm
  pas := pa
  cls := ok.cls
  rse := fun x c h => by
    obtain ⟨h1, h2, h3, h4⟩ := ok.rse x c h
    exact ⟨h1, h2, h3, h4⟩
  sub := ok.sub
  fld := ok.fld
theorem ss_try {bs : List Stmt} {hs : List ExceptHandler} {xs : List St} {cs : List Hd} (ok : Oks T X g C W) (hb : ∀ (W' : WX) (pn : List (Addr × Obj)) (xe : Value → Shared → Prop), Takes (X.tr pn xe) W' → PassesOwn (model X.prog X.w) X.A X.env xe → PSs (X.tr pn xe) bs (sSs T C W' xs))
    (hne : hs ≠ []) (h : cHds g hs = some cs) : PS X (.Try bs hs [] [] pos) (sS T C W (.try_ xs cs)) := by
  cases hs with
  | nil => exact absurd rfl hne
  | cons h0 hs =>
    refine (ps_try_x (tb := fun W' => sSs T C W' xs) ok.stk ok.frm ok.xt.nd ok.tk hb (hd_ok ok h)).imp fun Dn σ H hh => ?_
    obtain ⟨α, S, fr, r, hm, rs, rf, e, p⟩ := hh
    simp only [exec] at e
    cases ex : execs C xs fr S with
    | none => rw [ex] at e; cases e
    | some r0 =>
      rw [ex] at e
      refine ⟨α, S, fr, r0, hm, rs, rf, ex, ?_⟩
      cases r0 with
      | ok fl S' =>
        cases e
        cases fl <;> exact p
      | ex c fs S' =>
        have e : handle C fr.length c fs cs S' = some r := e
        rw [rf.len] at e
        exact fun α' H' cls dd σ' n' ev hl => handle_ok ok cs e p α' H' cls dd σ' n' ev hl
end
end Vm
/-! Vm 28: the IR's run is the text's: all statements. -/
namespace Vm
open PySem L2
theorem Oks.at {T : Tp} {X : Cx} {g : Cfgs} {C : Cg} {W : WX} (ok : Oks T X g C W) (m : Nat) : Oks T X g (C.at m) W :=
  { xt := ok.xt, N := ok.N, sc := ok.sc, tk := ok.tk, bl := ok.bl, gl := ok.gl, call := ok.call, fnn := ok.fnn, stk := ok.stk, frm := ok.frm, pas := ok.pas, cls := ok.cls, rse := ok.rse, sub := ok.sub, fld := ok.fld }
structure Ss (n : Nat) : Prop where
  s : ∀ {T : Tp} {X : Cx} {g : Cfgs} {C : Cg} {W : WX} {s : Stmt} {c : St}, Oks T X g C W → cS g n s = some c → PS X s (sS T C W c)
  b : ∀ {T : Tp} {X : Cx} {g : Cfgs} {C : Cg} {W : WX} {s : List Stmt} {c : List St}, Oks T X g C W → cSs g n s = some c → PSs X s (sSs T C W c)
section
variable {T : Tp} {X : Cx} {g : Cfgs} {C : Cg} {W : WX}
theorem tg1_each {n : Nat} {e : Expr} {t : Tg} {env : Env} (h : cTg (g : Cfgs).toCfg n e = some t) : (assignEach [e] env).map (·.2) = [assign e env] := by
  rw [tg_each h]
  rfl
theorem nm_sws {x : Str} {px : Pos} {e : Expr} {env : Env} : swappedStores [.Name x px] e env = pure none := rfl
theorem slice_sw {e : Expr} {o i : Expr} {p2 : Pos} {l : Nat} {env : Env} : swapsWith e (some (.Subscript o i p2)) l env = pure false := by
  cases e <;> rfl
theorem tup_sws {ts : List Expr} {k : Nat} {pt : Pos} {e : Expr} {env : Env} (h : isTup e = false) : swappedStores [.Tuple ts k pt] e env = pure none := by
  cases e <;> first | rfl | cases h
theorem lc_shape {g : Cfg} {n : Nat} {elt : Expr} {gs : List Comprehension} {sc : Scope} {p : Pos} {c : Ex} (h : cE g n (.ListComp elt gs sc p) = some c) : (∃ tg it ifs, gs = [⟨tg, it, ifs, 0⟩]) ∨ ∃ tg it ifs tg1 it1 ifs1, gs = [⟨tg, it, ifs, 0⟩, ⟨tg1, it1, ifs1, 0⟩] := by
  cases n with
  | zero => simp [cE] at h
  | succ n =>
    unfold cE at h
    split at h
    all_goals first
      | contradiction
      | (rename_i heq; cases heq; exact .inl ⟨_, _, _, rfl⟩)
      | (rename_i heq; cases heq; exact .inr ⟨_, _, _, _, _, _, rfl⟩)
      | (rename_i heq; cases heq; done)
      | cases h
theorem fold_sws {ts : List Expr} {k k2 : Nat} {pt pt2 : Pos} {a b : Expr} {env : Env} (hf : [a, b].all (foldedForSure 8) = true) : swappedStores [.Tuple ts k pt] (.Tuple [a, b] k2 pt2) env = pure none := by
  unfold swappedStores
  simp only [hf, if_true]
  repeat' split
  all_goals rfl
theorem ss_s {n : Nat} (ih : ∀ k, k < n + 1 → Ss k) (ok : Oks T X g C W) {s : Stmt} {c : St} (h : cS g (n + 1) s = some c) : PS X s (sS T C W c) := by
  have ih' := ih n (Nat.lt_succ_self n)
  have E := sd_all n
  unfold cS at h
  split at h
  · cases ‹n + 1 = 0›
  · cases h; exact ss_pass
  · cases h; exact ss_brk
  · cases h; exact ss_cnt
  · cases h; exact ss_doc
  · -- Expr
    rename_i n' e p hne e1
    cases e1
    split at h
    · rename_i hc
      obtain ⟨x, h1, rfl⟩ := Option.map_eq_some_iff.mp h
      exact ss_expr (E.e ok.toOk h1) hc
    · cases h
  · cases h; exact ss_retN
  · rename_i n' e p e1
    cases e1
    obtain ⟨x, h1, rfl⟩ := Option.map_eq_some_iff.mp h
    exact ss_ret (E.e ok.toOk h1)
  · -- If
    rename_i n' t a b p e1
    cases e1
    simp only [Option.bind_eq_some_iff, Option.map_eq_some_iff] at h
    obtain ⟨u, h1, x, h2, y, h3, rfl⟩ := h
    exact ss_if (E.t ok.toOk h1) (ih'.b ok h2) (ih'.b ok h3)
  · -- While
    rename_i n' t b p e1
    cases e1
    simp only [Option.bind_eq_some_iff, Option.map_eq_some_iff] at h
    obtain ⟨u, h1, x, h2, rfl⟩ := h
    exact ss_whl ok.pas (E.t ok.toOk h1) fun m => ih'.b (ok.at m) h2
  · -- For
    rename_i n' tg it b p e1
    cases e1
    simp only [Option.bind_eq_some_iff, Option.map_eq_some_iff] at h
    obtain ⟨t, h1, i, h2, x, h3, rfl⟩ := h
    refine ss_for ok.xt ok.pas (E.i ok.toOk h2) (st_tg ok.xt ok.N ok.sc ok.fnn h1) (fun m => ih'.b (ok.at m) h3) fun x => ?_
    have := cI_ns h2
    cases it <;> first | rfl | cases this
  · -- name = e
    rename_i n' x px e p e1
    cases e1
    split at h
    · rename_i sc hsc
      split at h
      · rename_i hsw
        simp only [Option.bind_eq_some_iff, Option.map_eq_some_iff] at h
        obtain ⟨i, h1, c', h2, rfl⟩ := h
        cases e <;> first | cases hsc | skip
        rename_i elt gs pp
        have hgs := lc_shape h2
        rcases hgs with ⟨tg, it, ifs, rfl⟩ | ⟨tg, it, ifs, tg1, it1, ifs1, rfl⟩
        · exact ss_setLc ok h1 hsw h2
        · exact ss_setLc2 ok h1 hsw h2
      · rename_i hsw
        simp only [Option.bind_eq_some_iff, Option.map_eq_some_iff] at h
        obtain ⟨t, h1, c', h2, rfl⟩ := h
        exact ss_asg (E.e ok.toOk h2) (st_tg ok.xt ok.N ok.sc ok.fnn h1) (show swapsWith e (some (.Name x px)) p.line X.env = pure false from sw_off ok.toOk hsc (Bool.eq_false_iff.mpr hsw) h1) nm_sws (tg1_each h1)
    · split at h
      · rename_i hc
        simp only [Option.bind_eq_some_iff, Option.map_eq_some_iff] at h
        obtain ⟨t, h1, c', h2, rfl⟩ := h
        exact ss_asg (E.e ok.toOk h2) (st_tg ok.xt ok.N ok.sc ok.fnn h1) (show swapsWith e (some (.Name x px)) p.line X.env = pure false from sw_no hc) nm_sws (tg1_each h1)
      · cases h
  · -- o[i] = e
    rename_i n' o i p2 e p e1
    cases e1
    split at h
    · cases h
    · rename_i hns
      simp only [Option.bind_eq_some_iff, Option.map_eq_some_iff] at h
      obtain ⟨v, h1, x, h2, y, h3, rfl⟩ := h
      exact ss_put ok.xt (E.e ok.toOk h1) (E.e ok.toOk h2) (E.e ok.toOk h3) (fun lo hi st p z => hns lo hi st p z) slice_sw
  · -- a, b = c, d
    rename_i n' x px y py k pt a b k2 pt2 p e1
    cases e1
    split at h
    · rename_i hc
      simp only [Bool.and_eq_true, Bool.not_eq_true', bne_iff_ne, ne_eq] at hc
      obtain ⟨⟨⟨⟨⟨g1, g2⟩, g3⟩, g4⟩, g5⟩, g6⟩ := hc
      simp only [Option.bind_eq_some_iff, Option.map_eq_some_iff] at h
      obtain ⟨i, h1, j, h2, u, h3, v, h4, rfl⟩ := h
      exact ss_par (n := n) ok g1 g2 g3 g4 g5 g6 h1 h2 (cE_ns h3) (cE_ns h4) (E.e ok.toOk h3) (E.e ok.toOk h4)
    · split at h
      · rename_i hf
        simp only [Option.bind_eq_some_iff, Option.map_eq_some_iff] at h
        obtain ⟨t, h1, c', h2, rfl⟩ := h
        exact ss_asg (E.e ok.toOk h2) (st_tg ok.xt ok.N ok.sc ok.fnn h1) rfl (fold_sws hf) (tg1_each h1)
      · cases h
  · -- a, b, c = d, e, f
    rename_i n' x px y py z pz k pt a b d k2 pt2 p e1
    cases e1
    split at h
    · rename_i hc
      simp only [Bool.and_eq_true, Bool.not_eq_true', bne_iff_ne, ne_eq] at hc
      obtain ⟨⟨⟨⟨⟨⟨⟨⟨⟨g1, g2⟩, g3⟩, g4⟩, g5⟩, g6⟩, g7⟩, g8⟩, g9⟩, g10⟩ := hc
      simp only [Option.bind_eq_some_iff, Option.map_eq_some_iff] at h
      obtain ⟨i, h1, j, h2, l, h3, u, k1, v, k2, w, k3, rfl⟩ := h
      exact ss_par3 (n := n) ok g1 g2 g3 g4 g5 g6 g7 g8 g9 g10 h1 h2 h3 (cE_ns k1) (cE_ns k2) (cE_ns k3) (E.e ok.toOk k1) (E.e ok.toOk k2) (E.e ok.toOk k3)
    · cases h
  · -- (..) = e
    rename_i n' ts k pt e p hn hn3 e1
    cases e1
    split at h
    · cases h
    · rename_i ht
      obtain ⟨t, h1, h⟩ := Option.bind_eq_some_iff.mp h
      split at h
      · rename_i hc
        obtain ⟨c', h2, rfl⟩ := Option.map_eq_some_iff.mp h
        exact ss_asg (E.e ok.toOk h2) (st_tg ok.xt ok.N ok.sc ok.fnn h1) (show swapsWith e (some (.Tuple ts k pt)) p.line X.env = pure false from sw_no hc) (tup_sws (Bool.eq_false_iff.mpr ht)) (tg1_each h1)
      · cases h
  · -- op=
    rename_i n' x px op e p e1
    cases e1
    split at h
    · rename_i hop
      split at h
      · rename_i i hi
        obtain ⟨c', h2, rfl⟩ := Option.map_eq_some_iff.mp h
        have hop' : op = .Add ∨ op = .Sub := by simpa using hop
        cases n with
        | zero => simp [cTg] at hi
        | succ n =>
          simp only [cTg] at hi
          split at hi
          · rename_i q
            obtain ⟨i', h3, h4⟩ := Option.map_eq_some_iff.mp hi
            cases h4
            exact ss_aug hop' ok.xt (by rw [ok.N]; exact slotN_ok h3) (.inl (ok.sc _ _ q)) (.inr (ok.sc _ _ q)) (E.e ok.toOk h2)
          · rename_i q
            obtain ⟨i', h3, h4⟩ := Option.map_eq_some_iff.mp hi
            cases h4
            exact ss_aug hop' ok.xt (by rw [ok.N]; exact slotN_ok h3) (.inr (ok.sc _ _ q)) (ok.fnn _ q) (E.e ok.toOk h2)
          · cases hi
      · cases h
    · cases h
  · -- raise
    rename_i n' x px a p p2 e1
    cases e1
    split at h
    · rename_i hx
      simp only [Option.bind_eq_some_iff, Option.map_eq_some_iff] at h
      obtain ⟨c', h1, u, h2, rfl⟩ := h
      exact ss_rse ok (ok.rse x c' h1) hx.1 hx.2 (cE_ns h2) (E.e ok.toOk h2) _
    · cases h
  · -- try
    rename_i n' b hs p e1
    cases e1
    split at h
    · cases h
    · rename_i hne
      simp only [Option.bind_eq_some_iff, Option.map_eq_some_iff] at h
      obtain ⟨x, h1, y, h2, rfl⟩ := h
      exact ss_try ok (fun W' pn xe tk pa => ih'.b (ok.tr tk pa) h1) (fun z => hne (by subst z; rfl)) h2
  · cases h
theorem ss_b {n : Nat} (ih : ∀ k, k < n + 1 → Ss k) (ok : Oks T X g C W) {s : List Stmt} {c : List St} (h : cSs g (n + 1) s = some c) : PSs X s (sSs T C W c) := by
  have ih' := ih n (Nat.lt_succ_self n)
  cases s with
  | nil => simp only [cSs, Option.some.injEq] at h; subst h; exact sss_nil
  | cons s r =>
    simp only [cSs, Option.bind_eq_some_iff, Option.map_eq_some_iff] at h
    obtain ⟨x, h1, y, h2, rfl⟩ := h
    exact sss_cons (ih'.s ok h1) (ih'.b ok h2)
theorem ss_all (n : Nat) : Ss n := by
  induction n using Nat.strongRecOn with
  | ind n ih =>
    cases n with
    | zero => exact ⟨fun _ h => by simp [cS] at h, fun _ h => by simp [cSs] at h⟩
    | succ n => exact ⟨fun ok h => ss_s ih ok h, fun ok h => ss_b ih ok h⟩
end
end Vm
/-! Vm 29: defs; the law. -/
namespace Vm
open PySem L2
structure Fdef where
  x : Str
  st : Stmt
  N : List Str
  ps : List Str
/-- the translator's setting for one def -/
def cfgOf (G : Cfgs) (d : Fdef) : Cfgs := { G with sc := defScope d.st, N := d.N }
/-- a class that is raised, told of the written part -/
structure ClsW (P : Program) (w : World) (base : Heap) (T : Tp) (x : Str) (c : Nat) : Prop where
  mg : T.mg x = some (.ref (T.ca c))
  oex : OexC T.K (T.ca c)
  xf : XfC T.K (T.ca c)
  ini : ∃ (f : Str) (fI : Addr) (fd : FuncData), T.cf c = [f] ∧ PySem.W.findIn T.K (.ref (T.ca c)) "__init__" = some (some (.ref fI)) ∧ PySem.W.typeIn T.K (.ref fI) = some (.type "function") ∧
    FnOk P w T.K T.mg base (L2.CX P w) 1 fI fd ["self", f] (spI T.K (T.ca c) f) ∧ Binds T.K fd ["self", f] [] ∧ PySem.W.findIn T.K (.ref (T.ca c)) f = some none
structure DefOk (T : Tp) (P : Pg) (G : Cfgs) (id : Nat) (d : Fdef) : Prop where
  mg : T.mg d.x = some (.ref (T.fa id))
  kp : PySem.W.keepIn T.K (.ref (T.fa id)) = true
  fn : ∃ fd, Fun T.K d.x d.x d.st (T.fa id) fd ∧ Binds T.K fd d.ps [] ∧
    ∀ ks pm, G.kw id ks = some pm → pm.length = d.ps.length ∧ (∀ i ∈ pm, i < ks.length) ∧ ∀ (s : Shared) (ws : List Value), T.K.In s.heap → ws.length = ks.length → BindsTo s fd ⟨[], ks.zip ws⟩ (d.ps.zip (pm.map fun i => ws.getD i .none))
  sc : FnScope d.N d.ps (defScope d.st)
  body : ∃ n b, cSs (cfgOf G d) n (defBody d.st) = some b ∧ P.fd id = some ⟨d.ps.length, d.N.length, b⟩
structure Wd (prog : Program) (w : World) (base : Heap) (T : Tp) (P : Pg) (G : Cfgs) (fdef : Nat → Option Fdef) : Prop where
  bl : ∀ x ∈ blNames, T.mg x = none
  gl : ∀ x d, G.gl x = true → P.glb x = some d → ∃ u, T.mg x = some u ∧ GlV T w d u
  cls : ∀ x c, G.cl x = some c → T.mg x = some (.ref (T.ca c))
  rse : ∀ x c, G.rs x = some c → ClsW prog w base T x c
  sub : ∀ c c' b, P.sub c c' = some b → PySem.W.exmOne T.K (.ref (T.ca c)) (.ref (T.ca c')) = some b ∧ (b = true → PySem.W.kitOne T.K (.ref (T.ca c)) (.ref (T.ca c')) = some true)
  fld : ∀ c f, P.cf c = [f] → T.cf c = [f] ∧ XfC T.K (T.ca c) ∧ PySem.W.findIn T.K (.ref (T.ca c)) f = some none
  fn : ∀ x id, G.fn x = some id → ∃ d, fdef id = some d ∧ d.x = x
  ok : ∀ id d, fdef id = some d → DefOk T P G id d
section
variable {prog : Program} {w : World} {base : Heap} {T : Tp} {P : Pg} {G : Cfgs} {fdef : Nat → Option Fdef}
theorem scK_refl (sc : Scope) : ∀ x k, sc.names.lookup x = some k → ScK sc x k := fun x k h => by
  cases k with
  | «local» => exact h
  | cell => exact h
  | globalImplicit => exact h
  | globalExplicit => trivial
  | free => exact .inr h
theorem rf_start {α : List Addr} {H : Hp} {ds : List D} {vs : List V} {N : List Str} (r : RVs T α H ds vs) : RF T α H (startF N.length ds) (L2.start N vs) := by
  have hl := RVs_len r
  refine ⟨by simp [startF, L2.start, hl], fun i d h => ?_⟩
  unfold startF getFr at h
  unfold L2.start
  by_cases hi : i < ds.length
  · rw [List.getElem?_append_left (by simpa using hi), List.getElem?_map] at h
    rw [List.getElem?_append_left (by rw [List.length_map, ← hl]; exact hi), List.getElem?_map]
    cases e : ds[i]? with
    | none => rw [e] at h; cases h
    | some x =>
      rw [e] at h
      cases h
      obtain ⟨v, h1, h2⟩ := RVs_get r e
      exact ⟨v, by rw [h1]; rfl, h2⟩
  · rw [List.getElem?_append_right (by simpa using hi), List.getElem?_replicate] at h
    split at h <;> cases h
theorem fn_all (wd : Wd prog w base T P G fdef) : ∀ (k : Nat) (id : Nat) (d : Fdef) (fd : FuncData), fdef id = some d → Fun T.K d.x d.x d.st (T.fa id) fd → FnOk prog w T.K T.mg base (L2.CX prog w) (k + 2) (T.fa id) fd d.ps (spV T (callR P k) id)
  | 0, id, d, fd, hd, F => by
    have no : ∀ vs H Q E, ¬ spV T (callR P 0) id vs H Q E := fun vs H Q E h => by
      obtain ⟨no, α, S, ds, r, _, _, e, _⟩ := h
      cases e
    exact ⟨fun vs H Q E h => (no vs H Q E h).elim, fun A outer s H args us vs Q E _ _ _ _ h => (no vs H Q E h).elim⟩
  | k + 1, id, d, fd, hd, F => by
    have dk := wd.ok id d hd
    obtain ⟨n, b, hc, hP⟩ := dk.body
    refine F.okX dk.sc (fun vs H Q E h => ?_) (fun cdv A outer s H vs Q E hr h => ?_)
    · obtain ⟨no, α, S, ds, r, _, rd, e, _⟩ := h
      simp only [callR, hP] at e
      split at e
      · rename_i hl
        rw [← RVs_len rd]; exact hl
      · cases e
    · obtain ⟨no, α, S, ds, r, rs, rd, e, p⟩ := h
      simp only [callR, hP] at e
      split at e
      rotate_left
      · cases e
      rename_i hl
      generalize hX : cxOf (L2.CX prog w) prog w T.K T.mg base d.N d.x (defScope d.st) (T.fa id) cdv A outer s H E = X
      have okk : Oks (T.wn no) X (cfgOf G d) ⟨⟨callR P k, P.glb, S.length, P.wh⟩, P.sub, P.cf⟩ (fun cls dd _ H' => E cls dd H') := by
        subst hX
        exact {
          xt := ⟨rfl, rfl, rfl, dk.sc.nd, by have := hr.un; show (A.deeper _).units + 199 < cLine; omega⟩
          N := rfl
          sc := scK_refl _
          tk := takes_of rfl rfl rfl rfl
          bl := wd.bl
          gl := wd.gl
          call := fun x id' hx => by
            obtain ⟨d', h1, h2⟩ := wd.fn x id' hx
            have dk' := wd.ok id' d' h1
            obtain ⟨fd', F', B', K'⟩ := dk'.fn
            exact ⟨by rw [← h2]; exact dk'.mg, dk'.kp, k + 2, fd', d'.ps, hr, fn_all wd k id' d' fd' h1 F', B', K'⟩
          fnn := fun _ _ => .inl rfl
          stk := rfl
          frm := rfl
          pas := passes_of rfl
          cls := wd.cls
          rse := fun x c hx => by
            obtain ⟨h1, h2, h3, f, fI, fd', h4, h5, h6, h7, h8, h9⟩ := wd.rse x c hx
            exact ⟨h1, h2, h3, f, fI, 1, fd', h4, h5, h6, h7, hr.mono (by omega), h8, h9⟩
          sub := wd.sub
          fld := wd.fld }
      refine ⟨_, (ss_all n).b okk hc, ?_⟩
      cases ex : execs ⟨⟨callR P k, P.glb, S.length, P.wh⟩, P.sub, P.cf⟩ b (startF d.N.length ds) S with
      | none => rw [ex] at e; cases e
      | some r1 =>
        rw [ex] at e
        refine ⟨α, S, _, r1, Nat.le_refl _, rs, rf_start rd, ex, ?_⟩
        cases r1 with
        | ok fl S' =>
          cases fl with
          | nx fr' =>
            cases e
            exact fun α' H' σ' n' _ _ => p α' H' .non n' (by show RV _ _ _ _ _; rw [RV])
          | ret d' =>
            cases e
            exact fun α' H' v n' rv => p α' H' v n' rv
          | bk fr' => cases e
          | ct fr' => cases e
        | ex c fs S' =>
          cases e
          exact fun α' H' cls dd σ' n' ev _ => p α' H' cls dd n' ev
/-- the law's promise -/
theorem law_sp {k id : Nat} {ns : List Int} {S' : Store} (hno : T.no = []) (h : callR P k id [.scr ns] [] = some (.ok (.bl true) S')) {H : Hp} {a : Addr} (hS : SqL T.K H a (ns.map V.int)) :
    spV T (callR P k) id [.ref a] H (fun v _ => v = .bl true) (fun _ _ _ => False) := by
  refine ⟨[], [], [], [.scr ns], _, ⟨rfl, List.nodup_nil, fun n a d h => by simp at h, fun a ha => by cases ha⟩, RVs_cons ?_ RVs_nil, h, fun α' H' v _ rv => ?_⟩
  · rw [RV]
    refine ⟨a, rfl, ?_⟩
    rcases hS with hS | hS
    · exact .inl ⟨hS, by simp, by simp⟩
    · exact .inr hS
  · have rv : RV _ _ _ (.bl true) v := rv
    rw [RV] at rv
    exact rv
end
end Vm
/-! Vm 30: a law's end: what the top has written, and the run. -/
namespace Vm
open PySem L2
/-- where a name leads -/
def refAt (K : PySem.W.Frag) (x : Str) : Addr := match PySem.W.nsIn K mainGlobals x with
  | some (some (.ref f)) => f
  | _ => 0
theorem refAt_ok {K : PySem.W.Frag} {x : Str} {f : Addr} (h : PySem.W.nsIn K mainGlobals x = some (some (.ref f))) : refAt K x = f := by unfold refAt; rw [h]
/-- a def as the top has written it -/
abbrev DefW (K : PySem.W.Frag) (x : Str) (st : Stmt) : Prop :=
  ∃ (f : Addr) (oc : Value) (od an : Option Addr) (osl : Array (Option Value)) (kV doc pm cdv ct : Value), PySem.W.nsIn K mainGlobals x = some (some (.ref f)) ∧
    K.lookup f = some ⟨oc, od, .func (PySem.W.fnOf x x (defArgs st) (defBody st) (defScope st) .none kV doc pm an cdv ct), osl⟩ ∧ PySem.W.codeIn K cdv x = true ∧ PySem.W.keepIn K (.ref f) = true
/-- what hangs on a def's text alone -/
structure DefS (P : Pg) (G : Cfgs) (id : Nat) (d : Fdef) : Prop where
  sc : FnScope d.N d.ps (defScope d.st)
  bind : ∀ (kV doc pm : Value) (an : Option Addr) (cdv ct : Value) (us : List Value), us.length = d.ps.length → bindArgs (PySem.W.fnOf d.x d.x (defArgs d.st) (defBody d.st) (defScope d.st) .none kV doc pm an cdv ct) ⟨us, []⟩ = pure (d.ps.zip us)
  kw : ∀ ks pm, G.kw id ks = some pm → pm.length = d.ps.length ∧ (∀ i ∈ pm, i < ks.length) ∧ ∀ (kV doc pm' : Value) (an : Option Addr) (cdv ct : Value) (s : Shared) (ws : List Value), ws.length = ks.length →
    BindsTo s (PySem.W.fnOf d.x d.x (defArgs d.st) (defBody d.st) (defScope d.st) .none kV doc pm' an cdv ct) ⟨[], ks.zip ws⟩ (d.ps.zip (pm.map fun i => ws.getD i .none))
  body : ∃ n b, cSs (cfgOf G d) n (defBody d.st) = some b ∧ P.fd id = some ⟨d.ps.length, d.N.length, b⟩
/-- an own class of errors with one field, as the top has written it (sI: its __init__) -/
abbrev ErrW (K : PySem.W.Frag) (x q f : Str) (sI : Stmt) : Prop :=
  ∃ (C fI : Addr) (oc : Value) (od an : Option Addr) (osl : Array (Option Value)) (kV doc pm cdv ct : Value), PySem.W.nsIn K mainGlobals x = some (some (.ref C)) ∧ OexC K C ∧ XfC K C ∧ PySem.W.findIn K (.ref C) "__init__" = some (some (.ref fI)) ∧
    PySem.W.typeIn K (.ref fI) = some (.type "function") ∧ K.lookup fI = some ⟨oc, od, .func (PySem.W.fnOf "__init__" q (defArgs sI) (defBody sI) (defScope sI) .none kV doc pm an cdv ct), osl⟩ ∧ PySem.W.codeIn K cdv q = true ∧ PySem.W.keepIn K (.ref fI) = true ∧
    PySem.W.findIn K (.ref C) f = some none
/-- .. and its text -/
structure ErrS (f q : Str) (sI : Stmt) : Prop where
  body : initB f (defBody sI)
  sc : FnScope ["self", f] ["self", f] (defScope sI)
  h0 : (defScope sI).names.lookup ("self" : Str) = some .local
  h1 : (defScope sI).names.lookup f = some .local
  hd : (f == ("__debug__" : Str)) = false
  hc : (f == ("__classdict__" : Str)) = false
  bind : ∀ (kV doc pm : Value) (an : Option Addr) (cdv ct : Value) (us : List Value), us.length = 2 → bindArgs (PySem.W.fnOf "__init__" q (defArgs sI) (defBody sI) (defScope sI) .none kV doc pm an cdv ct) ⟨us, []⟩ = pure ((["self", f] : List Str).zip us)
/-- one class below another -/
abbrev SubW (K : PySem.W.Frag) (x y : Str) (b : Bool) : Prop :=
  ∃ C D : Addr, PySem.W.nsIn K mainGlobals x = some (some (.ref C)) ∧ PySem.W.nsIn K mainGlobals y = some (some (.ref D)) ∧ PySem.W.subIn K (.ref D) (.type "BaseException") = some true ∧ PySem.W.isClsIn K D = true ∧ PySem.W.typeIn K (.ref D) = some (.type "type") ∧ PySem.W.subIn K (.ref C) (.ref D) = some b
theorem SubW.ok {K : PySem.W.Frag} {x y : Str} {b : Bool} (h : SubW K x y b) : PySem.W.exmOne K (.ref (refAt K x)) (.ref (refAt K y)) = some b ∧ (b = true → PySem.W.kitOne K (.ref (refAt K x)) (.ref (refAt K y)) = some true) := by
  obtain ⟨C, D, h1, h2, h3, h4, h5, h6⟩ := h
  rw [refAt_ok h1, refAt_ok h2]
  have e1 : (PySem.W.subIn K (.ref D) (.type "BaseException") == some true) = true := by rw [h3] <;> rfl
  have e2 : ((PySem.W.clsIn K D).isSome && PySem.W.typeIn K (.ref D) == some (.type "type")) = true := by
    have h2' : (PySem.W.clsIn K D).isSome = true := h4
    rw [h2', h5] <;> rfl
  refine ⟨?_, fun hb => ?_⟩
  · show (if (PySem.W.subIn K (.ref D) (.type "BaseException") == some true) = true then (if ((PySem.W.clsIn K D).isSome && PySem.W.typeIn K (.ref D) == some (.type "type")) = true then PySem.W.subIn K (.ref C) (.ref D) else none) else none) = some b
    rw [if_pos e1, if_pos e2]
    exact h6
  · subst hb
    unfold PySem.W.kitOne
    split
    · rfl
    · unfold PySem.W.kitCls
      simp only
      rw [if_pos e2]
      exact h6
/-- a name of the module that holds a constant -/
abbrev GlbW (w : World) (K : PySem.W.Frag) (x : Str) (d : D) : Prop := ∃ u, PySem.W.nsIn K mainGlobals x = some (some u) ∧ ∀ (T : Tp), T.K = K → GlV T w d u
theorem glb_int {w : World} {K : PySem.W.Frag} {x : Str} {i : Int} {t : Tok} (h : PySem.W.nsIn K mainGlobals x = some (some (.int i t))) : GlbW w K x (.int i) := ⟨_, h, fun _ _ => ⟨.int i, ⟨t, rfl⟩, fun _ _ _ => by rw [RV]⟩⟩
theorem glb_str {w : World} {K : PySem.W.Frag} {x : Str} {i : Str} {t : Tok} (h : PySem.W.nsIn K mainGlobals x = some (some (.str i t))) : GlbW w K x (.str i) := ⟨_, h, fun _ _ => ⟨.str i, ⟨t, rfl⟩, fun _ _ _ => by rw [RV]⟩⟩
/-- flat values -/
def flatV : D → Value → Bool
  | .non, .none => true
  | .bl a, .bool b => a == b
  | .int i, .int j _ => i == j
  | .str x, .str y _ => x == y
  | _, _ => false
theorem flatV_ok {d : D} {u : Value} (h : flatV d u = true) : ∃ v, RelV v u ∧ ∀ T α H, RV T α H d v := by
  cases d <;> cases u <;> simp only [flatV, Bool.false_eq_true, beq_iff_eq, reduceCtorEq] at h
  · exact ⟨.non, rfl, fun _ _ _ => by rw [RV]⟩
  · subst h; exact ⟨.bl _, rfl, fun _ _ _ => by rw [RV]⟩
  · subst h; exact ⟨.int _, ⟨_, rfl⟩, fun _ _ _ => by rw [RV]⟩
  · subst h; exact ⟨.str _, ⟨_, rfl⟩, fun _ _ _ => by rw [RV]⟩
def flatVs : List D → List Value → Bool
  | [], [] => true
  | d :: ds, u :: us => flatV d u && flatVs ds us
  | _, _ => false
theorem flatVs_ok : ∀ {ds : List D} {us : List Value}, flatVs ds us = true → ∃ vs, Vals vs us ∧ ∀ T α H, RVs T α H ds vs
  | [], [], _ => ⟨[], .nil, fun _ _ _ => RVs_nil⟩
  | d :: ds, u :: us, h => by
    simp only [flatVs, Bool.and_eq_true] at h
    obtain ⟨v, h1, h2⟩ := flatV_ok h.1
    obtain ⟨vs, h3, h4⟩ := flatVs_ok h.2
    exact ⟨v :: vs, .cons h1 h3, fun T α H => RVs_cons (h2 T α H) (h4 T α H)⟩
  | [], _ :: _, h => by simp [flatVs] at h
  | _ :: _, [], h => by simp [flatVs] at h
theorem glb_tup {w : World} {K : PySem.W.Frag} {x : Str} {a : Addr} {ds : List D} {od : Option Addr} {its : Array Value} {n : Nat} {sl : Array (Option Value)} (h : PySem.W.nsIn K mainGlobals x = some (some (.ref a))) (hl : K.lookup a = some ⟨.type "tuple", od, .seq its n, sl⟩) (hz : its.size ≤ 1000) (hv : flatVs ds its.toList = true) : GlbW w K x (.tup ds) := by
  obtain ⟨vs, h1, h2⟩ := flatVs_ok hv
  refine ⟨_, h, fun T e => ⟨.ref a, rfl, fun no α H => ?_⟩⟩
  rw [RV]
  refine ⟨a, vs, rfl, .inr ⟨_, its, n, by rw [show (T.wn no).K = T.K from rfl, e]; exact hl, rfl, rfl, ?_, h1⟩, h2 _ α H⟩
  have e : sizeLine = 16777216 := sizeLine_eq
  omega
/-- a dict of the module: its keys are texts, its values flat -/
theorem glb_dct {w : World} {K : PySem.W.Frag} {x : Str} {a : Addr} {ks vs : List D} {es : Array DictEntry} {n : Nat} (h : PySem.W.nsIn K mainGlobals x = some (some (.ref a))) (hl : K.lookup a = some ⟨.type "dict", none, .dict es n, #[]⟩) (hk : PySem.W.KeysLit w.params es.toList) (hm : (a == sysModules) = false)
    (hd : dkeys ks es.toList = true) (hv : flatVs vs (es.toList.map (·.val)) = true) : GlbW w K x (.dct ks vs) := by
  obtain ⟨ws, h1, h2⟩ := flatVs_ok hv
  refine ⟨_, h, fun T e => ⟨a, es, n, ws, rfl, ⟨by rw [e]; exact hl, hk, hm⟩, hd, h1, fun no α H => h2 _ α H⟩⟩
/-- a law's table -/
structure Tab where
  P : Pg
  G : Cfgs
  fdefs : List Fdef
  /-- the classes of errors: name, the name of its __init__, its field, its __init__ (those without a field: none) -/
  cls : List (Str × Option (Str × Str × Stmt))
  glb : List (Str × D)
  subs : List (Nat × Nat × Bool)
def Tab.tp (t : Tab) (K : PySem.W.Frag) (mg : Str → Option Value) : Tp where
  K := K
  mg := mg
  fa := fun i => match t.fdefs[i]? with
    | some d => refAt K d.x
    | none => 0
  ca := fun c => match t.cls[c]? with
    | some q => refAt K q.1
    | none => 0
  cf := t.P.cf
/-- what hangs on the text alone -/
structure Tab.Ok (t : Tab) : Prop where
  defs : ∀ id d, t.fdefs[id]? = some d → DefS t.P t.G id d
  fn : ∀ x id, t.G.fn x = some id → ∃ d, t.fdefs[id]? = some d ∧ d.x = x
  gl : ∀ x d, t.P.glb x = some d → (x, d) ∈ t.glb
  cl : ∀ x c, t.G.cl x = some c → ∃ q, t.cls[c]? = some (x, q)
  rs : ∀ x c, t.G.rs x = some c → ∃ i f s, t.cls[c]? = some (x, some (i, f, s)) ∧ ErrS f i s ∧ t.P.cf c = [f]
  sub : ∀ c c' b, t.P.sub c c' = some b → (c, c', b) ∈ t.subs
  cf : ∀ c f, t.P.cf c = [f] → ∃ x i s, t.cls[c]? = some (x, some (i, f, s))
/-- what the top has written -/
structure Tab.W (t : Tab) (w : World) (K : PySem.W.Frag) : Prop where
  defs : ∀ d ∈ t.fdefs, DefW K d.x d.st
  bl : ∀ x ∈ blNames, PySem.W.nsIn K mainGlobals x = some none
  glb : ∀ q ∈ t.glb, GlbW w K q.1 q.2
  cls : ∀ q ∈ t.cls, ∃ C, PySem.W.nsIn K mainGlobals q.1 = some (some (.ref C))
  err : ∀ q ∈ t.cls, ∀ r, q.2 = some r → ErrW K q.1 r.1 r.2.1 r.2.2
  sub : ∀ q ∈ t.subs, ∀ x y, t.cls[q.1]? = some x → t.cls[q.2.1]? = some y → SubW K x.1 y.1 q.2.2
  subL : ∀ q ∈ t.subs, q.1 < t.cls.length ∧ q.2.1 < t.cls.length
section
variable {t : Tab} {prog : Program} {w : World} {K : PySem.W.Frag} {mg : Str → Option Value} {h base : Heap}
theorem tp_fa {id : Nat} {d : Fdef} (hd : t.fdefs[id]? = some d) : (t.tp K mg).fa id = refAt K d.x := by
  show (match t.fdefs[id]? with | some d => refAt K d.x | none => 0) = _
  rw [hd]
theorem tp_ca {c : Nat} {q : Str × Option (Str × Str × Stmt)} (hd : t.cls[c]? = some q) : (t.tp K mg).ca c = refAt K q.1 := by
  show (match t.cls[c]? with | some d => refAt K d.1 | none => 0) = _
  rw [hd]
theorem wd_of (ok : t.Ok) (W : t.W w K) (X : K.In h) (G : h.Ns mainGlobals mg) : Wd prog w base (t.tp K mg) t.P t.G fun id => t.fdefs[id]? where
  bl := fun x hx => PySem.W.mg_none_of X G (W.bl x hx)
  gl := fun x d _ h => by
    obtain ⟨u, h1, h2⟩ := W.glb _ (ok.gl x d h)
    exact ⟨u, PySem.W.mg_of X G h1, h2 _ rfl⟩
  cls := fun x c hx => by
    obtain ⟨q, h1⟩ := ok.cl x c hx
    obtain ⟨C, h2⟩ := W.cls _ (List.mem_of_getElem? h1)
    rw [tp_ca h1, refAt_ok h2]
    exact PySem.W.mg_of X G h2
  rse := fun x c hx => by
    obtain ⟨i, f, s, h1, hS, hcf⟩ := ok.rs x c hx
    obtain ⟨C, fI, oc, od, an, osl, kV, doc, pm, cdv, ct, g1, g2, g3, g4, g5, g6, g7, g8, g9⟩ := W.err _ (List.mem_of_getElem? h1) _ rfl
    have ec : (t.tp K mg).ca c = C := by rw [tp_ca h1]; exact refAt_ok g1
    have F : Fun K "__init__" i s fI _ := fun_mk (st := s) g6 g7 g8
    refine ⟨by rw [ec]; exact PySem.W.mg_of X G g1, by rw [ec]; exact g2, by rw [ec]; exact g3, f, fI, _, hcf, by rw [ec]; exact g4, g5, ?_, F.binds (ps := ["self", f]) fun kV doc pm an cdv ct us hl => hS.bind kV doc pm an cdv ct us hl, by rw [ec]; exact g9⟩
    rw [ec]
    exact ok_init F hS.body hS.sc hS.h0 hS.h1 hS.hd hS.hc
  sub := fun c c' b hs => by
    have hm := ok.sub c c' b hs
    obtain ⟨l1, l2⟩ := W.subL _ hm
    have s := W.sub _ hm t.cls[c] t.cls[c'] (by simp [l1]) (by simp [l2])
    rw [tp_ca (c := c) (q := t.cls[c]) (by simp [l1]), tp_ca (c := c') (q := t.cls[c']) (by simp [l2])]
    exact s.ok
  fld := fun c f hc => by
    obtain ⟨x, i, s, h1⟩ := ok.cf c f hc
    obtain ⟨C, fI, oc, od, an, osl, kV, doc, pm, cdv, ct, g1, g2, g3, g4, g5, g6, g7, g8, g9⟩ := W.err _ (List.mem_of_getElem? h1) _ rfl
    rw [tp_ca h1, refAt_ok g1]
    exact ⟨hc, g3, g9⟩
  fn := ok.fn
  ok := fun id d hd => by
    have hS := ok.defs id d hd
    obtain ⟨f, oc, od, an, osl, kV, doc, pm, cdv, ct, g1, g2, g3, g4⟩ := W.defs d (List.mem_of_getElem? hd)
    have ef : (t.tp K mg).fa id = f := by rw [tp_fa hd]; exact refAt_ok g1
    have F : Fun K d.x d.x d.st f _ := fun_mk (st := d.st) g2 g3 g4
    refine ⟨by rw [ef]; exact PySem.W.mg_of X G g1, by rw [ef]; exact g4, ⟨_, by rw [ef]; exact F, F.binds fun kV doc pm an cdv ct us hl => hS.bind kV doc pm an cdv ct us hl, fun ks pm' hk => ?_⟩, hS.sc, hS.body⟩
    obtain ⟨q1, q2, q3⟩ := hS.kw ks pm' hk
    exact ⟨q1, q2, fun s ws _ hl => q3 kV doc pm an cdv ct s ws hl⟩
/-- what the law's head wants -/
theorem law_end {k id : Nat} {d : Fdef} {fa : Addr} (ok : t.Ok) (W : t.W w K) (X : K.In h) (G : h.Ns mainGlobals mg) (hd : t.fdefs[id]? = some d) (hx : mg d.x = some (.ref fa)) {x : Str} (hps : d.ps = [x]) :
    ∃ fd : FuncData, (∀ (s : Shared) (v : Value), BindsTo s fd ⟨[v], []⟩ [(x, v)]) ∧ ∀ base : Heap, K.In base → base.Ns mainGlobals mg → FnOk prog w K mg base (L2.CX prog w) (k + 2) fa fd [x] (spV (t.tp K mg) (callR t.P k) id) := by
  have hS := ok.defs id d hd
  obtain ⟨f, oc, od, an, osl, kV, doc, pm, cdv, ct, g1, g2, g3, g4⟩ := W.defs d (List.mem_of_getElem? hd)
  have ee : f = fa := by
    have e := hx.symm.trans (PySem.W.mg_of X G g1)
    cases e
    rfl
  subst ee
  have ef : (t.tp K mg).fa id = f := by rw [tp_fa hd]; exact refAt_ok g1
  have F : Fun K d.x d.x d.st f _ := fun_mk (st := d.st) g2 g3 g4
  refine ⟨_, fun s v => .of_eq (hps ▸ hS.bind kV doc pm an cdv ct [v] (by rw [hps]; rfl)), fun base _ _ => ?_⟩
  have q := fn_all (prog := prog) (w := w) (base := base) (wd_of ok W X G) k id d _ hd (by rw [ef]; exact F)
  rw [ef, hps] at q
  exact q
end
end Vm
/-! Vm 31: the walk of a law. -/
namespace Vm
open PySem L2
theorem dw_mk {K : PySem.W.Frag} {x : Str} {st : Stmt} {f : Addr} {oc : Value} {od an : Option Addr} {osl : Array (Option Value)} {kV doc pm cdv ct : Value} (a : PySem.W.nsIn K mainGlobals x = some (some (.ref f)))
    (l : K.lookup f = some ⟨oc, od, .func (PySem.W.fnOf x x (defArgs st) (defBody st) (defScope st) .none kV doc pm an cdv ct), osl⟩) (c : PySem.W.codeIn K cdv x = true) (k : PySem.W.keepIn K (.ref f) = true) : DefW K x st := ⟨f, oc, od, an, osl, kV, doc, pm, cdv, ct, a, l, c, k⟩
theorem cw_mk {K : PySem.W.Frag} {x : Str} {C : Addr} (a : PySem.W.nsIn K mainGlobals x = some (some (.ref C))) : ∃ C, PySem.W.nsIn K mainGlobals x = some (some (.ref C)) := ⟨C, a⟩
theorem sw_mk {K : PySem.W.Frag} {x y : Str} {b : Bool} {C D : Addr} (h1 : PySem.W.nsIn K mainGlobals x = some (some (.ref C))) (h2 : PySem.W.nsIn K mainGlobals y = some (some (.ref D))) (h3 : PySem.W.subIn K (.ref D) (.type "BaseException") = some true) (h4 : PySem.W.isClsIn K D = true)
    (h5 : PySem.W.typeIn K (.ref D) = some (.type "type")) (h6 : PySem.W.subIn K (.ref C) (.ref D) = some b) : SubW K x y b := ⟨C, D, h1, h2, h3, h4, h5, h6⟩
theorem ew_mk {K : PySem.W.Frag} {x q f : Str} {sI : Stmt} {C fI : Addr} {oc : Value} {od an : Option Addr} {osl : Array (Option Value)} {kV doc pm cdv ct : Value} {nm qn : Str} {N : Addr} {bs bm : List Value} {sn : List Str} {sub : List Value} {ab : Bool} {col : Option Bool} {dd : Option Addr} {k0 k1 k2 k3 k5 : Option Value}
    (n : PySem.W.nsIn K mainGlobals x = some (some (.ref C))) (xL : K.lookup C = some (PySem.excClassObj nm qn C N bs bm true sn sub ab col dd k0 k1 k2 k3 k5 "ValueError.__new__")) (rf : PySem.HandSPX.refsVE bm = true)
    (sa : PySem.W.findIn K (.ref C) "__setattr__" = some (some (.builtin "object.__setattr__"))) (ex : PySem.W.subIn K (.ref C) (.type "BaseException") = some true) (ty : PySem.W.typeIn K (.ref C) = some (.type "type")) (kc : PySem.W.keepIn K (.ref C) = true)
    (ga : PySem.W.findIn K (.ref C) "__getattribute__" = some (some (.builtin "BaseException.__getattribute__"))) (gg : PySem.W.findIn K (.ref C) "__getattr__" = some none) (hd : PySem.W.hasDictIn K C = true) (ic : PySem.W.findIn K (.ref C) "__init__" = some (some (.ref fI)))
    (ti : PySem.W.typeIn K (.ref fI) = some (.type "function")) (l : K.lookup fI = some ⟨oc, od, .func (PySem.W.fnOf "__init__" q (defArgs sI) (defBody sI) (defScope sI) .none kV doc pm an cdv ct), osl⟩) (c : PySem.W.codeIn K cdv q = true) (k : PySem.W.keepIn K (.ref fI) = true)
    (no : PySem.W.findIn K (.ref C) f = some none) : ErrW K x q f sI :=
  ⟨C, fI, oc, od, an, osl, kV, doc, pm, cdv, ct, n, ⟨⟨nm, qn, N, bs, bm, sn, sub, ab, col, dd, k0, k1, k2, k3, k5, xL, rf⟩, sa, ex, ty, kc⟩, ⟨ga, gg, ex, hd⟩, ic, ti, l, c, k, no⟩
theorem lk_mem {α β : Type} [BEq α] [LawfulBEq α] {a : α} {b : β} : ∀ {l : List (α × β)}, l.lookup a = some b → (a, b) ∈ l
  | [], h => by simp at h
  | (x, y) :: l, h => by
    rw [List.lookup_cons] at h
    split at h
    · rename_i e
      cases h
      rw [beq_iff_eq.mp e]
      exact List.mem_cons_self
    · exact List.mem_cons_of_mem _ (lk_mem h)
/-- the law's promise: at each script that C tells of, True -/
def spLw (K : PySem.W.Frag) (C : List Int → Prop) : Sp := fun vs H Q _ => ∃ (a : Addr) (ns : List Int), vs = [.ref a] ∧ SqL K H a (ns.map V.int) ∧ C ns ∧ ∀ H', Q (.bl true) H'
def Small (ns : List Int) : Prop := ns.length ≤ 63 ∧ ∀ z ∈ ns, Builtin.Int.intBits z ≤ 1048576
section
variable {t : Tab}
theorem law_fn {prog : Program} {w : World} {K : PySem.W.Frag} {mg : Str → Option Value} {h : Heap} {k id : Nat} {d : Fdef} {fa : Addr} {C : List Int → Prop} (ok : t.Ok) (W : t.W w K) (X : K.In h) (G : h.Ns mainGlobals mg) (hd : t.fdefs[id]? = some d) (hx : mg d.x = some (.ref fa)) {x : Str} (hps : d.ps = [x])
    (plain : ∀ ns, C ns → ∃ S', callR t.P k id [.scr ns] [] = some (.ok (.bl true) S')) :
    ∃ fd : FuncData, (∀ (s : Shared) (v : Value), BindsTo s fd ⟨[v], []⟩ [(x, v)]) ∧ ∀ base : Heap, K.In base → base.Ns mainGlobals mg → FnOk prog w K mg base (L2.CX prog w) (k + 2) fa fd [x] (spLw K C) := by
  obtain ⟨fd, h1, h2⟩ := law_end (prog := prog) (w := w) (k := k) ok W X G hd hx hps
  refine ⟨fd, h1, fun base hb hn => (h2 base hb hn).imp fun vs H Q E ⟨a, ns, e, hS, hc, q⟩ => ?_⟩
  subst e
  obtain ⟨S', hr⟩ := plain ns hc
  refine ⟨[], [], [], [.scr ns], _, ⟨rfl, List.nodup_nil, fun n a d h => by simp at h, fun a ha => by cases ha⟩, RVs_cons ?_ RVs_nil, hr, fun α' H' v _ rv => ?_⟩
  · rw [RV]
    refine ⟨a, rfl, ?_⟩
    rcases hS with hS | hS
    · exact .inl ⟨hS, by simp, by simp⟩
    · exact .inr hS
  · have rv : RV _ _ _ (.bl true) v := rv
    rw [RV] at rv
    subst rv
    exact q H'
theorem cx_none {P : Program} {w : World} {l : List Env} {H : Hp} {s : Shared} {e : Value} {s' : Shared} (h : L2.CX P w l H s (fun _ _ _ => False) e s') : False := by
  obtain ⟨_, _, _, _, _, _, _, _, _, _, _, _, z⟩ := h
  exact z
/-- the goal that the head leaves -/
theorem law_walk {l : PySem.W.OpenLaw} {q : Program} {loose : List Str} {XP : (Str → Option Value) → Heap → Prop} {YP : World → Heap → Prop} {dr : DefRec} {K : Params → PySem.W.Frag} {k id : Nat} {d : Fdef} {x : Str}
    (hn : l.most = some 63) (hdf : dr.params.defaults = []) (hr : Room (k + 2) callerA) (hY : ∀ (w : World) (h : Heap), YP w h → (K w.params).In h) (ok : t.Ok) (hd : t.fdefs[id]? = some d) (hdx : dr.name = d.x) (hps : d.ps = [x])
    (plain : ∀ ns, Small ns → ∃ S', callR t.P k id [.scr ns] [] = some (.ok (.bl true) S')) (W : ∀ (w : World) (h : Heap), (K w.params).In h → t.W w (K w.params)) :
    PySem.W.WalkO q loose XP YP l.row.toRowW dr [] (fun f vs => PySem.call f vs) := by
  refine L2.walk_ofB (n := 63) (k := k + 2) (x := x) (CX := fun w => L2.CX l.prog w) (sp := fun w => spLw (K w.params) Small) hn (by decide) hdf hr hY (fun w mg fa h X G hmg => ?_) (fun w H a ns hl hb _ hS => ⟨a, ns, rfl, hS, ⟨hl, hb⟩, fun _ => rfl⟩) fun w H s e s' z => cx_none z
  exact law_fn ok (W w h X) X G hd (hdx ▸ hmg) hps plain
end
end Vm
/-! Vm 32: runs, in plain Lean. -/
namespace Vm
/-- without boxes -/
def noRef (d : D) : Bool := refsLt 0 d
def noRefs (d : List D) : Bool := refsLts 0 d
mutual
theorem unbW_id {f : Nat → Option D} {m : Nat} (hf : ∀ n, n < m → f n = some (.ref n)) : ∀ d : D, refsLt m d = true → unbW f d = some d
  | .non, _ => rfl
  | .bl _, _ => rfl
  | .int _, _ => rfl
  | .str _, _ => rfl
  | .scr _, _ => rfl
  | .fn _, _ => rfl
  | .ref n, h => by rw [unbW]; exact hf n (by simpa [refsLt] using h)
  | .tup ds, h => by rw [unbW, unbWs_id hf ds (by simpa [refsLt] using h)]; rfl
  | .lst ds, h => by rw [unbW, unbWs_id hf ds (by simpa [refsLt] using h)]; rfl
  | .dct ks ds, h => by
    simp only [refsLt, Bool.and_eq_true] at h
    rw [unbW, unbWs_id hf ks h.1, unbWs_id hf ds h.2]; rfl
theorem unbWs_id {f : Nat → Option D} {m : Nat} (hf : ∀ n, n < m → f n = some (.ref n)) : ∀ d : List D, refsLts m d = true → unbWs f d = some d
  | [], _ => rfl
  | d :: ds, h => by
    simp only [refsLts, Bool.and_eq_true] at h
    rw [unbWs, unbW_id hf d h.1, unbWs_id hf ds h.2]; rfl
end
theorem unb_id {S : Store} {m k : Nat} {d : D} (h : refsLt m d = true) : unb S m k d = some d := by
  cases k with
  | zero => exact unbW_id (fun n hn => if_pos hn) d h
  | succ k => exact unbW_id (fun n hn => if_pos hn) d h
/-- a call's answer without new boxes in it -/
theorem gc_plain {S J : Store} {d : D} (h : refsLt S.length d = true) : gcOut S.length false (some (.ok d (S ++ J))) = some (.ok d S) := by
  simp only [gcOut, Bool.false_eq_true, if_false, unb_id h, Option.map_some, List.take_left]
theorem gc_same {S : Store} {d : D} (h : refsLt S.length d = true) : gcOut S.length false (some (.ok d S)) = some (.ok d S) := by
  have := gc_plain (J := []) h
  rwa [List.append_nil] at this
theorem gc_plain' {S S' : Store} {d : D} (h : refsLt S.length d = true) : gcOut S.length false (some (.ok d S')) = some (.ok d (S'.take S.length)) := by
  simp only [gcOut, Bool.false_eq_true, if_false, unb_id h, Option.map_some]
/-- a call's answer is a new box with plain content -/
theorem gc_box {S J : Store} {n : Nat} {ds : List D} (hn : (S ++ J)[n]? = some (.lst ds)) (hl : S.length ≤ n) (h : refsLts S.length ds = true) : gcOut S.length false (some (.ok (.ref n) (S ++ J))) = some (.ok (.lst ds) S) := by
  have e : unb (S ++ J) S.length unbF (.ref n) = some (.lst ds) := by
    show (if n < S.length then some (.ref n) else ((S ++ J)[n]?).bind (unb (S ++ J) S.length 11)) = _
    rw [if_neg (by omega), hn]
    exact unb_id (by simpa [refsLt] using h)
  simp only [gcOut, Bool.false_eq_true, if_false, e, Option.map_some, List.take_left]
/-- a call that only tells -/
def Pc (P : Pg) (k g : Nat) (ds : List D) (d : D) : Prop := ∀ S : Store, gcOut S.length false (callR P k g ds S) = some (.ok d S)
/-- the turns of a comprehension that leave the store -/
theorem lcGo_pure {f : D → M (Option D)} {S : Store} {r : D → Option D} : ∀ {ds : List D} {acc : List D}, (∀ d ∈ ds, f d S = some (.ok (r d) S)) → lcGo f ds acc S = some (.ok (acc ++ ds.filterMap r) S)
  | [], acc, _ => by simp [lcGo]
  | d :: ds, acc, h => by
    simp only [lcGo, h d List.mem_cons_self, bnd_ok]
    cases e : r d with
    | none => simp only [List.filterMap_cons, e]; exact lcGo_pure fun x hx => h x (List.mem_cons_of_mem _ hx)
    | some y =>
      simp only [List.filterMap_cons, e]
      rw [lcGo_pure fun x hx => h x (List.mem_cons_of_mem _ hx), List.append_assoc]
      rfl
/-- a comprehension whose turns leave the store -/
theorem ev_lc {C : Cf} {bx : Bool} {tg : Tg} {own : List Nat} {it : It} {ifs : List Te} {elt : Ex} {fr : Fr} {S S1 : Store} {ds : List D} (r : D → Option D) (hit : evIt C it fr S = some (.ok ⟨ds, none⟩ S1)) (hf : ds.length ≤ 1000000)
    (h : ∀ d ∈ ds, ∃ fr', asgT tg d (wipeF fr own) = some fr' ∧ ((tsts C ifs fr' S1 = some (.ok false S1) ∧ r d = none) ∨ (tsts C ifs fr' S1 = some (.ok true S1) ∧ ∃ y, ev C elt fr' S1 = some (.ok y S1) ∧ r d = some y))) :
    ev C (.lc bx tg own it ifs elt) fr S = mkL bx (ds.filterMap r) S1 := by
  unfold ev
  rw [hit, bnd_ok]
  rw [if_pos (show (fits ds.length && (Its.mk ds none).still S1) = true by simp [fits, hf, Its.still])]
  rw [lcGo_pure (r := r)]
  · rfl
  · intro d hd
    obtain ⟨fr', e, hh⟩ := h d hd
    rw [e]
    rcases hh with ⟨e1, e2⟩ | ⟨e1, y, e2, e3⟩
    · simp [e1, e2, Its.still]
    · simp [e1, e2, e3, Its.still]
/-- a loop by its invariant: I (the items still to come) frame store -/
theorem forGo_inv {f : D → Fr → M Fl} {st : Store → Bool} (I : List D → Fr → Store → Prop) : ∀ (ds : List D) (fr : Fr) (S : Store), I ds fr S →
    (∀ d r fr S, I (d :: r) fr S → ∃ fr' S', (f d fr S = some (.ok (.nx fr') S') ∨ f d fr S = some (.ok (.ct fr') S')) ∧ st S' = true ∧ I r fr' S') → ∃ fr' S', forGo f st ds fr S = some (.ok (.nx fr') S') ∧ I [] fr' S'
  | [], fr, S, h, _ => ⟨fr, S, rfl, h⟩
  | d :: ds, fr, S, h, step => by
    obtain ⟨fr', S', e, hs, hi⟩ := step d ds fr S h
    obtain ⟨fr2, S2, e2, hi2⟩ := forGo_inv I ds fr' S' hi step
    refine ⟨fr2, S2, ?_, hi2⟩
    simp only [forGo]
    rcases e with e | e <;> (rw [e, bnd_ok]; simp only [hs, if_true]; exact e2)
/-- .. that may hand back -/
theorem forGo_ret {f : D → Fr → M Fl} {st : Store → Bool} (I : List D → Fr → Store → Prop) (R : D → Store → Prop) : ∀ (ds : List D) (fr : Fr) (S : Store), I ds fr S →
    (∀ d r fr S, I (d :: r) fr S → (∃ fr' S', (f d fr S = some (.ok (.nx fr') S') ∨ f d fr S = some (.ok (.ct fr') S')) ∧ st S' = true ∧ I r fr' S') ∨ ∃ v S', f d fr S = some (.ok (.ret v) S') ∧ R v S') →
    (∃ fr' S', forGo f st ds fr S = some (.ok (.nx fr') S') ∧ I [] fr' S') ∨ ∃ v S', forGo f st ds fr S = some (.ok (.ret v) S') ∧ R v S'
  | [], fr, S, h, _ => .inl ⟨fr, S, rfl, h⟩
  | d :: ds, fr, S, h, step => by
    rcases step d ds fr S h with ⟨fr', S', e, hs, hi⟩ | ⟨v, S', e, hr⟩
    · have e' : forGo f st (d :: ds) fr S = forGo f st ds fr' S' := by
        simp only [forGo]
        rcases e with e | e <;> (rw [e, bnd_ok]; simp only [hs, if_true])
      rw [e']
      exact forGo_ret I R ds fr' S' hi step
    · refine .inr ⟨v, S', ?_, hr⟩
      simp only [forGo, e, bnd_ok]
/-- a while loop by its invariant with a measure -/
theorem whlGo_inv {t : Fr → M Bool} {f : Fr → M Fl} (I : Nat → Fr → Store → Prop) (Q : Fr → Store → Prop) : ∀ (n fuel : Nat) (fr : Fr) (S : Store), n < fuel → I n fr S →
    (∀ n fr S, I n fr S → (t fr S = some (.ok false S) ∧ Q fr S) ∨ (t fr S = some (.ok true S) ∧ ∃ m fr' S', m < n ∧ f fr S = some (.ok (.nx fr') S') ∧ I m fr' S')) → ∃ fr' S', whlGo t f fuel fr S = some (.ok (.nx fr') S') ∧ Q fr' S' := by
  intro n
  induction n using Nat.strongRecOn with
  | ind n ih =>
    intro fuel fr S hf hI step
    cases fuel with
    | zero => omega
    | succ fuel =>
      simp only [whlGo]
      rcases step n fr S hI with ⟨e, q⟩ | ⟨e, m, fr', S', hm, ef, hi⟩
      · rw [e, bnd_ok]
        exact ⟨fr, S, rfl, q⟩
      · rw [e, bnd_ok]
        simp only [if_true, ef, bnd_ok]
        exact ih m hm fuel fr' S' (by omega) hi step
theorem rngL_mem {lo : Int} {n : Nat} {d : D} : d ∈ rngL lo n ↔ ∃ i : Nat, i < n ∧ d = .int (lo + i) := by
  unfold rngL
  simp only [List.mem_map, List.mem_range]
  constructor
  · rintro ⟨i, h, rfl⟩; exact ⟨i, h, rfl⟩
  · rintro ⟨i, h, rfl⟩; exact ⟨i, h, rfl⟩
theorem rngL_succ {lo : Int} {n : Nat} : rngL lo (n + 1) = .int lo :: rngL (lo + 1) n := by
  unfold rngL
  rw [List.range_succ_eq_map, List.map_cons, List.map_map]
  congr 1
  · simp
  · refine List.map_congr_left fun i _ => ?_
    show D.int (lo + ((i + 1 : Nat) : Int)) = D.int (lo + 1 + (i : Int))
    congr 1
    push_cast
    omega
/-! ### statements, step by step -/
section
variable {C : Cg} {s : St} {r : List St} {fr fr' : Fr} {S S' S1 : Store} {d : D} {e : Ex}
theorem execs_nx (h : exec C s fr S = some (.ok (.nx fr') S')) : execs C (s :: r) fr S = execs C r fr' S' := by
  show bnd (exec C s fr S) _ = _
  rw [h]
  rfl
theorem execs_rt (h : exec C s fr S = some (.ok (.ret d) S')) : execs C (s :: r) fr S = some (.ok (.ret d) S') := by
  show bnd (exec C s fr S) _ = _
  rw [h]
  rfl
theorem execs_nil : execs C [] fr S = some (.ok (.nx fr) S) := rfl
theorem exec_ret (h : ev C.toCf e fr S = some (.ok d S')) : exec C (.ret e) fr S = some (.ok (.ret d) S') := by
  show bnd (ev C.toCf e fr S) _ = _
  rw [h]
  rfl
theorem exec_asg {t : Tg} (h : ev C.toCf e fr S = some (.ok d S')) (ht : asgT t d fr = some fr') : exec C (.asg t e) fr S = some (.ok (.nx fr') S') := by
  show bnd (ev C.toCf e fr S) _ = _
  rw [h]
  show bnd (lift (asgT t d fr) S') _ = _
  rw [ht]
  rfl
theorem exec_expr (h : ev C.toCf e fr S = some (.ok d S')) : exec C (.expr e) fr S = some (.ok (.nx fr) S') := by
  show bnd (ev C.toCf e fr S) _ = _
  rw [h]
  rfl
theorem exec_ifT {t : Te} {a b : List St} (h : tst C.toCf t fr S = some (.ok true S')) : exec C (.ife t a b) fr S = execs C a fr S' := by
  show bnd (tst C.toCf t fr S) _ = _
  rw [h]
  rfl
theorem exec_ifF {t : Te} {a b : List St} (h : tst C.toCf t fr S = some (.ok false S')) : exec C (.ife t a b) fr S = execs C b fr S' := by
  show bnd (tst C.toCf t fr S) _ = _
  rw [h]
  rfl
theorem exec_for {gc : Bool} {tg : Tg} {it : It} {b : List St} {t : Its} (h : evIt C.toCf it fr S = some (.ok t S1)) (hs : t.still S1 = true) :
    exec C (.for_ gc tg it b) fr S = forGo (fun d fr S => gcFl gc S.length (bnd (lift (asgT tg d fr) S) fun fr' S' => execs (C.up gc S) b fr' S')) t.still t.ds fr S1 := by
  show bnd (evIt C.toCf it fr S) _ = _
  rw [h, bnd_ok]
  exact if_pos hs
end
end Vm
namespace Vm
/-- a comprehension whose turns change the store: J (the items still to come) (what is found) store -/
theorem lcGo_inv {f : D → M (Option D)} (J : List D → List D → Store → Prop) : ∀ (ds acc : List D) (S : Store), J ds acc S →
    (∀ d r acc S, J (d :: r) acc S → ∃ o S', f d S = some (.ok o S') ∧ J r (acc ++ o.toList) S') → ∃ out S', lcGo f ds acc S = some (.ok out S') ∧ J [] out S'
  | [], acc, S, h, _ => ⟨acc, S, rfl, h⟩
  | d :: ds, acc, S, h, step => by
    obtain ⟨o, S1, e, hj⟩ := step d ds acc S h
    obtain ⟨out, S2, e2, h2⟩ := lcGo_inv J ds _ S1 hj step
    refine ⟨out, S2, ?_, h2⟩
    simp only [lcGo, e, bnd_ok]
    cases o with
    | none => simpa using e2
    | some y => exact e2
theorem ev_lcJ {C : Cf} {bx : Bool} {tg : Tg} {own : List Nat} {it : It} {ifs : List Te} {elt : Ex} {fr : Fr} {S S1 : Store} {t : Its} (J : List D → List D → Store → Prop) (hit : evIt C it fr S = some (.ok t S1)) (hf : t.ds.length ≤ 1000000) (hs : t.still S1 = true) (h0 : J t.ds [] S1)
    (h : ∀ d r acc S, J (d :: r) acc S → ∃ fr', asgT tg d (wipeF fr own) = some fr' ∧ ((∃ S', tsts C ifs fr' S = some (.ok false S') ∧ t.still S' = true ∧ J r acc S') ∨ ∃ S2 y S', tsts C ifs fr' S = some (.ok true S2) ∧ ev C elt fr' S2 = some (.ok y S') ∧ t.still S' = true ∧ J r (acc ++ [y]) S')) :
    ∃ out S', ev C (.lc bx tg own it ifs elt) fr S = mkL bx out S' ∧ J [] out S' := by
  obtain ⟨out, S', e, hj⟩ := lcGo_inv (f := lcF C tg own ifs elt t fr) J t.ds [] S1 h0 fun d r acc S hJ => by
    obtain ⟨fr', e, hh⟩ := h d r acc S hJ
    rcases hh with ⟨S', e1, e2, e3⟩ | ⟨S2, y, S', e1, e2, e3, e4⟩
    · exact ⟨none, S', by simp [lcF, e, e1, e2], by simpa using e3⟩
    · exact ⟨some y, S', by simp [lcF, e, e1, e2, e3], e4⟩
  refine ⟨out, S', ?_, hj⟩
  have ed : ev C (.lc bx tg own it ifs elt) fr S = bnd (evIt C it fr S) fun t S1 => if (fits t.ds.length && t.still S1) = true then bnd (noEx (lcGo (lcF C tg own ifs elt t fr) t.ds [] S1)) (mkL bx) else none := rfl
  rw [ed, hit, bnd_ok]
  rw [if_pos (show (fits t.ds.length && t.still S1) = true by simp [fits, hf, hs]), e]
  rfl
end Vm
/-! Vm 33: expressions, step by step. -/
namespace Vm
open PySem
section
variable {C : Cf} {fr : Fr} {S S1 S2 S3 S' : Store} {e a b c i : Ex} {es : List Ex} {d x y z : D} {ds ds' : List D} {r : Option (Rs D)}
theorem ev_nm {i : Nat} (h : getFr fr i = some d) : ev C (.nm i) fr S = some (.ok d S) := by rw [ev, h]; rfl
theorem ev_cst : ev C (.cst d) fr S = some (.ok d S) := by rw [ev]; rfl
theorem evs_nil : evs C [] fr S = some (.ok [] S) := by rw [evs]; rfl
theorem evs_cons (h : ev C e fr S = some (.ok d S1)) (h2 : evs C es fr S1 = some (.ok ds S2)) : evs C (e :: es) fr S = some (.ok (d :: ds) S2) := by
  rw [evs]; show bnd (ev C e fr S) _ = _; rw [h, bnd_ok]; show bnd (evs C es fr S1) _ = _; rw [h2]; rfl
theorem evs_ex {cc : Nat} {fs : List D} (h : ev C e fr S = some (.ex cc fs S1)) : evs C (e :: es) fr S = some (.ex cc fs S1) := by
  rw [evs]; show bnd (ev C e fr S) _ = _; rw [h]; rfl
theorem evs_ex2 {cc : Nat} {fs : List D} (h : ev C e fr S = some (.ok d S1)) (h2 : evs C es fr S1 = some (.ex cc fs S2)) : evs C (e :: es) fr S = some (.ex cc fs S2) := by
  rw [evs]; show bnd (ev C e fr S) _ = _; rw [h, bnd_ok]; show bnd (evs C es fr S1) _ = _; rw [h2]; rfl
theorem ev_tup (h : evs C es fr S = some (.ok ds S1)) : ev C (.tup es) fr S = some (.ok (.tup ds) S1) := by
  rw [ev]; show bnd (evs C es fr S) _ = _; rw [h]; rfl
theorem ev_lstF (h : evs C es fr S = some (.ok ds S1)) : ev C (.lst false es) fr S = some (.ok (.lst ds) S1) := by
  rw [ev]; show bnd (evs C es fr S) _ = _; rw [h]; rfl
theorem ev_lstX {cc : Nat} {fs : List D} {bx : Bool} (h : evs C es fr S = some (.ex cc fs S1)) : ev C (.lst bx es) fr S = some (.ex cc fs S1) := by
  rw [ev]; show bnd (evs C es fr S) _ = _; rw [h]; rfl
theorem ev_lstT (h : evs C es fr S = some (.ok ds S1)) : ev C (.lst true es) fr S = some (.ok (.ref S1.length) (S1 ++ [.lst ds])) := by
  rw [ev]; show bnd (evs C es fr S) _ = _; rw [h]; rfl
theorem ev_bin {op : Operator} {bx : Bool} (ha : ev C a fr S = some (.ok x S1)) (hb : ev C b fr S1 = some (.ok y S2)) (h : binD S2 op x y = some (.v z)) : ev C (.bin op bx a b) fr S = some (.ok z S2) := by
  rw [ev]; show bnd (ev C a fr S) _ = _; rw [ha, bnd_ok]; show bnd (ev C b fr S1) _ = _; rw [hb, bnd_ok]; show bnd (lift (binD S2 op x y) S2) _ = _; rw [h]; rfl
theorem ev_binL {op : Operator} (ha : ev C a fr S = some (.ok x S1)) (hb : ev C b fr S1 = some (.ok y S2)) (h : binD S2 op x y = some (.l ds)) : ev C (.bin op false a b) fr S = some (.ok (.lst ds) S2) := by
  rw [ev]; show bnd (ev C a fr S) _ = _; rw [ha, bnd_ok]; show bnd (ev C b fr S1) _ = _; rw [hb, bnd_ok]; show bnd (lift (binD S2 op x y) S2) _ = _; rw [h]; rfl
theorem ev_sub (ha : ev C a fr S = some (.ok x S1)) (hb : ev C i fr S1 = some (.ok y S2)) (h : subD S2 x y = some z) : ev C (.sub a i) fr S = some (.ok z S2) := by
  rw [ev]; show bnd (ev C a fr S) _ = _; rw [ha, bnd_ok]; show bnd (ev C i fr S1) _ = _; rw [hb, bnd_ok]; show lift (subD S2 x y) S2 = _; rw [h]; rfl
theorem ev_call {g : Nat} {bx : Bool} {pm : List Nat} (h : evs C es fr S = some (.ok ds S1)) (hp : permL ds pm = some ds') (hc : gcOut S1.length bx (C.call g ds' S1) = r) : ev C (.call g bx es pm) fr S = r := by
  rw [ev]; show bnd (evs C es fr S) _ = _; rw [h, bnd_ok]
  simp only [hp]; exact hc
theorem ev_cmp {op : CmpOp} {k : Bool} (ha : ev C a fr S = some (.ok x S1)) (hb : ev C b fr S1 = some (.ok y S2)) (h : cmpD S2 op x y = some k) : ev C (.cmp op a b) fr S = some (.ok (.bl k) S2) := by
  rw [ev]; show bnd (ev C a fr S) _ = _; rw [ha, bnd_ok]; show bnd (ev C b fr S1) _ = _; rw [hb, bnd_ok]; show bnd (lift (cmpD S2 op x y) S2) _ = _; rw [h]; rfl
theorem ev_notE {t : Te} {k : Bool} (h : tst C t fr S = some (.ok k S1)) : ev C (.notE t) fr S = some (.ok (.bl (!k)) S1) := by
  rw [ev]; show bnd (tst C t fr S) _ = _; rw [h]; rfl
theorem ev_iteT {t : Te} (h : tst C t fr S = some (.ok true S1)) : ev C (.ite t a b) fr S = ev C a fr S1 := by
  rw [ev]; show bnd (tst C t fr S) _ = _; rw [h]; rfl
theorem ev_iteF {t : Te} (h : tst C t fr S = some (.ok false S1)) : ev C (.ite t a b) fr S = ev C b fr S1 := by
  rw [ev]; show bnd (tst C t fr S) _ = _; rw [h]; rfl
theorem ev_blt {f : Bt} {bx : Bool} (h : evs C es fr S = some (.ok ds S1)) (h2 : btD S1 f ds = some (.v z)) : ev C (.blt f bx es) fr S = some (.ok z S1) := by
  rw [ev]; show bnd (evs C es fr S) _ = _; rw [h, bnd_ok]; show bnd (lift (btD S1 f ds) S1) _ = _; rw [h2]; rfl
theorem ev_bltL {f : Bt} (h : evs C es fr S = some (.ok ds S1)) (h2 : btD S1 f ds = some (.l ds')) : ev C (.blt f false es) fr S = some (.ok (.lst ds') S1) := by
  rw [ev]; show bnd (evs C es fr S) _ = _; rw [h, bnd_ok]; show bnd (lift (btD S1 f ds) S1) _ = _; rw [h2]; rfl
theorem ev_bltT {f : Bt} (h : evs C es fr S = some (.ok ds S1)) (h2 : btD S1 f ds = some (.l ds')) : ev C (.blt f true es) fr S = some (.ok (.ref S1.length) (S1 ++ [.lst ds'])) := by
  rw [ev]; show bnd (evs C es fr S) _ = _; rw [h, bnd_ok]; show bnd (lift (btD S1 f ds) S1) _ = _; rw [h2]; rfl
theorem ev_isi {ks : List Kd} {k : Bool} (h : ev C a fr S = some (.ok x S1)) (h2 : isiD S1 x ks = some k) : ev C (.isi a ks) fr S = some (.ok (.bl k) S1) := by
  rw [ev]; show bnd (ev C a fr S) _ = _; rw [h, bnd_ok]; show bnd (lift (isiD S1 x ks) S1) _ = _; rw [h2]; rfl
theorem ev_una {op : UnaryOp} (h : ev C a fr S = some (.ok x S1)) (h2 : unaD op x = some z) : ev C (.una op a) fr S = some (.ok z S1) := by
  rw [ev]; show bnd (ev C a fr S) _ = _; rw [h, bnd_ok, h2]; rfl
/-- and: the first false -/
theorem ev_conjF {l : Ex} (h : evConj C es fr S = some (.ok false S1)) : ev C (.conj es l) fr S = some (.ok (.bl false) S1) := by
  rw [ev]; show bnd (evConj C es fr S) _ = _; rw [h]; rfl
theorem ev_conjT {l : Ex} (h : evConj C es fr S = some (.ok true S1)) : ev C (.conj es l) fr S = ev C l fr S1 := by
  rw [ev]; show bnd (evConj C es fr S) _ = _; rw [h]; rfl
theorem evConj_nil : evConj C [] fr S = some (.ok true S) := by rw [evConj]; rfl
theorem evConj_T (h : ev C e fr S = some (.ok (.bl true) S1)) : evConj C (e :: es) fr S = evConj C es fr S1 := by
  rw [evConj]; show bnd (ev C e fr S) _ = _; rw [h]; rfl
theorem evConj_F (h : ev C e fr S = some (.ok (.bl false) S1)) : evConj C (e :: es) fr S = some (.ok false S1) := by
  rw [evConj]; show bnd (ev C e fr S) _ = _; rw [h]; rfl
theorem evConj_1 {k : Bool} (h : ev C e fr S = some (.ok (.bl k) S1)) : evConj C [e] fr S = some (.ok k S1) := by
  cases k
  · exact evConj_F h
  · rw [evConj_T h, evConj_nil]
/-- a and b, both bools -/
theorem ev_and {k k2 : Bool} {l : Ex} (h : ev C e fr S = some (.ok (.bl k) S)) (h2 : k = true → ev C l fr S = some (.ok (.bl k2) S)) : ev C (.conj [e] l) fr S = some (.ok (.bl (k && k2)) S) := by
  cases k
  · rw [ev_conjF (evConj_1 h)]; rfl
  · rw [ev_conjT (evConj_1 h), h2 rfl]; rfl
theorem ev_disjT {l : Ex} (h : evDisj C es fr S = some (.ok true S1)) : ev C (.disj es l) fr S = some (.ok (.bl true) S1) := by
  rw [ev]; show bnd (evDisj C es fr S) _ = _; rw [h]; rfl
theorem ev_disjF {l : Ex} (h : evDisj C es fr S = some (.ok false S1)) : ev C (.disj es l) fr S = ev C l fr S1 := by
  rw [ev]; show bnd (evDisj C es fr S) _ = _; rw [h]; rfl
theorem evDisj_nil : evDisj C [] fr S = some (.ok false S) := by rw [evDisj]; rfl
theorem evDisj_F (h : ev C e fr S = some (.ok (.bl false) S1)) : evDisj C (e :: es) fr S = evDisj C es fr S1 := by
  rw [evDisj]; show bnd (ev C e fr S) _ = _; rw [h]; rfl
theorem evDisj_T (h : ev C e fr S = some (.ok (.bl true) S1)) : evDisj C (e :: es) fr S = some (.ok true S1) := by
  rw [evDisj]; show bnd (ev C e fr S) _ = _; rw [h]; rfl
theorem tst_v {k : Bool} (h : ev C e fr S = some (.ok d S1)) (h2 : truth S1 d = some k) : tst C (.v e) fr S = some (.ok k S1) := by
  rw [tst]; show bnd (ev C e fr S) _ = _; rw [h, bnd_ok, h2]; rfl
theorem tst_vb {k : Bool} (h : ev C e fr S = some (.ok (.bl k) S1)) : tst C (.v e) fr S = some (.ok k S1) := tst_v h rfl
theorem tst_neg {t : Te} {k : Bool} (h : tst C t fr S = some (.ok k S1)) : tst C (.neg t) fr S = some (.ok (!k) S1) := by
  rw [tst]; show bnd (tst C t fr S) _ = _; rw [h]; rfl
theorem tst_cmp {op : CmpOp} {k : Bool} (ha : ev C a fr S = some (.ok x S1)) (hb : ev C b fr S1 = some (.ok y S2)) (h : cmpD S2 op x y = some k) : tst C (.cmp op a b) fr S = some (.ok k S2) := by
  rw [tst]; show bnd (ev C a fr S) _ = _; rw [ha, bnd_ok]; show bnd (ev C b fr S1) _ = _; rw [hb, bnd_ok]; show lift (cmpD S2 op x y) S2 = _; rw [h]; rfl
theorem tst_conj {ts : List Te} : tst C (.conj ts) fr S = tsConj C ts fr S := by rw [tst]
theorem tst_disj {ts : List Te} : tst C (.disj ts) fr S = tsDisj C ts fr S := by rw [tst]
theorem tsConj_T {t : Te} {ts : List Te} (h : tst C t fr S = some (.ok true S1)) : tsConj C (t :: ts) fr S = tsConj C ts fr S1 := by
  rw [tsConj]; show bnd (tst C t fr S) _ = _; rw [h]; rfl
theorem tsConj_F {t : Te} {ts : List Te} (h : tst C t fr S = some (.ok false S1)) : tsConj C (t :: ts) fr S = some (.ok false S1) := by
  rw [tsConj]; show bnd (tst C t fr S) _ = _; rw [h]; rfl
theorem tsConj_nil : tsConj C [] fr S = some (.ok true S) := by rw [tsConj]; rfl
theorem tsDisj_T {t : Te} {ts : List Te} (h : tst C t fr S = some (.ok true S1)) : tsDisj C (t :: ts) fr S = some (.ok true S1) := by
  rw [tsDisj]; show bnd (tst C t fr S) _ = _; rw [h]; rfl
theorem tsDisj_F {t : Te} {ts : List Te} (h : tst C t fr S = some (.ok false S1)) : tsDisj C (t :: ts) fr S = tsDisj C ts fr S1 := by
  rw [tsDisj]; show bnd (tst C t fr S) _ = _; rw [h]; rfl
theorem tsDisj_nil : tsDisj C [] fr S = some (.ok false S) := by rw [tsDisj]; rfl
theorem tsConj_c {t : Te} {ts : List Te} {k k2 : Bool} (h : tst C t fr S = some (.ok k S)) (h2 : tsConj C ts fr S = some (.ok k2 S)) : tsConj C (t :: ts) fr S = some (.ok (k && k2) S) := by
  cases k
  · rw [tsConj_F h]; rfl
  · rw [tsConj_T h, h2]; rfl
theorem tsDisj_c {t : Te} {ts : List Te} {k k2 : Bool} (h : tst C t fr S = some (.ok k S)) (h2 : tsDisj C ts fr S = some (.ok k2 S)) : tsDisj C (t :: ts) fr S = some (.ok (k || k2) S) := by
  cases k
  · rw [tsDisj_F h, h2]; rfl
  · rw [tsDisj_T h]; rfl
theorem tst_conj_c {ts : List Te} {k : Bool} (h : tsConj C ts fr S = some (.ok k S)) : tst C (.conj ts) fr S = some (.ok k S) := tst_conj.trans h
theorem tst_disj_c {ts : List Te} {k : Bool} (h : tsDisj C ts fr S = some (.ok k S)) : tst C (.disj ts) fr S = some (.ok k S) := tst_disj.trans h
theorem tsts_nil : tsts C [] fr S = some (.ok true S) := by rw [tsts]; rfl
theorem tsts_1 {t : Te} {k : Bool} (h : tst C t fr S = some (.ok k S1)) : tsts C [t] fr S = some (.ok k S1) := by
  rw [tsts]; show bnd (tst C t fr S) _ = _; rw [h, bnd_ok]; cases k
  · rfl
  · show tsts C [] fr S1 = _
    exact tsts_nil
theorem ev_met {f : Mt} {o : Ex} {n : Nat} {xs : List D} (ho : ev C o fr S = some (.ok (.ref n) S1)) (hl : S1[n]? = some (.lst xs)) (h : evs C es fr S1 = some (.ok ds S2)) (hm : mtD C.m f (.ref n) ds S2 = r) : ev C (.met f o es) fr S = r := by
  rw [ev]; show bnd (ev C o fr S) _ = _; rw [ho, bnd_ok]
  have : tyName S1 (.ref n) = some "list" := by simp [tyName, hl]
  simp only [this, if_true, h, bnd_ok]; exact hm
theorem evO_no : evO C .no fr S = some (.ok none S) := by rw [evO]; rfl
theorem evO_yes {j : Int} (h : ev C e fr S = some (.ok (.int j) S1)) : evO C (.yes e) fr S = some (.ok (some j) S1) := by
  rw [evO]; show bnd (ev C e fr S) _ = _; rw [h]; rfl
theorem ev_slcL {lo hi : Op} {l h : Option Int} (ha : ev C a fr S = some (.ok x S1)) (hl : evO C lo fr S1 = some (.ok l S2)) (hh : evO C hi fr S2 = some (.ok h S3)) (hs : slcD S3 x l h = some (.l ds)) : ev C (.slc false a lo hi) fr S = some (.ok (.lst ds) S3) := by
  rw [ev]; show bnd (ev C a fr S) _ = _; rw [ha, bnd_ok]; show bnd (evO C lo fr S1) _ = _; rw [hl, bnd_ok]; show bnd (evO C hi fr S2) _ = _; rw [hh, bnd_ok]; show bnd (lift (slcD S3 x l h) S3) _ = _; rw [hs]; rfl
theorem ev_slc {lo hi : Op} {bx : Bool} {l h : Option Int} (ha : ev C a fr S = some (.ok x S1)) (hl : evO C lo fr S1 = some (.ok l S2)) (hh : evO C hi fr S2 = some (.ok h S3)) (hs : slcD S3 x l h = some (.v z)) : ev C (.slc bx a lo hi) fr S = some (.ok z S3) := by
  rw [ev]; show bnd (ev C a fr S) _ = _; rw [ha, bnd_ok]; show bnd (evO C lo fr S1) _ = _; rw [hl, bnd_ok]; show bnd (evO C hi fr S2) _ = _; rw [hh, bnd_ok]; show bnd (lift (slcD S3 x l h) S3) _ = _; rw [hs]; rfl
theorem evIt_val {t : Its} (h : ev C e fr S = some (.ok d S1)) (h2 : itemsOf S1 d = some t) : evIt C (.val e) fr S = some (.ok t S1) := by
  rw [evIt]; show bnd (ev C e fr S) _ = _; rw [h, bnd_ok, h2]; rfl
theorem evIt_rng1 {j : Int} (h : ev C e fr S = some (.ok (.int j) S1)) (hb : big62 j = true) : evIt C (.rng1 e) fr S = some (.ok ⟨rngL 0 j.toNat, none⟩ S1) := by
  rw [evIt]; show bnd (ev C e fr S) _ = _; rw [h, bnd_ok]; simp only [hb, if_true]; rfl
theorem evIt_rng2 {j k : Int} (h : ev C a fr S = some (.ok (.int j) S1)) (h2 : ev C b fr S1 = some (.ok (.int k) S2)) (hb : big62 j = true) (hc : big62 k = true) : evIt C (.rng2 a b) fr S = some (.ok ⟨rngL j (k - j).toNat, none⟩ S2) := by
  rw [evIt]; show bnd (ev C a fr S) _ = _; rw [h, bnd_ok]; show bnd (ev C b fr S1) _ = _; rw [h2, bnd_ok]; simp only [hb, hc, Bool.and_true, if_true]; rfl
theorem evIt_enum (h : ev C e fr S = some (.ok (.lst ds) S1)) : evIt C (.enum e) fr S = some (.ok ⟨enumL 0 ds, none⟩ S1) := by
  rw [evIt]; show bnd (ev C e fr S) _ = _; rw [h, bnd_ok]; rfl
end
section
variable {C : Cg} {s : St} {rr : List St} {fr fr' : Fr} {S S' S1 : Store} {d : D} {e : Ex}
theorem execs_ex {cc : Nat} {fs : List D} (h : exec C s fr S = some (.ex cc fs S')) : execs C (s :: rr) fr S = some (.ex cc fs S') := by
  show bnd (exec C s fr S) _ = _
  rw [h]; rfl
theorem exec_exprX {cc : Nat} {fs : List D} (h : ev C.toCf e fr S = some (.ex cc fs S')) : exec C (.expr e) fr S = some (.ex cc fs S') := by
  show bnd (ev C.toCf e fr S) _ = _
  rw [h]; rfl
theorem exec_retX {cc : Nat} {fs : List D} (h : ev C.toCf e fr S = some (.ex cc fs S')) : exec C (.ret e) fr S = some (.ex cc fs S') := by
  show bnd (ev C.toCf e fr S) _ = _
  rw [h]; rfl
theorem exec_tryX {cc : Nat} {fs : List D} {b : List St} {hs : List Hd} (h : execs C b fr S = some (.ex cc fs S')) : exec C (.try_ b hs) fr S = handle C fr.length cc fs hs S' := by
  rw [exec]
  show (match execs C b fr S with | some (.ex c fs S') => handle C fr.length c fs hs S' | r => r) = _
  rw [h]
theorem exec_tryR {b : List St} {hs : List Hd} (h : execs C b fr S = some (.ok (.ret d) S')) : exec C (.try_ b hs) fr S = some (.ok (.ret d) S') := by
  rw [exec]
  show (match execs C b fr S with | some (.ex c fs S') => handle C fr.length c fs hs S' | r => r) = _
  rw [h]
theorem exec_rse {c : Nat} {es : List Ex} {ds : List D} (h : evs C.toCf es fr S = some (.ok ds S')) : exec C (.rse c es) fr S = some (.ex c ds S') := by
  show bnd (evs C.toCf es fr S) _ = _
  rw [h]; rfl
theorem exec_put {o i : Ex} {x y v : D} {S2 S3 S4 : Store} (hv : ev C.toCf e fr S = some (.ok v S1)) (ho : ev C.toCf o fr S1 = some (.ok x S2)) (hi : ev C.toCf i fr S2 = some (.ok y S3)) (h : putD C.m x y v S3 = some (.ok () S4)) : exec C (.put o i e) fr S = some (.ok (.nx fr) S4) := by
  show bnd (ev C.toCf e fr S) _ = _
  rw [hv, bnd_ok]; show bnd (ev C.toCf o fr S1) _ = _
  rw [ho, bnd_ok]; show bnd (ev C.toCf i fr S2) _ = _
  rw [hi, bnd_ok]; show bnd (putD C.m x y v S3) _ = _
  rw [h]; rfl
end
/-- a new box handed back as plain data -/
theorem gc_ref {S T : Store} {L : Nat} {ds : List D} (hl : S.length ≤ L) (h : T[L]? = some (.lst ds)) (hr : refsLts S.length ds = true) : gcOut S.length false (some (.ok (.ref L) T)) = some (.ok (.lst ds) (T.take S.length)) := by
  have eu : unb T S.length unbF (.ref L) = some (.lst ds) := by
    show (if L < S.length then some (.ref L) else (T[L]?).bind (unb T S.length 11)) = _
    rw [if_neg (by omega), h]
    exact unb_id (by simpa [refsLt] using hr)
  simp only [gcOut, Bool.false_eq_true, if_false, eu, Option.map_some]
end Vm
/-! Vm 34: more runs. -/
namespace Vm
open PySem
/-- a comprehension of two clauses that leaves the store -/
theorem ev_lc2 {C : Cf} {bx : Bool} {tg tg1 : Tg} {own vs1 : List Nat} {it it1 : It} {ifs ifs1 : List Te} {elt : Ex} {fr : Fr} {S S1 : Store} {ds : List D} (inner : D → List D) (hit : evIt C it fr S = some (.ok ⟨ds, none⟩ S1)) (hf : ds.length ≤ 1000000) (hl : (ds.flatMap inner).length ≤ 1000000)
    (h : ∀ d ∈ ds, ∃ fr' ds1 r, asgT tg d (wipeF fr own) = some fr' ∧ tsts C ifs fr' S1 = some (.ok true S1) ∧ evIt C it1 fr' S1 = some (.ok ⟨ds1, none⟩ S1) ∧ ds1.length ≤ 1000000 ∧ inner d = ds1.filterMap r ∧
      ∀ d1 ∈ ds1, ∃ fr1, asgT tg1 d1 (wipeF fr' vs1) = some fr1 ∧ ((tsts C ifs1 fr1 S1 = some (.ok false S1) ∧ r d1 = none) ∨ (tsts C ifs1 fr1 S1 = some (.ok true S1) ∧ ∃ y, ev C elt fr1 S1 = some (.ok y S1) ∧ r d1 = some y))) :
    ev C (.lc2 bx tg own it ifs tg1 vs1 it1 ifs1 elt) fr S = mkL bx (ds.flatMap inner) S1 := by
  have ed : ev C (.lc2 bx tg own it ifs tg1 vs1 it1 ifs1 elt) fr S = bnd (evIt C it fr S) fun t S1 => if (fits t.ds.length && t.still S1) = true then bnd (noEx (foGo (lc2F C tg own ifs tg1 vs1 it1 ifs1 elt t fr) t.ds [] S1)) (mkL bx) else none := rfl
  rw [ed, hit, bnd_ok]
  rw [if_pos (show (fits ds.length && (Its.mk ds none).still S1) = true by simp [fits, hf, Its.still])]
  have key : ∀ (l : List D) (acc : List D), (∀ d ∈ l, d ∈ ds) → acc.length + (l.flatMap inner).length ≤ 1000000 → foGo (lc2F C tg own ifs tg1 vs1 it1 ifs1 elt ⟨ds, none⟩ fr) l acc S1 = some (.ok (acc ++ l.flatMap inner) S1) := by
    intro l
    induction l with
    | nil => intro acc _ _; simp [foGo]
    | cons d l ih =>
      intro acc hm hb
      rw [List.flatMap_cons, List.length_append] at hb
      obtain ⟨fr', ds1, r, e1, e2, e3, e4, e5, e6⟩ := h d (hm d List.mem_cons_self)
      have eg : lcGo (lcF C tg1 vs1 ifs1 elt ⟨ds1, none⟩ fr') ds1 acc S1 = some (.ok (acc ++ ds1.filterMap r) S1) := lcGo_pure fun d1 hd1 => by
        obtain ⟨fr1, f1, f2⟩ := e6 d1 hd1
        rcases f2 with ⟨f2, f3⟩ | ⟨f2, y, f3, f4⟩
        · simp [lcF, f1, f2, f3, Its.still]
        · simp [lcF, f1, f2, f3, f4, Its.still]
      have et : lc2F C tg own ifs tg1 vs1 it1 ifs1 elt ⟨ds, none⟩ fr d acc S1 = some (.ok (acc ++ inner d) S1) := by
        simp only [lc2F, e1, e2, bnd_ok, if_true, e3]
        rw [if_pos (show (fits ds1.length && (Its.mk ds1 none).still S1) = true by simp [fits, e4, Its.still]), eg, bnd_ok, ← e5]
        rw [if_pos (show ((Its.mk ds none).still S1 && fits (acc ++ inner d).length) = true by simp [fits, Its.still]; omega)]
      simp only [foGo, et, bnd_ok]
      rw [ih _ (fun x hx => hm x (List.mem_cons_of_mem _ hx)) (by rw [List.length_append]; omega), List.flatMap_cons, List.append_assoc]
  rw [key ds [] (fun _ z => z) (by simpa using hl)]
  rfl
section
variable {C : Cf} {fr : Fr} {S S1 S2 S3 : Store} {a b c : Ex} {x y z : D}
theorem ev_chnF {op op' : CmpOp} (ha : ev C a fr S = some (.ok x S1)) (hb : ev C b fr S1 = some (.ok y S2)) (h : cmpD S2 op x y = some false) : ev C (.chn op op' a b c) fr S = some (.ok (.bl false) S2) := by
  rw [ev]; show bnd (ev C a fr S) _ = _; rw [ha, bnd_ok]; show bnd (ev C b fr S1) _ = _; rw [hb, bnd_ok]; show bnd (lift (cmpD S2 op x y) S2) _ = _; rw [h]; rfl
theorem ev_chnT {op op' : CmpOp} {k : Bool} (ha : ev C a fr S = some (.ok x S1)) (hb : ev C b fr S1 = some (.ok y S2)) (h : cmpD S2 op x y = some true) (hc : ev C c fr S2 = some (.ok z S3)) (h2 : cmpD S3 op' y z = some k) : ev C (.chn op op' a b c) fr S = some (.ok (.bl k) S3) := by
  rw [ev]; show bnd (ev C a fr S) _ = _; rw [ha, bnd_ok]; show bnd (ev C b fr S1) _ = _; rw [hb, bnd_ok]; show bnd (lift (cmpD S2 op x y) S2) _ = _; rw [h]
  show bnd (ev C c fr S2) _ = _; rw [hc, bnd_ok]; show bnd (lift (cmpD S3 op' y z) S3) _ = _; rw [h2]; rfl
theorem ev_items {ks vs : List D} (h : ev C a fr S = some (.ok x S1)) (h2 : dctOf S1 x = some (ks, vs)) : ev C (.items false a) fr S = some (.ok (.lst (zipL ks vs)) S1) := by
  rw [ev]; show bnd (ev C a fr S) _ = _; rw [h, bnd_ok, h2]; rfl
theorem ev_dctF {ks : List D} {es : List Ex} {ds : List D} (h : evs C es fr S = some (.ok ds S1)) (hk : (keysOk ks && decide (ks.length = ds.length) && decide (ks.length ≤ 15) && decide (es.length = ks.length)) = true) : ev C (.dct false ks es) fr S = some (.ok (.dct ks ds) S1) := by
  rw [ev]; show bnd (noEx (evs C es fr S)) _ = _; rw [h]
  show (if _ then mkK false ks ds else M.stuck) S1 = _
  rw [if_pos hk]; rfl
theorem evConj_c {es : List Ex} {k k2 : Bool} (h : ev C a fr S = some (.ok (.bl k) S)) (h2 : k = true → evConj C es fr S = some (.ok k2 S)) : evConj C (a :: es) fr S = some (.ok (k && k2) S) := by
  cases k
  · rw [evConj_F h]; rfl
  · rw [evConj_T h, h2 rfl]; rfl
theorem evIt_zipT {xs ys : List D} (ha : ev C a fr S = some (.ok (.tup xs) S1)) (hb : ev C b fr S1 = some (.ok (.tup ys) S2)) : evIt C (.zip a b) fr S = some (.ok ⟨zipL xs ys, none⟩ S2) := by
  rw [evIt]; show bnd (ev C a fr S) _ = _; rw [ha, bnd_ok]; show bnd (ev C b fr S1) _ = _; rw [hb, bnd_ok]; rfl
end
theorem exec_aug {C : Cg} {fr : Fr} {S S1 : Store} {e : Ex} {i : Nat} {op : Operator} {x y k : D} (hx : getFr fr i = some x) (he : ev C.toCf e fr S = some (.ok y S1)) (h : augD op x y = some k) : exec C (.aug i op e) fr S = some (.ok (.nx (fr.set i (some k))) S1) := by
  rw [exec]
  show bnd (lift (getFr fr i) S) _ = _
  rw [hx]
  show bnd (ev C.toCf e fr S) _ = _
  rw [he, bnd_ok, h]
  rfl
end Vm
namespace K55
open PySem L2 Vm
def top (i : Nat) : Stmt := PySem.Challenge.pw_puzzlebench_k55_speakers.main.body.getD i (.Pass ⟨0, 0, 0, 0⟩)
/-- the defs: name, text, slots, parameters -/
def fdefs : List Fdef := [
  ⟨"is_integer", top 4, [("value" : Str)], [("value" : Str)]⟩,
  ⟨"is_between", top 5, [("value" : Str), ("least" : Str), ("most" : Str)], [("value" : Str), ("least" : Str), ("most" : Str)]⟩,
  ⟨"is_tuple_of", top 6, [("value" : Str), ("many" : Str)], [("value" : Str), ("many" : Str)]⟩,
  ⟨"is_row", top 7, [("value" : Str), ("many" : Str), ("least" : Str), ("most" : Str), ("item" : Str)], [("value" : Str), ("many" : Str), ("least" : Str), ("most" : Str)]⟩,
  ⟨"is_rising", top 8, [("items" : Str), ("one" : Str), ("other" : Str)], [("items" : Str)]⟩,
  ⟨"is_set", top 9, [("value" : Str), ("size" : Str)], [("value" : Str), ("size" : Str)]⟩,
  ⟨"check_number", top 11, [("number" : Str), ("least" : Str), ("most" : Str)], [("number" : Str), ("least" : Str), ("most" : Str)]⟩,
  ⟨"is_part", top 21, [("people" : Str), ("kind" : Str), ("value" : Str)], [("people" : Str), ("kind" : Str), ("value" : Str)]⟩,
  ⟨"is_head", top 22, [("people" : Str), ("value" : Str), ("kinds" : Str), ("kind" : Str), ("item" : Str)], [("people" : Str), ("value" : Str)]⟩,
  ⟨"inner_of", top 23, [("saying" : Str), ("kind" : Str), ("item" : Str)], [("saying" : Str)]⟩,
  ⟨"is_saying", top 24, [("people" : Str), ("value" : Str), ("front" : Str), ("_" : Str), ("item" : Str), ("inner" : Str)], [("people" : Str), ("value" : Str)]⟩,
  ⟨"is_said", top 25, [("people" : Str), ("value" : Str)], [("people" : Str), ("value" : Str)]⟩,
  ⟨"is_true", top 26, [("world" : Str), ("saying" : Str), ("word" : Str), ("parts" : Str), ("inner" : Str), ("person" : Str)], [("world" : Str), ("saying" : Str)]⟩,
  ⟨"holds", top 27, [("world" : Str), ("saying" : Str), ("item" : Str)], [("world" : Str), ("saying" : Str)]⟩,
  ⟨"check_sayings", top 28, [("people" : Str), ("sayings" : Str), ("item" : Str)], [("people" : Str), ("sayings" : Str)]⟩,
  ⟨"check_saying", top 29, [("people" : Str), ("saying" : Str)], [("people" : Str), ("saying" : Str)]⟩,
  ⟨"all_worlds", top 30, [("people" : Str), ("found" : Str), ("_" : Str), ("row" : Str), ("item" : Str)], [("people" : Str)]⟩,
  ⟨"fitting", top 31, [("people" : Str), ("sayings" : Str), ("found" : Str), ("speaker" : Str), ("saying" : Str), ("world" : Str)], [("people" : Str), ("sayings" : Str)]⟩,
  ⟨"worlds", top 32, [("people" : Str), ("sayings" : Str)], [("people" : Str), ("sayings" : Str)]⟩,
  ⟨"sole_world", top 33, [("people" : Str), ("sayings" : Str), ("found" : Str)], [("people" : Str), ("sayings" : Str)]⟩,
  ⟨"surely", top 34, [("people" : Str), ("sayings" : Str), ("saying" : Str), ("found" : Str), ("world" : Str)], [("people" : Str), ("sayings" : Str), ("saying" : Str)]⟩,
  ⟨"_law_cell", top 36, [("script" : Str), ("k" : Str)], [("script" : Str), ("k" : Str)]⟩,
  ⟨"_law_box", top 37, [("great" : Str)], [("great" : Str)]⟩,
  ⟨"_law_take", top 38, [("box" : Str), ("many" : Str), ("mixed" : Str), ("digit" : Str)], [("box" : Str), ("many" : Str)]⟩,
  ⟨"_law_same", top 39, [("told" : Str), ("due" : Str), ("k" : Str)], [("told" : Str), ("due" : Str)]⟩,
  ⟨"_law_saying", top 40, [("box" : Str), ("people" : Str), ("deep" : Str), ("way" : Str), ("p" : Str)], [("box" : Str), ("people" : Str), ("deep" : Str)]⟩,
  ⟨"_law_true", top 41, [("world" : Str), ("saying" : Str), ("word" : Str), ("one" : Str), ("other" : Str), ("p" : Str)], [("world" : Str), ("saying" : Str)]⟩,
  ⟨"_law_every", top 42, [("people" : Str), ("found" : Str), ("p" : Str), ("longer" : Str), ("world" : Str)], [("people" : Str)]⟩,
  ⟨"_law_worlds", top 43, [("people" : Str), ("sayings" : Str), ("found" : Str), ("world" : Str), ("speaker" : Str), ("saying" : Str)], [("people" : Str), ("sayings" : Str)]⟩,
  ⟨"_law_talk", top 44, [("box" : Str), ("turn" : Str), ("people" : Str), ("way" : Str), ("world" : Str), ("found" : Str), ("speaker" : Str), ("saying" : Str), ("p" : Str)], [("box" : Str)]⟩,
  ⟨"_law_asked", top 45, [("which" : Str), ("one" : Str), ("two" : Str), ("three" : Str), ("by_name" : Str), ("e" : Str)], [("which" : Str), ("one" : Str), ("two" : Str), ("three" : Str), ("by_name" : Str)]⟩,
  ⟨"_law_right", top 46, [("box" : Str), ("people" : Str), ("sayings" : Str), ("by_name" : Str), ("due" : Str), ("way" : Str), ("turn" : Str), ("told" : Str), ("saying" : Str), ("truths" : Str), ("sure" : Str), ("world" : Str), ("p" : Str), ("which" : Str)], [("box" : Str), ("people" : Str), ("sayings" : Str), ("by_name" : Str)]⟩,
  ⟨"_law_no_saying", top 47, [("box" : Str), ("people" : Str), ("deep" : Str), ("turn" : Str), ("some" : Str)], [("box" : Str), ("people" : Str)]⟩,
  ⟨"_law_refused_right", top 48, [("box" : Str), ("people" : Str), ("sayings" : Str), ("by_name" : Str), ("number" : Str), ("no" : Str), ("fit" : Str), ("menu" : Str), ("bad" : Str), ("which" : Str), ("world" : Str), ("told" : Str)], [("box" : Str), ("people" : Str), ("sayings" : Str), ("by_name" : Str)]⟩,
  ⟨"law", top 49, [("script" : Str), ("k" : Str), ("box" : Str), ("by_name" : Str), ("turn" : Str), ("many" : Str), ("people" : Str), ("sayings" : Str), ("p" : Str)], [("script" : Str)]⟩]
def fnL : List (Str × Nat) := [(("is_integer" : Str), 0), (("is_between" : Str), 1), (("is_tuple_of" : Str), 2), (("is_row" : Str), 3), (("is_rising" : Str), 4), (("is_set" : Str), 5), (("check_number" : Str), 6), (("is_part" : Str), 7), (("is_head" : Str), 8), (("inner_of" : Str), 9), (("is_saying" : Str), 10), (("is_said" : Str), 11), (("is_true" : Str), 12), (("holds" : Str), 13), (("check_sayings" : Str), 14), (("check_saying" : Str), 15), (("all_worlds" : Str), 16), (("fitting" : Str), 17), (("worlds" : Str), 18), (("sole_world" : Str), 19), (("surely" : Str), 20), (("_law_cell" : Str), 21), (("_law_box" : Str), 22), (("_law_take" : Str), 23), (("_law_same" : Str), 24), (("_law_saying" : Str), 25), (("_law_true" : Str), 26), (("_law_every" : Str), 27), (("_law_worlds" : Str), 28), (("_law_talk" : Str), 29), (("_law_asked" : Str), 30), (("_law_right" : Str), 31), (("_law_no_saying" : Str), 32), (("_law_refused_right" : Str), 33), (("law" : Str), 34)]
def clL : List (Str × Nat) := [(("PuzzleError" : Str), 0), (("InvalidNumber" : Str), 1), (("InvalidSaying" : Str), 2), (("InvalidSayings" : Str), 3), (("InvalidWorld" : Str), 4)]
def rsL : List (Str × Nat) := [(("InvalidNumber" : Str), 1), (("InvalidSaying" : Str), 2), (("InvalidSayings" : Str), 3), (("InvalidWorld" : Str), 4)]
def kwL : List ((Nat × List Str) × List Nat) := [((13, [("saying" : Str), ("world" : Str)]), [1, 0]), ((18, [("sayings" : Str), ("people" : Str)]), [1, 0]), ((19, [("sayings" : Str), ("people" : Str)]), [1, 0]), ((20, [("saying" : Str), ("sayings" : Str), ("people" : Str)]), [2, 1, 0])]
def hintL : List (Nat × Nat × Nat × Nat) := [(99, 16, 99, 73), (102, 12, 102, 30), (104, 16, 104, 86), (108, 11, 108, 35), (124, 11, 124, 80), (167, 17, 167, 19), (173, 12, 173, 14), (180, 76, 180, 78), (193, 28, 193, 59), (193, 76, 193, 92), (212, 16, 212, 61), (215, 8, 215, 18), (258, 14, 258, 44)]
def glL : List (Str × D) := [(("MOST_PEOPLE" : Str), (.int 8)), (("MOST_SAYINGS" : Str), (.int 12)), (("MOST_DEPTH" : Str), (.int 6)), (("WORDS" : Str), (.dct [(.str ("knight" : Str)), (.str ("liar" : Str)), (.str ("count" : Str)), (.str ("not" : Str)), (.str ("and" : Str)), (.str ("or" : Str)), (.str ("same" : Str))] [(.str ("p" : Str)), (.str ("p" : Str)), (.str ("ng" : Str)), (.str ("s" : Str)), (.str ("ss" : Str)), (.str ("ss" : Str)), (.str ("ss" : Str))]))]
def gdL : List Str := [("WORDS" : Str)]
def G : Cfgs where
  sc := defScope (.Pass ⟨0, 0, 0, 0⟩)
  N := []
  fn := fun x => fnL.lookup x
  gl := fun x => (glL.lookup x).isSome
  hint := fun a b c d => hintL.contains (a, b, c, d)
  kw := fun id ks => kwL.lookup (id, ks)
  gd := fun x => gdL.contains x
  cl := fun x => clL.lookup x
  rs := fun x => rsL.lookup x
end K55
namespace K55
open PySem Vm
def b0 : List Vm.St := [(.ret (.conj [(.isi (.nm 0) [.int])] (.notE (.v (.isi (.nm 0) [.bool])))))]
def b1 : List Vm.St := [(.ret (.conj [(.call 0 false [(.nm 0)] [0])] (.chn .LtE .LtE (.nm 1) (.nm 0) (.nm 2))))]
def b2 : List Vm.St := [(.ret (.conj [(.isi (.nm 0) [.tuple])] (.cmp .Eq (.blt .len false [(.nm 0)]) (.nm 1))))]
def b3 : List Vm.St := [(.ret (.conj [(.call 2 false [(.nm 0), (.nm 1)] [0, 1])] (.blt .all false [(.lc false (.nm 4) [4] (.val (.nm 0)) [] (.call 1 false [(.nm 4), (.nm 2), (.nm 3)] [0, 1, 2]))])))]
def b4 : List Vm.St := [(.ret (.blt .all false [(.lc false (.tup [(.nm 1), (.nm 2)]) [1, 2] (.zip (.nm 0) (.slc false (.nm 0) (.yes (.cst (.int 1))) .no)) [] (.cmp .Lt (.nm 1) (.nm 2)))]))]
def b5 : List Vm.St := [(.ret (.conj [(.isi (.nm 0) [.tuple]), (.call 3 false [(.nm 0), (.blt .len false [(.nm 0)]), (.cst (.int 0)), (.bin .Sub false (.nm 1) (.cst (.int 1)))] [0, 1, 2, 3])] (.call 4 false [(.nm 0)] [0])))]
def b6 : List Vm.St := [(.ife (.neg (.v (.call 1 false [(.nm 0), (.nm 1), (.nm 2)] [0, 1, 2]))) [(.rse 1 [(.nm 0)])] [])]
def b7 : List Vm.St := [(.ife (.cmp .Eq (.nm 1) (.cst (.str ("p" : Str)))) [(.ret (.call 1 false [(.nm 2), (.cst (.int 0)), (.bin .Sub false (.nm 0) (.cst (.int 1)))] [0, 1, 2]))] []), (.ife (.cmp .Eq (.nm 1) (.cst (.str ("n" : Str)))) [(.ret (.call 1 false [(.nm 2), (.cst (.int 0)), (.glb ("MOST_PEOPLE" : Str))] [0, 1, 2]))] []), (.ret (.disj [(.cmp .Eq (.nm 1) (.cst (.str ("s" : Str))))] (.call 5 false [(.nm 2), (.nm 0)] [0, 1])))]
def b8 : List Vm.St := [(.ife (.disj [(.neg (.v (.isi (.nm 1) [.tuple]))), (.cmp .Eq (.nm 1) (.tup [])), (.neg (.v (.isi (.sub (.nm 1) (.cst (.int 0))) [.str]))), (.v (.gin true ("WORDS" : Str) (.sub (.nm 1) (.cst (.int 0)))))]) [(.ret (.cst (.bl false)))] []), (.asg (.nm 2) (.gsub ("WORDS" : Str) (.sub (.nm 1) (.cst (.int 0))))), (.ife (.neg (.v (.call 2 false [(.nm 1), (.bin .Add false (.cst (.int 1)) (.blt .len false [(.nm 2)]))] [0, 1]))) [(.ret (.cst (.bl false)))] []), (.ret (.blt .all false [(.lc false (.tup [(.nm 3), (.nm 4)]) [3, 4] (.zip (.nm 2) (.slc false (.nm 1) (.yes (.cst (.int 1))) .no)) [] (.call 7 false [(.nm 0), (.nm 3), (.nm 4)] [0, 1, 2]))]))]
def b9 : List Vm.St := [(.ret (.lc false (.tup [(.nm 1), (.nm 2)]) [1, 2] (.zip (.gsub ("WORDS" : Str) (.sub (.nm 0) (.cst (.int 0)))) (.slc false (.nm 0) (.yes (.cst (.int 1))) .no)) [(.cmp .Eq (.nm 1) (.cst (.str ("s" : Str))))] (.nm 2)))]
def b10 : List Vm.St := [(.asg (.nm 2) (.lst false [(.nm 1)])), (.for_ false (.nm 3) (.rng1 (.glb ("MOST_DEPTH" : Str))) [(.ife (.neg (.v (.blt .all false [(.lc false (.nm 4) [4] (.val (.nm 2)) [] (.call 8 false [(.nm 0), (.nm 4)] [0, 1]))]))) [(.ret (.cst (.bl false)))] []), (.asg (.nm 2) (.lc2 false (.nm 4) [4, 5] (.val (.nm 2)) [] (.nm 5) [5] (.val (.call 9 false [(.nm 4)] [0])) [] (.nm 5)))]), (.ret (.cmp .Eq (.nm 2) (.lst false [])))]
def b11 : List Vm.St := [(.ret (.conj [(.call 2 false [(.nm 1), (.cst (.int 2))] [0, 1]), (.call 1 false [(.sub (.nm 1) (.cst (.int 0))), (.cst (.int 0)), (.bin .Sub false (.nm 0) (.cst (.int 1)))] [0, 1, 2])] (.call 10 false [(.nm 0), (.sub (.nm 1) (.cst (.int 1)))] [0, 1])))]
def b12 : List Vm.St := [(.asg (.nm 2) (.sub (.nm 1) (.cst (.int 0)))), (.ife (.cmp .In (.nm 2) (.tup [(.cst (.str ("knight" : Str))), (.cst (.str ("liar" : Str)))])) [(.ret (.cmp .Eq (.sub (.nm 0) (.sub (.nm 1) (.cst (.int 1)))) (.cmp .Eq (.nm 2) (.cst (.str ("knight" : Str))))))] []), (.ife (.cmp .Eq (.nm 2) (.cst (.str ("count" : Str)))) [(.ret (.cmp .Eq (.blt .len false [(.lc false (.nm 5) [5] (.val (.sub (.nm 1) (.cst (.int 2)))) [(.v (.sub (.nm 0) (.nm 5)))] (.nm 5))]) (.sub (.nm 1) (.cst (.int 1)))))] []), (.asg (.nm 3) (.lc false (.nm 4) [4] (.val (.call 9 false [(.nm 1)] [0])) [] (.call 12 false [(.nm 0), (.nm 4)] [0, 1]))), (.ife (.cmp .Eq (.nm 2) (.cst (.str ("not" : Str)))) [(.ret (.notE (.v (.sub (.nm 3) (.cst (.int 0))))))] []), (.ife (.cmp .Eq (.nm 2) (.cst (.str ("same" : Str)))) [(.ret (.cmp .Eq (.sub (.nm 3) (.cst (.int 0))) (.sub (.nm 3) (.cst (.int 1)))))] []), (.ret (.ite (.cmp .Eq (.nm 2) (.cst (.str ("and" : Str)))) (.blt .all false [(.nm 3)]) (.blt .any false [(.nm 3)])))]
def b13 : List Vm.St := [(.ife (.disj [(.neg (.v (.isi (.nm 0) [.tuple]))), (.neg (.chn .LtE .LtE (.cst (.int 1)) (.blt .len false [(.nm 0)]) (.glb ("MOST_PEOPLE" : Str))))]) [(.rse 4 [(.nm 0)])] []), (.ife (.neg (.v (.blt .all false [(.lc false (.nm 2) [2] (.val (.nm 0)) [] (.isi (.nm 2) [.bool]))]))) [(.rse 4 [(.nm 0)])] []), (.ife (.neg (.v (.call 10 false [(.blt .len false [(.nm 0)]), (.nm 1)] [0, 1]))) [(.rse 2 [(.nm 1)])] []), (.ret (.call 12 false [(.nm 0), (.nm 1)] [0, 1]))]
def b14 : List Vm.St := [(.expr (.call 6 false [(.nm 0), (.cst (.int 1)), (.glb ("MOST_PEOPLE" : Str))] [0, 1, 2])), (.ife (.disj [(.neg (.v (.isi (.nm 1) [.tuple]))), (.cmp .Gt (.blt .len false [(.nm 1)]) (.glb ("MOST_SAYINGS" : Str)))]) [(.rse 3 [(.nm 1)])] []), (.ife (.neg (.v (.blt .all false [(.lc false (.nm 2) [2] (.val (.nm 1)) [] (.call 11 false [(.nm 0), (.nm 2)] [0, 1]))]))) [(.rse 3 [(.nm 1)])] [])]
def b15 : List Vm.St := [(.ife (.neg (.v (.call 10 false [(.nm 0), (.nm 1)] [0, 1]))) [(.rse 2 [(.nm 1)])] [])]
def b16 : List Vm.St := [(.asg (.nm 1) (.lst false [(.tup [])])), (.for_ false (.nm 2) (.rng1 (.nm 0)) [(.asg (.nm 1) (.lc2 true (.nm 3) [3, 4] (.val (.nm 1)) [] (.nm 4) [4] (.val (.tup [(.cst (.bl false)), (.cst (.bl true))])) [] (.tupS (.nm 3) [(.nm 4)])))]), (.ret (.nm 1))]
def b17 : List Vm.St := [(.asg (.nm 2) (.call 16 true [(.nm 0)] [0])), (.for_ false (.tup [(.nm 3), (.nm 4)]) (.val (.nm 1)) [(.asg (.nm 2) (.lc true (.nm 5) [5] (.val (.nm 2)) [(.cmp .Eq (.call 12 false [(.nm 5), (.nm 4)] [0, 1]) (.sub (.nm 5) (.nm 3)))] (.nm 5)))]), (.ret (.nm 2))]
def b18 : List Vm.St := [(.expr (.call 14 false [(.nm 0), (.nm 1)] [0, 1])), (.ret (.call 17 true [(.nm 0), (.nm 1)] [0, 1]))]
def b19 : List Vm.St := [(.expr (.call 14 false [(.nm 0), (.nm 1)] [0, 1])), (.asg (.nm 2) (.call 17 false [(.nm 0), (.nm 1)] [0, 1])), (.ret (.ite (.cmp .Eq (.blt .len false [(.nm 2)]) (.cst (.int 1))) (.sub (.nm 2) (.cst (.int 0))) (.cst .non)))]
def b20 : List Vm.St := [(.expr (.call 14 false [(.nm 0), (.nm 1)] [0, 1])), (.expr (.call 15 false [(.nm 0), (.nm 2)] [0, 1])), (.asg (.nm 3) (.lc false (.nm 4) [4] (.val (.call 17 false [(.nm 0), (.nm 1)] [0, 1])) [] (.call 12 false [(.nm 4), (.nm 2)] [0, 1]))), (.ife (.disj [(.cmp .Eq (.nm 3) (.lst false [])), (.conj [(.v (.blt .any false [(.nm 3)])), (.neg (.v (.blt .all false [(.nm 3)])))])]) [(.ret (.cst .non))] []), (.ret (.sub (.nm 3) (.cst (.int 0))))]
def b21 : List Vm.St := [(.ret (.ite (.cmp .Lt (.nm 1) (.blt .len false [(.nm 0)])) (.sub (.nm 0) (.nm 1)) (.bin .Add false (.bin .Mult false (.cst (.int 6007)) (.nm 1)) (.bin .Mod false (.blt .int false [(.blt .sum false [(.slc false (.nm 0) .no (.yes (.cst (.int 1))))])]) (.cst (.int 1000033))))))]
def b22 : List Vm.St := [(.ret (.lst true [(.blt .abs false [(.nm 0)]), (.cmp .GtE (.blt .abs false [(.nm 0)]) (.bin .Pow false (.cst (.int 10)) (.cst (.int 18)))), (.bin .Mod false (.blt .int false [(.blt .abs false [(.nm 0)])]) (.cst (.int 2147483629))), (.cst (.int 0))]))]
def b23 : List Vm.St := [(.ife (.conj [(.v (.sub (.nm 0) (.cst (.int 1)))), (.cmp .Gt (.sub (.nm 0) (.cst (.int 0))) (.cst (.int 0)))]) [(.asg (.nm 3) (.bin .Mod false (.blt .int false [(.sub (.nm 0) (.cst (.int 0)))]) (.nm 1))), (.put (.nm 0) (.cst (.int 0)) (.bin .FloorDiv false (.sub (.nm 0) (.cst (.int 0))) (.nm 1))), (.ret (.nm 3))] []), (.put (.nm 0) (.cst (.int 3)) (.bin .Add false (.sub (.nm 0) (.cst (.int 3))) (.cst (.int 1)))), (.asg (.nm 2) (.bin .Mod false (.blt .int false [(.bin .Pow false (.bin .Add false (.bin .Add false (.sub (.nm 0) (.cst (.int 2))) (.bin .Mult false (.cst (.int 15485863)) (.sub (.nm 0) (.cst (.int 3))))) (.cst (.int 179424673))) (.cst (.int 5)))]) (.cst (.int 2147483647)))), (.ret (.bin .Mod false (.blt .int false [(.bin .FloorDiv false (.bin .Mod false (.blt .int false [(.bin .Pow false (.bin .Add false (.bin .Mult false (.nm 2) (.cst (.int 48271))) (.bin .Mult false (.cst (.int 104729)) (.sub (.nm 0) (.cst (.int 3))))) (.cst (.int 3)))]) (.cst (.int 2147483587))) (.cst (.int 64)))]) (.nm 1)))]
def b24 : List Vm.St := [(.ife (.disj [(.cmp .Is (.nm 1) (.cst .non)), (.v (.isi (.nm 1) [.bool]))]) [(.ret (.ite (.cmp .Is (.nm 1) (.cst .non)) (.cmp .Is (.nm 0) (.cst .non)) (.conj [(.isi (.nm 0) [.bool])] (.cmp .Eq (.cmp .Is (.nm 0) (.cst (.bl true))) (.cmp .Is (.nm 1) (.cst (.bl true)))))))] []), (.ife (.v (.isi (.nm 1) [.int])) [(.ret (.conj [(.isi (.nm 0) [.int]), (.notE (.v (.isi (.nm 0) [.bool])))] (.cmp .Eq (.bin .Sub false (.blt .int false [(.nm 0)]) (.nm 1)) (.cst (.int 0)))))] []), (.ife (.v (.isi (.nm 1) [.str])) [(.ret (.conj [(.isi (.nm 0) [.str]), (.cmp .Eq (.blt .len false [(.nm 0)]) (.blt .len false [(.nm 1)]))] (.cmp .Eq (.lc false (.nm 2) [2] (.rng1 (.blt .len false [(.nm 1)])) [(.cmp .NotEq (.slc false (.nm 0) (.yes (.nm 2)) (.yes (.bin .Add false (.nm 2) (.cst (.int 1))))) (.sub (.nm 1) (.nm 2)))] (.nm 2)) (.lst false []))))] []), (.ife (.disj [(.cmp .NotEq (.isi (.nm 0) [.list]) (.isi (.nm 1) [.list])), (.cmp .NotEq (.isi (.nm 0) [.tuple]) (.isi (.nm 1) [.tuple]))]) [(.ret (.cst (.bl false)))] []), (.ret (.conj [(.cmp .Eq (.blt .len false [(.nm 0)]) (.blt .len false [(.nm 1)]))] (.cmp .Eq (.lc false (.nm 2) [2] (.rng1 (.blt .len false [(.nm 1)])) [(.neg (.v (.call 24 false [(.sub (.nm 0) (.nm 2)), (.sub (.nm 1) (.nm 2))] [0, 1])))] (.nm 2)) (.lst false []))))]
def b25 : List Vm.St := [(.asg (.nm 3) (.call 23 false [(.nm 0), (.cst (.int 8))] [0, 1])), (.ife (.disj [(.cmp .Lt (.nm 2) (.cst (.int 2))), (.cmp .Lt (.nm 3) (.cst (.int 2)))]) [(.ret (.tup [(.sub (.lst false [(.cst (.str ("knight" : Str))), (.cst (.str ("liar" : Str)))]) (.call 23 false [(.nm 0), (.cst (.int 2))] [0, 1])), (.call 23 false [(.nm 0), (.nm 1)] [0, 1])]))] []), (.ife (.cmp .Eq (.nm 3) (.cst (.int 2))) [(.ret (.tup [(.cst (.str ("count" : Str))), (.blt .min2 false [(.cst (.int 8)), (.call 23 false [(.nm 0), (.bin .Add false (.nm 1) (.cst (.int 2)))] [0, 1])]), (.blt .tuple false [(.lc false (.nm 4) [4] (.rng1 (.nm 1)) [(.cmp .Eq (.call 23 false [(.nm 0), (.cst (.int 2))] [0, 1]) (.cst (.int 0)))] (.nm 4))])]))] []), (.ife (.cmp .Eq (.nm 3) (.cst (.int 3))) [(.ret (.tup [(.cst (.str ("not" : Str))), (.call 25 false [(.nm 0), (.nm 1), (.bin .Sub false (.nm 2) (.cst (.int 1)))] [0, 1, 2])]))] []), (.ret (.tup [(.sub (.lst false [(.cst (.str ("and" : Str))), (.cst (.str ("or" : Str))), (.cst (.str ("same" : Str)))]) (.call 23 false [(.nm 0), (.cst (.int 3))] [0, 1])), (.call 25 false [(.nm 0), (.nm 1), (.bin .Sub false (.nm 2) (.cst (.int 1)))] [0, 1, 2]), (.call 25 false [(.nm 0), (.nm 1), (.bin .Sub false (.nm 2) (.cst (.int 1)))] [0, 1, 2])]))]
def b26 : List Vm.St := [(.asg (.nm 2) (.sub (.nm 1) (.cst (.int 0)))), (.ife (.cmp .In (.nm 2) (.tup [(.cst (.str ("knight" : Str))), (.cst (.str ("liar" : Str)))])) [(.ret (.cmp .Eq (.sub (.nm 0) (.sub (.nm 1) (.cst (.int 1)))) (.cmp .Eq (.nm 2) (.cst (.str ("knight" : Str))))))] []), (.ife (.cmp .Eq (.nm 2) (.cst (.str ("count" : Str)))) [(.ret (.cmp .Eq (.blt .len false [(.lc false (.nm 5) [5] (.val (.sub (.nm 1) (.cst (.int 2)))) [(.v (.sub (.nm 0) (.nm 5)))] (.nm 5))]) (.sub (.nm 1) (.cst (.int 1)))))] []), (.ife (.cmp .Eq (.nm 2) (.cst (.str ("not" : Str)))) [(.ret (.notE (.v (.call 26 false [(.nm 0), (.sub (.nm 1) (.cst (.int 1)))] [0, 1]))))] []), (.asg (.tup [(.nm 3), (.nm 4)]) (.tup [(.call 26 false [(.nm 0), (.sub (.nm 1) (.cst (.int 1)))] [0, 1]), (.call 26 false [(.nm 0), (.sub (.nm 1) (.cst (.int 2)))] [0, 1])])), (.ife (.cmp .Eq (.nm 2) (.cst (.str ("same" : Str)))) [(.ret (.cmp .Eq (.nm 3) (.nm 4)))] []), (.ret (.ite (.cmp .Eq (.nm 2) (.cst (.str ("and" : Str)))) (.conj [(.nm 3)] (.nm 4)) (.disj [(.nm 3)] (.nm 4))))]
def b27 : List Vm.St := [(.asg (.nm 1) (.lst false [(.tup [])])), (.for_ false (.nm 2) (.rng1 (.nm 0)) [(.asg (.nm 3) (.lst true [])), (.for_ false (.nm 4) (.val (.nm 1)) [(.expr (.met .extend (.nm 3) [(.lst false [(.bin .Add false (.nm 4) (.tup [(.cst (.bl false))])), (.bin .Add false (.nm 4) (.tup [(.cst (.bl true))]))])]))]), (.asg (.nm 1) (.nm 3))]), (.ret (.nm 1))]
def b28 : List Vm.St := [(.asg (.nm 2) (.lst true [])), (.for_ false (.nm 3) (.val (.call 27 false [(.nm 0)] [0])) [(.ife (.cmp .Eq (.lc false (.tup [(.nm 4), (.nm 5)]) [4, 5] (.val (.nm 1)) [(.cmp .NotEq (.call 26 false [(.nm 3), (.nm 5)] [0, 1]) (.sub (.nm 3) (.nm 4)))] (.cst (.int 1))) (.lst false [])) [(.expr (.met .append (.nm 2) [(.nm 3)]))] [])]), (.ret (.nm 2))]
def b29 : List Vm.St := [(.asg (.tup [(.nm 2), (.nm 3)]) (.tup [(.sub (.lst false [(.cst (.int 2)), (.cst (.int 3)), (.cst (.int 4)), (.cst (.int 1)), (.cst (.int 5)), (.cst (.int 3))]) (.call 23 false [(.nm 0), (.cst (.int 6))] [0, 1])), (.call 23 false [(.nm 0), (.cst (.int 4))] [0, 1])])), (.asg (.tup [(.nm 4), (.nm 5)]) (.tup [(.blt .tuple false [(.lc false (.nm 8) [8] (.rng1 (.nm 2)) [] (.cmp .Eq (.call 23 false [(.nm 0), (.cst (.int 2))] [0, 1]) (.cst (.int 0))))]), (.lst true [])])), (.for_ false (.nm 1) (.rng1 (.call 23 false [(.nm 0), (.cst (.int 6))] [0, 1])) [(.asg (.tup [(.nm 6), (.nm 7)]) (.tup [(.call 23 false [(.nm 0), (.nm 2)] [0, 1]), (.call 25 false [(.nm 0), (.nm 2), (.bin .Add false (.cst (.int 1)) (.call 23 false [(.nm 0), (.cst (.int 4))] [0, 1]))] [0, 1, 2])])), (.ife (.conj [(.cmp .Gt (.nm 3) (.cst (.int 0))), (.cmp .NotEq (.call 26 false [(.nm 4), (.nm 7)] [0, 1]) (.sub (.nm 4) (.nm 6)))]) [(.asg (.nm 7) (.tup [(.cst (.str ("not" : Str))), (.nm 7)]))] []), (.expr (.met .append (.nm 5) [(.tup [(.nm 6), (.nm 7)])]))]), (.ife (.conj [(.cmp .Eq (.nm 3) (.cst (.int 3))), (.cmp .Eq (.call 23 false [(.nm 0), (.cst (.int 2))] [0, 1]) (.cst (.int 0)))]) [(.asg (.nm 6) (.call 23 false [(.nm 0), (.nm 2)] [0, 1])), (.expr (.met .append (.nm 5) [(.tup [(.nm 6), (.tup [(.cst (.str ("liar" : Str))), (.nm 6)])])]))] []), (.ret (.lst false [(.nm 2), (.blt .tuple false [(.nm 5)])]))]
def b30 : List Vm.St := [(.try_ [(.ife (.cmp .Eq (.nm 0) (.cst (.int 0))) [(.ret (.lst false [(.cst (.str ("told" : Str))), (.ite (.v (.nm 4)) (.call 18 true [(.nm 2), (.nm 1)] [1, 0]) (.call 18 true [(.nm 1), (.nm 2)] [0, 1]))]))] []), (.ife (.cmp .Eq (.nm 0) (.cst (.int 1))) [(.ret (.lst false [(.cst (.str ("told" : Str))), (.ite (.v (.nm 4)) (.call 19 false [(.nm 2), (.nm 1)] [1, 0]) (.call 19 false [(.nm 1), (.nm 2)] [0, 1]))]))] []), (.ife (.cmp .Eq (.nm 0) (.cst (.int 2))) [(.ret (.lst false [(.cst (.str ("told" : Str))), (.ite (.v (.nm 4)) (.call 20 false [(.nm 3), (.nm 2), (.nm 1)] [2, 1, 0]) (.call 20 false [(.nm 1), (.nm 2), (.nm 3)] [0, 1, 2]))]))] []), (.ret (.lst false [(.cst (.str ("told" : Str))), (.ite (.v (.nm 4)) (.call 13 false [(.nm 2), (.nm 1)] [1, 0]) (.call 13 false [(.nm 1), (.nm 2)] [0, 1]))]))] [⟨1, (some 5), false, [(.cst (.str ("number" : Str))), (.fld ("given" : Str))]⟩, ⟨3, (some 5), false, [(.cst (.str ("sayings" : Str))), (.fld ("given" : Str))]⟩, ⟨2, (some 5), false, [(.cst (.str ("saying" : Str))), (.fld ("given" : Str))]⟩, ⟨4, (some 5), false, [(.cst (.str ("world" : Str))), (.fld ("given" : Str))]⟩, ⟨0, none, false, [(.cst (.str ("other" : Str))), (.cst .non)]⟩])]
def b31 : List Vm.St := [(.asg (.nm 4) (.call 28 false [(.nm 1), (.nm 2)] [0, 1])), (.for_ false (.nm 5) (.val (.tup [(.nm 3), (.notE (.v (.nm 3)))])) [(.asg (.nm 7) (.lc false (.nm 13) [13] (.val (.tup [(.cst (.int 0)), (.cst (.int 1))])) [] (.call 30 true [(.nm 13), (.nm 1), (.nm 2), (.cst .non), (.nm 5)] [0, 1, 2, 3, 4]))), (.ife (.neg (.v (.call 24 false [(.nm 7), (.lst false [(.lst false [(.cst (.str ("told" : Str))), (.nm 4)]), (.lst false [(.cst (.str ("told" : Str))), (.ite (.cmp .Eq (.blt .len false [(.nm 4)]) (.cst (.int 1))) (.sub (.nm 4) (.cst (.int 0))) (.cst .non))])])] [0, 1]))) [(.ret (.cst (.bl false)))] []), (.expr (.met .append (.sub (.sub (.nm 7) (.cst (.int 0))) (.cst (.int 1))) [(.cst .non)]))]), (.for_ false (.nm 6) (.rng1 (.cst (.int 5))) [(.asg (.nm 8) (.call 25 false [(.nm 0), (.nm 1), (.bin .Add false (.cst (.int 1)) (.call 23 false [(.nm 0), (.cst (.int 5))] [0, 1]))] [0, 1, 2])), (.ife (.conj [(.cmp .Eq (.nm 6) (.cst (.int 4))), (.cmp .NotEq (.nm 4) (.lst false []))]) [(.asg (.nm 12) (.call 23 false [(.nm 0), (.nm 1)] [0, 1])), (.asg (.nm 8) (.tup [(.sub (.lst false [(.cst (.str ("or" : Str))), (.cst (.str ("and" : Str)))]) (.call 23 false [(.nm 0), (.cst (.int 2))] [0, 1])), (.tup [(.cst (.str ("knight" : Str))), (.nm 12)]), (.tup [(.cst (.str ("liar" : Str))), (.nm 12)])]))] []), (.asg (.nm 9) (.lc false (.nm 11) [11] (.val (.nm 4)) [] (.call 26 false [(.nm 11), (.nm 8)] [0, 1]))), (.asg (.nm 10) (.ite (.disj [(.cmp .Eq (.nm 9) (.lst false [])), (.conj [(.cmp .In (.cst (.bl true)) (.nm 9)), (.cmp .In (.cst (.bl false)) (.nm 9))])]) (.cst .non) (.sub (.nm 9) (.cst (.int 0))))), (.ife (.neg (.v (.call 24 false [(.lc false (.nm 5) [5] (.val (.tup [(.nm 3), (.notE (.v (.nm 3)))])) [] (.call 30 false [(.cst (.int 2)), (.nm 1), (.nm 2), (.nm 8), (.nm 5)] [0, 1, 2, 3, 4])), (.bin .Mult false (.lst false [(.lst false [(.cst (.str ("told" : Str))), (.nm 10)])]) (.cst (.int 2)))] [0, 1]))) [(.ret (.cst (.bl false)))] []), (.asg (.nm 11) (.blt .tuple false [(.lc false (.nm 12) [12] (.rng1 (.nm 1)) [] (.cmp .Eq (.call 23 false [(.nm 0), (.cst (.int 2))] [0, 1]) (.cst (.int 0))))])), (.ife (.neg (.v (.call 24 false [(.lc false (.nm 5) [5] (.val (.tup [(.nm 3), (.notE (.v (.nm 3)))])) [] (.call 30 false [(.cst (.int 3)), (.nm 11), (.nm 8), (.cst .non), (.nm 5)] [0, 1, 2, 3, 4])), (.bin .Mult false (.lst false [(.lst false [(.cst (.str ("told" : Str))), (.call 26 false [(.nm 11), (.nm 8)] [0, 1])])]) (.cst (.int 2)))] [0, 1]))) [(.ret (.cst (.bl false)))] [])]), (.ret (.cst (.bl true)))]
def b32 : List Vm.St := [(.asg (.nm 2) (.tup [(.cst (.str ("knight" : Str))), (.cst (.int 0))])), (.for_ false (.nm 3) (.rng1 (.cst (.int 9))) [(.asg (.nm 2) (.tup [(.cst (.str ("not" : Str))), (.nm 2)]))]), (.asg (.nm 4) (.lst false [(.cst .non), (.tup []), (.cst (.str ("knight" : Str))), (.tup [(.cst (.str ("knight" : Str)))]), (.tup [(.cst (.str ("knight" : Str))), (.nm 1)]), (.tup [(.cst (.str ("knight" : Str))), (.una .USub (.cst (.int 1)))]), (.tup [(.cst (.str ("knight" : Str))), (.cst (.bl true))]), (.tup [(.cst (.str ("knight" : Str))), (.cst (.int 0)), (.cst (.int 0))]), (.lst false [(.cst (.str ("knight" : Str))), (.cst (.int 0))]), (.tup [(.cst (.str ("liar" : Str))), (.cst (.str ("0" : Str)))]), (.tup [(.cst (.str ("Knight" : Str))), (.cst (.int 0))]), (.tup [(.cst (.str ("count" : Str))), (.cst (.int 1))])])), (.asg (.nm 4) (.bin .Add false (.nm 4) (.lst false [(.tup [(.cst (.str ("count" : Str))), (.cst (.int 9)), (.tup [(.cst (.int 0))])]), (.tup [(.cst (.str ("count" : Str))), (.una .USub (.cst (.int 1))), (.tup [(.cst (.int 0))])])]))), (.asg (.nm 4) (.bin .Add false (.nm 4) (.lst false [(.tup [(.cst (.str ("count" : Str))), (.cst (.bl true)), (.tup [(.cst (.int 0))])]), (.tup [(.cst (.str ("count" : Str))), (.cst (.int 0)), (.lst false [(.cst (.int 0))])]), (.tup [(.cst (.str ("count" : Str))), (.cst (.int 0)), (.tup [(.cst (.int 0)), (.cst (.int 0))])]), (.tup [(.cst (.str ("count" : Str))), (.cst (.int 0)), (.tup [(.nm 1)])]), (.tup [(.cst (.str ("not" : Str)))]), (.tup [(.cst (.str ("not" : Str))), (.tup [(.cst (.str ("knight" : Str))), (.nm 1)])]), (.tup [(.cst (.str ("not" : Str))), (.cst .non)]), (.tup [(.cst (.str ("and" : Str))), (.tup [(.cst (.str ("knight" : Str))), (.cst (.int 0))])])]))), (.asg (.nm 4) (.bin .Add false (.nm 4) (.lst false [(.tup [(.cst (.str ("or" : Str))), (.tup [(.cst (.str ("knight" : Str))), (.cst (.int 0))]), (.cst .non)]), (.nm 2)]))), (.asg (.nm 4) (.bin .Add false (.nm 4) (.lst false [(.tup [(.cst (.str ("same" : Str))), (.tup [(.cst (.str ("knight" : Str))), (.cst (.int 0))]), (.tup [(.cst (.str ("knight" : Str))), (.cst (.int 0))]), (.tup [(.cst (.str ("knight" : Str))), (.cst (.int 0))])]), (.tup [(.cst (.str ("xor" : Str))), (.tup [(.cst (.str ("knight" : Str))), (.cst (.int 0))]), (.tup [(.cst (.str ("knight" : Str))), (.cst (.int 0))])]), (.tup [(.cst (.str ("not" : Str))), (.lst false [(.cst (.str ("knight" : Str))), (.cst (.int 0))])]), (.cst (.int 5)), (.tup [(.cst (.str ("knight" : Str))), (.cst .non)])]))), (.asg (.nm 4) (.bin .Add false (.nm 4) (.lst false [(.tup [(.cst (.str ("and" : Str))), (.tup [(.cst (.str ("liar" : Str))), (.cst (.int 0))]), (.tup [(.cst (.str ("liar" : Str))), (.nm 1)])])]))), (.ret (.sub (.nm 4) (.call 23 false [(.nm 0), (.cst (.int 30))] [0, 1])))]
def b33 : List Vm.St := [(.asg (.nm 4) (.sub (.lst false [(.cst .non), (.cst (.int 0)), (.cst (.int 9)), (.una .USub (.cst (.int 1))), (.cst (.bl true)), (.cst (.str ("2" : Str))), (.tup [(.cst (.int 2))]), (.bin .Pow false (.cst (.int 10)) (.cst (.int 20)))]) (.call 23 false [(.nm 0), (.cst (.int 8))] [0, 1]))), (.asg (.nm 5) (.call 32 false [(.nm 0), (.nm 1)] [0, 1])), (.asg (.nm 6) (.tup [(.cst (.int 0)), (.tup [(.cst (.str ("knight" : Str))), (.cst (.int 0))])])), (.asg (.nm 7) (.lst false [(.cst .non), (.blt .list false [(.nm 2)]), (.tup [(.cst .non)]), (.tup [(.tup [(.cst (.int 0))])]), (.tup [(.tup [(.cst (.int 0)), (.nm 5)])]), (.tup [(.tup [(.nm 1), (.tup [(.cst (.str ("knight" : Str))), (.cst (.int 0))])])]), (.tup [(.tup [(.una .USub (.cst (.int 1))), (.tup [(.cst (.str ("knight" : Str))), (.cst (.int 0))])])]), (.tup [(.tup [(.cst (.bl true)), (.tup [(.cst (.str ("knight" : Str))), (.cst (.int 0))])])]), (.tup [(.lst false [(.cst (.int 0)), (.tup [(.cst (.str ("knight" : Str))), (.cst (.int 0))])])]), (.bin .Mult false (.tup [(.nm 6)]) (.cst (.int 13)))])), (.asg (.nm 7) (.bin .Add false (.nm 7) (.lst false [(.cst (.str ("sayings" : Str))), (.cst (.int 5)), (.bin .Add false (.slc false (.nm 2) .no (.yes (.cst (.int 11)))) (.tup [(.tup [(.cst (.int 0)), (.nm 5)])])), (.tup [(.bin .Add false (.nm 6) (.tup [(.cst (.int 0))]))])]))), (.asg (.nm 8) (.sub (.nm 7) (.call 23 false [(.nm 0), (.cst (.int 14))] [0, 1]))), (.for_ false (.nm 9) (.rng1 (.cst (.int 3))) [(.asg (.nm 11) (.lst false [(.call 30 false [(.nm 9), (.nm 4), (.nm 8), (.nm 5), (.nm 3)] [0, 1, 2, 3, 4]), (.call 30 false [(.nm 9), (.nm 1), (.nm 8), (.nm 5), (.notE (.v (.nm 3)))] [0, 1, 2, 3, 4])])), (.ife (.neg (.v (.call 24 false [(.nm 11), (.lst false [(.lst false [(.cst (.str ("number" : Str))), (.nm 4)]), (.lst false [(.cst (.str ("sayings" : Str))), (.nm 8)])])] [0, 1]))) [(.ret (.cst (.bl false)))] [])]), (.ife (.neg (.v (.call 24 false [(.call 30 false [(.cst (.int 2)), (.nm 1), (.nm 2), (.nm 5), (.nm 3)] [0, 1, 2, 3, 4]), (.lst false [(.cst (.str ("saying" : Str))), (.nm 5)])] [0, 1]))) [(.ret (.cst (.bl false)))] []), (.asg (.nm 10) (.sub (.lst false [(.cst .non), (.tup []), (.lst false [(.cst (.bl true))]), (.tup [(.cst (.int 1))]), (.tup [(.cst (.bl true)), (.cst .non)]), (.cst (.str ("11" : Str))), (.tup [(.cst (.int 0)), (.cst (.int 1))]), (.bin .Mult false (.tup [(.cst (.bl true))]) (.cst (.int 9))), (.cst (.int 5)), (.tup [(.cst (.bl true)), (.cst (.str ("False" : Str)))])]) (.call 23 false [(.nm 0), (.cst (.int 10))] [0, 1]))), (.asg (.nm 11) (.lst false [(.call 30 false [(.cst (.int 3)), (.nm 10), (.nm 5), (.cst .non), (.nm 3)] [0, 1, 2, 3, 4]), (.call 30 false [(.cst (.int 3)), (.bin .Mult false (.tup [(.cst (.bl true))]) (.nm 1)), (.nm 5), (.cst .non), (.notE (.v (.nm 3)))] [0, 1, 2, 3, 4])])), (.ret (.call 24 false [(.nm 11), (.lst false [(.lst false [(.cst (.str ("world" : Str))), (.nm 10)]), (.lst false [(.cst (.str ("saying" : Str))), (.nm 5)])])] [0, 1]))]
def b34 : List Vm.St := [(.for_ false (.nm 1) (.rng1 (.blt .max2 false [(.cst (.int 2)), (.blt .min2 false [(.cst (.int 5)), (.blt .len false [(.nm 0)])])])) [(.asg (.nm 2) (.call 22 true [(.call 21 false [(.nm 0), (.nm 1)] [0, 1])] [0])), (.asg (.nm 3) (.cmp .Eq (.call 23 false [(.nm 2), (.cst (.int 2))] [0, 1]) (.cst (.int 0)))), (.for_ false (.nm 4) (.rng1 (.cst (.int 2))) [(.asg (.tup [(.nm 6), (.nm 7)]) (.call 29 false [(.nm 2)] [0])), (.ife (.disj [(.neg (.v (.call 31 false [(.nm 2), (.nm 6), (.nm 7), (.nm 3)] [0, 1, 2, 3]))), (.neg (.v (.call 33 false [(.nm 2), (.nm 6), (.nm 7), (.nm 3)] [0, 1, 2, 3])))]) [(.ret (.cst (.bl false)))] []), (.asg (.nm 3) (.notE (.v (.nm 3))))]), (.asg (.nm 5) (.blt .tuple false [(.lc false (.nm 8) [8] (.rng1 (.cst (.int 12))) [] (.tup [(.bin .Mod false (.nm 8) (.cst (.int 8))), (.tup [(.cst (.str ("count" : Str))), (.cst (.int 4)), (.rng1 false true (.cst (.int 8)))])]))])), (.ife (.conj [(.cmp .Eq (.call 23 false [(.nm 2), (.cst (.int 4))] [0, 1]) (.cst (.int 0))), (.neg (.v (.call 31 false [(.nm 2), (.cst (.int 8)), (.nm 5), (.nm 3)] [0, 1, 2, 3])))]) [(.ret (.cst (.bl false)))] [])]), (.ret (.cst (.bl true)))]
end K55
namespace K55
open PySem Vm
def subL : List (Nat × Nat × Bool) := [(1, 1, true), (1, 2, false), (1, 3, false), (1, 4, false), (1, 0, true), (2, 1, false), (2, 2, true), (2, 3, false), (2, 4, false), (2, 0, true), (3, 1, false), (3, 2, false), (3, 3, true), (3, 4, false), (3, 0, true), (4, 1, false), (4, 2, false), (4, 3, false), (4, 4, true), (4, 0, true)]
def subF (c c' : Nat) : Option Bool := (subL.find? fun q => q.1 == c && q.2.1 == c').map (·.2.2)
theorem sub_mem {c c' : Nat} {b : Bool} (h : subF c c' = some b) : (c, c', b) ∈ subL := by
  unfold subF at h
  obtain ⟨q, h1, rfl⟩ := Option.map_eq_some_iff.mp h
  have hm := List.mem_of_find?_eq_some h1
  have hp := List.find?_some h1
  simp only [Bool.and_eq_true, beq_iff_eq] at hp
  obtain ⟨rfl, rfl⟩ := hp
  exact hm
def cfF : Nat → List Str
  | 1 => [("given" : Str)]
  | 2 => [("given" : Str)]
  | 3 => [("given" : Str)]
  | 4 => [("given" : Str)]
  | _ => []
def bodies : List (List Vm.St) := [b0, b1, b2, b3, b4, b5, b6, b7, b8, b9, b10, b11, b12, b13, b14, b15, b16, b17, b18, b19, b20, b21, b22, b23, b24, b25, b26, b27, b28, b29, b30, b31, b32, b33, b34]
def P : Pg where
  fd := fun i => match fdefs[i]?, bodies[i]? with
    | some d, some b => some ⟨d.ps.length, d.N.length, b⟩
    | _, _ => none
  glb := fun x => glL.lookup x
  wh := 2000
  sub := subF
  cf := cfF
end K55
namespace K55
open PySem L2 Vm
theorem kw_mem {id : Nat} {ks : List Str} {pm : List Nat} (h : G.kw id ks = some pm) : ((id, ks), pm) ∈ kwL := lk_mem (show kwL.lookup (id, ks) = some pm from h)
def d0 : Fdef := fdefs.getD 0 ⟨"", top 0, [], []⟩
theorem ds0 : DefS P G 0 d0 := ⟨⟨rfl, rfl, rfl, by decide +kernel, rfl, by decide +kernel, by decide +kernel⟩, fun _ _ _ _ _ _ us hl => match us, hl with | [_], _ => rfl, fun ks pm h => absurd (kw_mem h) (by simp [kwL]), ⟨90, b0, by kernel_rfl, rfl⟩⟩
def d1 : Fdef := fdefs.getD 1 ⟨"", top 0, [], []⟩
theorem ds1 : DefS P G 1 d1 := ⟨⟨rfl, rfl, rfl, by decide +kernel, rfl, by decide +kernel, by decide +kernel⟩, fun _ _ _ _ _ _ us hl => match us, hl with | [_, _, _], _ => rfl, fun ks pm h => absurd (kw_mem h) (by simp [kwL]), ⟨90, b1, by kernel_rfl, rfl⟩⟩
def d2 : Fdef := fdefs.getD 2 ⟨"", top 0, [], []⟩
theorem ds2 : DefS P G 2 d2 := ⟨⟨rfl, rfl, rfl, by decide +kernel, rfl, by decide +kernel, by decide +kernel⟩, fun _ _ _ _ _ _ us hl => match us, hl with | [_, _], _ => rfl, fun ks pm h => absurd (kw_mem h) (by simp [kwL]), ⟨90, b2, by kernel_rfl, rfl⟩⟩
def d3 : Fdef := fdefs.getD 3 ⟨"", top 0, [], []⟩
theorem ds3 : DefS P G 3 d3 := ⟨⟨rfl, rfl, rfl, by decide +kernel, rfl, by decide +kernel, by decide +kernel⟩, fun _ _ _ _ _ _ us hl => match us, hl with | [_, _, _, _], _ => rfl, fun ks pm h => absurd (kw_mem h) (by simp [kwL]), ⟨90, b3, by kernel_rfl, rfl⟩⟩
def d4 : Fdef := fdefs.getD 4 ⟨"", top 0, [], []⟩
theorem ds4 : DefS P G 4 d4 := ⟨⟨rfl, rfl, rfl, by decide +kernel, rfl, by decide +kernel, by decide +kernel⟩, fun _ _ _ _ _ _ us hl => match us, hl with | [_], _ => rfl, fun ks pm h => absurd (kw_mem h) (by simp [kwL]), ⟨90, b4, by kernel_rfl, rfl⟩⟩
def d5 : Fdef := fdefs.getD 5 ⟨"", top 0, [], []⟩
theorem ds5 : DefS P G 5 d5 := ⟨⟨rfl, rfl, rfl, by decide +kernel, rfl, by decide +kernel, by decide +kernel⟩, fun _ _ _ _ _ _ us hl => match us, hl with | [_, _], _ => rfl, fun ks pm h => absurd (kw_mem h) (by simp [kwL]), ⟨90, b5, by kernel_rfl, rfl⟩⟩
def d6 : Fdef := fdefs.getD 6 ⟨"", top 0, [], []⟩
theorem ds6 : DefS P G 6 d6 := ⟨⟨rfl, rfl, rfl, by decide +kernel, rfl, by decide +kernel, by decide +kernel⟩, fun _ _ _ _ _ _ us hl => match us, hl with | [_, _, _], _ => rfl, fun ks pm h => absurd (kw_mem h) (by simp [kwL]), ⟨90, b6, by kernel_rfl, rfl⟩⟩
def d7 : Fdef := fdefs.getD 7 ⟨"", top 0, [], []⟩
theorem ds7 : DefS P G 7 d7 := ⟨⟨rfl, rfl, rfl, by decide +kernel, rfl, by decide +kernel, by decide +kernel⟩, fun _ _ _ _ _ _ us hl => match us, hl with | [_, _, _], _ => rfl, fun ks pm h => absurd (kw_mem h) (by simp [kwL]), ⟨90, b7, by kernel_rfl, rfl⟩⟩
def d8 : Fdef := fdefs.getD 8 ⟨"", top 0, [], []⟩
theorem ds8 : DefS P G 8 d8 := ⟨⟨rfl, rfl, rfl, by decide +kernel, rfl, by decide +kernel, by decide +kernel⟩, fun _ _ _ _ _ _ us hl => match us, hl with | [_, _], _ => rfl, fun ks pm h => absurd (kw_mem h) (by simp [kwL]), ⟨90, b8, by kernel_rfl, rfl⟩⟩
def d9 : Fdef := fdefs.getD 9 ⟨"", top 0, [], []⟩
theorem ds9 : DefS P G 9 d9 := ⟨⟨rfl, rfl, rfl, by decide +kernel, rfl, by decide +kernel, by decide +kernel⟩, fun _ _ _ _ _ _ us hl => match us, hl with | [_], _ => rfl, fun ks pm h => absurd (kw_mem h) (by simp [kwL]), ⟨90, b9, by kernel_rfl, rfl⟩⟩
def d10 : Fdef := fdefs.getD 10 ⟨"", top 0, [], []⟩
theorem ds10 : DefS P G 10 d10 := ⟨⟨rfl, rfl, rfl, by decide +kernel, rfl, by decide +kernel, by decide +kernel⟩, fun _ _ _ _ _ _ us hl => match us, hl with | [_, _], _ => rfl, fun ks pm h => absurd (kw_mem h) (by simp [kwL]), ⟨90, b10, by kernel_rfl, rfl⟩⟩
def d11 : Fdef := fdefs.getD 11 ⟨"", top 0, [], []⟩
theorem ds11 : DefS P G 11 d11 := ⟨⟨rfl, rfl, rfl, by decide +kernel, rfl, by decide +kernel, by decide +kernel⟩, fun _ _ _ _ _ _ us hl => match us, hl with | [_, _], _ => rfl, fun ks pm h => absurd (kw_mem h) (by simp [kwL]), ⟨90, b11, by kernel_rfl, rfl⟩⟩
def d12 : Fdef := fdefs.getD 12 ⟨"", top 0, [], []⟩
theorem ds12 : DefS P G 12 d12 := ⟨⟨rfl, rfl, rfl, by decide +kernel, rfl, by decide +kernel, by decide +kernel⟩, fun _ _ _ _ _ _ us hl => match us, hl with | [_, _], _ => rfl, fun ks pm h => absurd (kw_mem h) (by simp [kwL]), ⟨90, b12, by kernel_rfl, rfl⟩⟩
def d13 : Fdef := fdefs.getD 13 ⟨"", top 0, [], []⟩
theorem ds13 : DefS P G 13 d13 := ⟨⟨rfl, rfl, rfl, by decide +kernel, rfl, by decide +kernel, by decide +kernel⟩, fun _ _ _ _ _ _ us hl => match us, hl with | [_, _], _ => rfl, fun ks pm h => by
    have m := kw_mem h
    simp [kwL] at m
    obtain ⟨rfl, rfl⟩ := m
    exact ⟨rfl, by decide, fun kV doc pm' an cdv ct s ws hl => match ws, hl with | [a, b], _ => .of_eq rfl⟩, ⟨90, b13, by kernel_rfl, rfl⟩⟩
def d14 : Fdef := fdefs.getD 14 ⟨"", top 0, [], []⟩
theorem ds14 : DefS P G 14 d14 := ⟨⟨rfl, rfl, rfl, by decide +kernel, rfl, by decide +kernel, by decide +kernel⟩, fun _ _ _ _ _ _ us hl => match us, hl with | [_, _], _ => rfl, fun ks pm h => absurd (kw_mem h) (by simp [kwL]), ⟨90, b14, by kernel_rfl, rfl⟩⟩
def d15 : Fdef := fdefs.getD 15 ⟨"", top 0, [], []⟩
theorem ds15 : DefS P G 15 d15 := ⟨⟨rfl, rfl, rfl, by decide +kernel, rfl, by decide +kernel, by decide +kernel⟩, fun _ _ _ _ _ _ us hl => match us, hl with | [_, _], _ => rfl, fun ks pm h => absurd (kw_mem h) (by simp [kwL]), ⟨90, b15, by kernel_rfl, rfl⟩⟩
def d16 : Fdef := fdefs.getD 16 ⟨"", top 0, [], []⟩
theorem ds16 : DefS P G 16 d16 := ⟨⟨rfl, rfl, rfl, by decide +kernel, rfl, by decide +kernel, by decide +kernel⟩, fun _ _ _ _ _ _ us hl => match us, hl with | [_], _ => rfl, fun ks pm h => absurd (kw_mem h) (by simp [kwL]), ⟨90, b16, by kernel_rfl, rfl⟩⟩
def d17 : Fdef := fdefs.getD 17 ⟨"", top 0, [], []⟩
theorem ds17 : DefS P G 17 d17 := ⟨⟨rfl, rfl, rfl, by decide +kernel, rfl, by decide +kernel, by decide +kernel⟩, fun _ _ _ _ _ _ us hl => match us, hl with | [_, _], _ => rfl, fun ks pm h => absurd (kw_mem h) (by simp [kwL]), ⟨90, b17, by kernel_rfl, rfl⟩⟩
def d18 : Fdef := fdefs.getD 18 ⟨"", top 0, [], []⟩
theorem ds18 : DefS P G 18 d18 := ⟨⟨rfl, rfl, rfl, by decide +kernel, rfl, by decide +kernel, by decide +kernel⟩, fun _ _ _ _ _ _ us hl => match us, hl with | [_, _], _ => rfl, fun ks pm h => by
    have m := kw_mem h
    simp [kwL] at m
    obtain ⟨rfl, rfl⟩ := m
    exact ⟨rfl, by decide, fun kV doc pm' an cdv ct s ws hl => match ws, hl with | [a, b], _ => .of_eq rfl⟩, ⟨90, b18, by kernel_rfl, rfl⟩⟩
def d19 : Fdef := fdefs.getD 19 ⟨"", top 0, [], []⟩
theorem ds19 : DefS P G 19 d19 := ⟨⟨rfl, rfl, rfl, by decide +kernel, rfl, by decide +kernel, by decide +kernel⟩, fun _ _ _ _ _ _ us hl => match us, hl with | [_, _], _ => rfl, fun ks pm h => by
    have m := kw_mem h
    simp [kwL] at m
    obtain ⟨rfl, rfl⟩ := m
    exact ⟨rfl, by decide, fun kV doc pm' an cdv ct s ws hl => match ws, hl with | [a, b], _ => .of_eq rfl⟩, ⟨90, b19, by kernel_rfl, rfl⟩⟩
def d20 : Fdef := fdefs.getD 20 ⟨"", top 0, [], []⟩
theorem ds20 : DefS P G 20 d20 := ⟨⟨rfl, rfl, rfl, by decide +kernel, rfl, by decide +kernel, by decide +kernel⟩, fun _ _ _ _ _ _ us hl => match us, hl with | [_, _, _], _ => rfl, fun ks pm h => by
    have m := kw_mem h
    simp [kwL] at m
    obtain ⟨rfl, rfl⟩ := m
    exact ⟨rfl, by decide, fun kV doc pm' an cdv ct s ws hl => match ws, hl with | [a, b, c], _ => .of_eq rfl⟩, ⟨90, b20, by kernel_rfl, rfl⟩⟩
def d21 : Fdef := fdefs.getD 21 ⟨"", top 0, [], []⟩
theorem ds21 : DefS P G 21 d21 := ⟨⟨rfl, rfl, rfl, by decide +kernel, rfl, by decide +kernel, by decide +kernel⟩, fun _ _ _ _ _ _ us hl => match us, hl with | [_, _], _ => rfl, fun ks pm h => absurd (kw_mem h) (by simp [kwL]), ⟨90, b21, by kernel_rfl, rfl⟩⟩
def d22 : Fdef := fdefs.getD 22 ⟨"", top 0, [], []⟩
theorem ds22 : DefS P G 22 d22 := ⟨⟨rfl, rfl, rfl, by decide +kernel, rfl, by decide +kernel, by decide +kernel⟩, fun _ _ _ _ _ _ us hl => match us, hl with | [_], _ => rfl, fun ks pm h => absurd (kw_mem h) (by simp [kwL]), ⟨90, b22, by kernel_rfl, rfl⟩⟩
def d23 : Fdef := fdefs.getD 23 ⟨"", top 0, [], []⟩
theorem ds23 : DefS P G 23 d23 := ⟨⟨rfl, rfl, rfl, by decide +kernel, rfl, by decide +kernel, by decide +kernel⟩, fun _ _ _ _ _ _ us hl => match us, hl with | [_, _], _ => rfl, fun ks pm h => absurd (kw_mem h) (by simp [kwL]), ⟨90, b23, by kernel_rfl, rfl⟩⟩
def d24 : Fdef := fdefs.getD 24 ⟨"", top 0, [], []⟩
theorem ds24 : DefS P G 24 d24 := ⟨⟨rfl, rfl, rfl, by decide +kernel, rfl, by decide +kernel, by decide +kernel⟩, fun _ _ _ _ _ _ us hl => match us, hl with | [_, _], _ => rfl, fun ks pm h => absurd (kw_mem h) (by simp [kwL]), ⟨90, b24, by kernel_rfl, rfl⟩⟩
def d25 : Fdef := fdefs.getD 25 ⟨"", top 0, [], []⟩
theorem ds25 : DefS P G 25 d25 := ⟨⟨rfl, rfl, rfl, by decide +kernel, rfl, by decide +kernel, by decide +kernel⟩, fun _ _ _ _ _ _ us hl => match us, hl with | [_, _, _], _ => rfl, fun ks pm h => absurd (kw_mem h) (by simp [kwL]), ⟨90, b25, by kernel_rfl, rfl⟩⟩
def d26 : Fdef := fdefs.getD 26 ⟨"", top 0, [], []⟩
theorem ds26 : DefS P G 26 d26 := ⟨⟨rfl, rfl, rfl, by decide +kernel, rfl, by decide +kernel, by decide +kernel⟩, fun _ _ _ _ _ _ us hl => match us, hl with | [_, _], _ => rfl, fun ks pm h => absurd (kw_mem h) (by simp [kwL]), ⟨90, b26, by kernel_rfl, rfl⟩⟩
def d27 : Fdef := fdefs.getD 27 ⟨"", top 0, [], []⟩
theorem ds27 : DefS P G 27 d27 := ⟨⟨rfl, rfl, rfl, by decide +kernel, rfl, by decide +kernel, by decide +kernel⟩, fun _ _ _ _ _ _ us hl => match us, hl with | [_], _ => rfl, fun ks pm h => absurd (kw_mem h) (by simp [kwL]), ⟨90, b27, by kernel_rfl, rfl⟩⟩
def d28 : Fdef := fdefs.getD 28 ⟨"", top 0, [], []⟩
theorem ds28 : DefS P G 28 d28 := ⟨⟨rfl, rfl, rfl, by decide +kernel, rfl, by decide +kernel, by decide +kernel⟩, fun _ _ _ _ _ _ us hl => match us, hl with | [_, _], _ => rfl, fun ks pm h => absurd (kw_mem h) (by simp [kwL]), ⟨90, b28, by kernel_rfl, rfl⟩⟩
def d29 : Fdef := fdefs.getD 29 ⟨"", top 0, [], []⟩
theorem ds29 : DefS P G 29 d29 := ⟨⟨rfl, rfl, rfl, by decide +kernel, rfl, by decide +kernel, by decide +kernel⟩, fun _ _ _ _ _ _ us hl => match us, hl with | [_], _ => rfl, fun ks pm h => absurd (kw_mem h) (by simp [kwL]), ⟨90, b29, by kernel_rfl, rfl⟩⟩
def d30 : Fdef := fdefs.getD 30 ⟨"", top 0, [], []⟩
theorem ds30 : DefS P G 30 d30 := ⟨⟨rfl, rfl, rfl, by decide +kernel, rfl, by decide +kernel, by decide +kernel⟩, fun _ _ _ _ _ _ us hl => match us, hl with | [_, _, _, _, _], _ => rfl, fun ks pm h => absurd (kw_mem h) (by simp [kwL]), ⟨90, b30, by kernel_rfl, rfl⟩⟩
def d31 : Fdef := fdefs.getD 31 ⟨"", top 0, [], []⟩
theorem ds31 : DefS P G 31 d31 := ⟨⟨rfl, rfl, rfl, by decide +kernel, rfl, by decide +kernel, by decide +kernel⟩, fun _ _ _ _ _ _ us hl => match us, hl with | [_, _, _, _], _ => rfl, fun ks pm h => absurd (kw_mem h) (by simp [kwL]), ⟨90, b31, by kernel_rfl, rfl⟩⟩
def d32 : Fdef := fdefs.getD 32 ⟨"", top 0, [], []⟩
theorem ds32 : DefS P G 32 d32 := ⟨⟨rfl, rfl, rfl, by decide +kernel, rfl, by decide +kernel, by decide +kernel⟩, fun _ _ _ _ _ _ us hl => match us, hl with | [_, _], _ => rfl, fun ks pm h => absurd (kw_mem h) (by simp [kwL]), ⟨90, b32, by kernel_rfl, rfl⟩⟩
def d33 : Fdef := fdefs.getD 33 ⟨"", top 0, [], []⟩
theorem ds33 : DefS P G 33 d33 := ⟨⟨rfl, rfl, rfl, by decide +kernel, rfl, by decide +kernel, by decide +kernel⟩, fun _ _ _ _ _ _ us hl => match us, hl with | [_, _, _, _], _ => rfl, fun ks pm h => absurd (kw_mem h) (by simp [kwL]), ⟨90, b33, by kernel_rfl, rfl⟩⟩
def d34 : Fdef := fdefs.getD 34 ⟨"", top 0, [], []⟩
theorem ds34 : DefS P G 34 d34 := ⟨⟨rfl, rfl, rfl, by decide +kernel, rfl, by decide +kernel, by decide +kernel⟩, fun _ _ _ _ _ _ us hl => match us, hl with | [_], _ => rfl, fun ks pm h => absurd (kw_mem h) (by simp [kwL]), ⟨90, b34, by kernel_rfl, rfl⟩⟩
def i1 : Stmt := match top 2 with | .ClassDef _ _ _ b _ _ _ _ _ _ _ => b.getD 0 (.Pass ⟨0, 0, 0, 0⟩) | s => s
theorem es1 : ErrS ("given" : Str) ("InvalidNumber.__init__" : Str) i1 := ⟨⟨rfl, rfl, rfl⟩, ⟨rfl, rfl, rfl, by decide +kernel, rfl, by decide +kernel, by decide +kernel⟩, rfl, rfl, rfl, rfl, fun _ _ _ _ _ _ us hl => match us, hl with | [_, _], _ => rfl⟩
def i2 : Stmt := match top 13 with | .ClassDef _ _ _ b _ _ _ _ _ _ _ => b.getD 0 (.Pass ⟨0, 0, 0, 0⟩) | s => s
theorem es2 : ErrS ("given" : Str) ("InvalidSaying.__init__" : Str) i2 := ⟨⟨rfl, rfl, rfl⟩, ⟨rfl, rfl, rfl, by decide +kernel, rfl, by decide +kernel, by decide +kernel⟩, rfl, rfl, rfl, rfl, fun _ _ _ _ _ _ us hl => match us, hl with | [_, _], _ => rfl⟩
def i3 : Stmt := match top 14 with | .ClassDef _ _ _ b _ _ _ _ _ _ _ => b.getD 0 (.Pass ⟨0, 0, 0, 0⟩) | s => s
theorem es3 : ErrS ("given" : Str) ("InvalidSayings.__init__" : Str) i3 := ⟨⟨rfl, rfl, rfl⟩, ⟨rfl, rfl, rfl, by decide +kernel, rfl, by decide +kernel, by decide +kernel⟩, rfl, rfl, rfl, rfl, fun _ _ _ _ _ _ us hl => match us, hl with | [_, _], _ => rfl⟩
def i4 : Stmt := match top 15 with | .ClassDef _ _ _ b _ _ _ _ _ _ _ => b.getD 0 (.Pass ⟨0, 0, 0, 0⟩) | s => s
theorem es4 : ErrS ("given" : Str) ("InvalidWorld.__init__" : Str) i4 := ⟨⟨rfl, rfl, rfl⟩, ⟨rfl, rfl, rfl, by decide +kernel, rfl, by decide +kernel, by decide +kernel⟩, rfl, rfl, rfl, rfl, fun _ _ _ _ _ _ us hl => match us, hl with | [_, _], _ => rfl⟩
def clsL : List (Str × Option (Str × Str × Stmt)) := [(("PuzzleError" : Str), none), (("InvalidNumber" : Str), some (("InvalidNumber.__init__" : Str), ("given" : Str), i1)), (("InvalidSaying" : Str), some (("InvalidSaying.__init__" : Str), ("given" : Str), i2)), (("InvalidSayings" : Str), some (("InvalidSayings.__init__" : Str), ("given" : Str), i3)), (("InvalidWorld" : Str), some (("InvalidWorld.__init__" : Str), ("given" : Str), i4))]
def tb : Tab := ⟨P, G, fdefs, clsL, glL, subL⟩
theorem defs_ok : ∀ (id : Nat) (d : Fdef), fdefs[id]? = some d → DefS P G id d := fun id d h => by
  have hl : id < 35 := (List.getElem?_eq_some_iff.mp h).1
  have e : d = fdefs.getD id ⟨"", top 0, [], []⟩ := by rw [List.getD_eq_getElem?_getD, h]; rfl
  subst e
  match id, hl with
  | 0, _ => exact ds0
  | 1, _ => exact ds1
  | 2, _ => exact ds2
  | 3, _ => exact ds3
  | 4, _ => exact ds4
  | 5, _ => exact ds5
  | 6, _ => exact ds6
  | 7, _ => exact ds7
  | 8, _ => exact ds8
  | 9, _ => exact ds9
  | 10, _ => exact ds10
  | 11, _ => exact ds11
  | 12, _ => exact ds12
  | 13, _ => exact ds13
  | 14, _ => exact ds14
  | 15, _ => exact ds15
  | 16, _ => exact ds16
  | 17, _ => exact ds17
  | 18, _ => exact ds18
  | 19, _ => exact ds19
  | 20, _ => exact ds20
  | 21, _ => exact ds21
  | 22, _ => exact ds22
  | 23, _ => exact ds23
  | 24, _ => exact ds24
  | 25, _ => exact ds25
  | 26, _ => exact ds26
  | 27, _ => exact ds27
  | 28, _ => exact ds28
  | 29, _ => exact ds29
  | 30, _ => exact ds30
  | 31, _ => exact ds31
  | 32, _ => exact ds32
  | 33, _ => exact ds33
  | 34, _ => exact ds34
theorem fn_lt : ∀ q ∈ fnL, ∃ d, fdefs[q.2]? = some d ∧ d.x = q.1 := by
  have h : (fnL.all fun q => match fdefs[q.2]? with | some d => decide (d.x = q.1) | none => false) = true := by decide +kernel
  intro q hq
  have := List.all_eq_true.mp h q hq
  split at this
  · rename_i d e
    exact ⟨d, e, of_decide_eq_true this⟩
  · cases this
theorem cl_lt : ∀ q ∈ clL, ∃ r, clsL[q.2]? = some (q.1, r) := by
  have h : (clL.all fun q => match clsL[q.2]? with | some r => decide (r.1 = q.1) | none => false) = true := by decide +kernel
  intro q hq
  have := List.all_eq_true.mp h q hq
  split at this
  · rename_i d e
    exact ⟨d.2, by rw [e, ← of_decide_eq_true this]⟩
  · cases this
theorem tb_ok : tb.Ok where
  defs := defs_ok
  fn := fun x id h => fn_lt _ (lk_mem h)
  gl := fun x d h => lk_mem h
  cl := fun x c h => cl_lt _ (lk_mem h)
  rs := fun x c h => by
    have m := lk_mem (show rsL.lookup x = some c from h)
    simp only [rsL, List.mem_cons, Prod.mk.injEq, List.not_mem_nil, or_false] at m
    obtain ⟨rfl, rfl⟩ | ⟨rfl, rfl⟩ | ⟨rfl, rfl⟩ | ⟨rfl, rfl⟩ := m
    · exact ⟨_, _, _, rfl, es1, rfl⟩
    · exact ⟨_, _, _, rfl, es2, rfl⟩
    · exact ⟨_, _, _, rfl, es3, rfl⟩
    · exact ⟨_, _, _, rfl, es4, rfl⟩
  sub := fun c c' b h => sub_mem h
  cf := fun c f h => by
    match c, h with
    | 0, h => cases h
    | 1, h => cases h; exact ⟨_, _, _, rfl⟩
    | 2, h => cases h; exact ⟨_, _, _, rfl⟩
    | 3, h => cases h; exact ⟨_, _, _, rfl⟩
    | 4, h => cases h; exact ⟨_, _, _, rfl⟩
    | _ + 5, h => cases h
theorem W_mk {w : World} {K : PySem.W.Frag} (w0 : DefW K "is_integer" (top 4)) (w1 : DefW K "is_between" (top 5)) (w2 : DefW K "is_tuple_of" (top 6)) (w3 : DefW K "is_row" (top 7)) (w4 : DefW K "is_rising" (top 8)) (w5 : DefW K "is_set" (top 9)) (w6 : DefW K "check_number" (top 11)) (w7 : DefW K "is_part" (top 21)) (w8 : DefW K "is_head" (top 22)) (w9 : DefW K "inner_of" (top 23)) (w10 : DefW K "is_saying" (top 24)) (w11 : DefW K "is_said" (top 25)) (w12 : DefW K "is_true" (top 26)) (w13 : DefW K "holds" (top 27)) (w14 : DefW K "check_sayings" (top 28)) (w15 : DefW K "check_saying" (top 29)) (w16 : DefW K "all_worlds" (top 30)) (w17 : DefW K "fitting" (top 31)) (w18 : DefW K "worlds" (top 32)) (w19 : DefW K "sole_world" (top 33)) (w20 : DefW K "surely" (top 34)) (w21 : DefW K "_law_cell" (top 36)) (w22 : DefW K "_law_box" (top 37)) (w23 : DefW K "_law_take" (top 38)) (w24 : DefW K "_law_same" (top 39)) (w25 : DefW K "_law_saying" (top 40)) (w26 : DefW K "_law_true" (top 41)) (w27 : DefW K "_law_every" (top 42)) (w28 : DefW K "_law_worlds" (top 43)) (w29 : DefW K "_law_talk" (top 44)) (w30 : DefW K "_law_asked" (top 45)) (w31 : DefW K "_law_right" (top 46)) (w32 : DefW K "_law_no_saying" (top 47)) (w33 : DefW K "_law_refused_right" (top 48)) (w34 : DefW K "law" (top 49)) (n0 : PySem.W.nsIn K mainGlobals "sorted" = some none) (n1 : PySem.W.nsIn K mainGlobals "len" = some none) (n2 : PySem.W.nsIn K mainGlobals "abs" = some none) (n3 : PySem.W.nsIn K mainGlobals "int" = some none) (n4 : PySem.W.nsIn K mainGlobals "bool" = some none) (n5 : PySem.W.nsIn K mainGlobals "sum" = some none) (n6 : PySem.W.nsIn K mainGlobals "max" = some none) (n7 : PySem.W.nsIn K mainGlobals "min" = some none) (n8 : PySem.W.nsIn K mainGlobals "all" = some none) (n9 : PySem.W.nsIn K mainGlobals "any" = some none) (n10 : PySem.W.nsIn K mainGlobals "list" = some none) (n11 : PySem.W.nsIn K mainGlobals "tuple" = some none) (n12 : PySem.W.nsIn K mainGlobals "str" = some none) (n13 : PySem.W.nsIn K mainGlobals "dict" = some none) (n14 : PySem.W.nsIn K mainGlobals "set" = some none) (n15 : PySem.W.nsIn K mainGlobals "isinstance" = some none) (n16 : PySem.W.nsIn K mainGlobals "range" = some none) (n17 : PySem.W.nsIn K mainGlobals "enumerate" = some none) (n18 : PySem.W.nsIn K mainGlobals "zip" = some none) (q0 : ∃ C, PySem.W.nsIn K mainGlobals "PuzzleError" = some (some (.ref C))) (q1 : ∃ C, PySem.W.nsIn K mainGlobals "InvalidNumber" = some (some (.ref C))) (q2 : ∃ C, PySem.W.nsIn K mainGlobals "InvalidSaying" = some (some (.ref C))) (q3 : ∃ C, PySem.W.nsIn K mainGlobals "InvalidSayings" = some (some (.ref C))) (q4 : ∃ C, PySem.W.nsIn K mainGlobals "InvalidWorld" = some (some (.ref C))) (r1 : ErrW K "InvalidNumber" "InvalidNumber.__init__" "given" i1) (r2 : ErrW K "InvalidSaying" "InvalidSaying.__init__" "given" i2) (r3 : ErrW K "InvalidSayings" "InvalidSayings.__init__" "given" i3) (r4 : ErrW K "InvalidWorld" "InvalidWorld.__init__" "given" i4) (u0 : SubW K "InvalidNumber" "InvalidNumber" true) (u1 : SubW K "InvalidNumber" "InvalidSaying" false) (u2 : SubW K "InvalidNumber" "InvalidSayings" false) (u3 : SubW K "InvalidNumber" "InvalidWorld" false) (u4 : SubW K "InvalidNumber" "PuzzleError" true) (u5 : SubW K "InvalidSaying" "InvalidNumber" false) (u6 : SubW K "InvalidSaying" "InvalidSaying" true) (u7 : SubW K "InvalidSaying" "InvalidSayings" false) (u8 : SubW K "InvalidSaying" "InvalidWorld" false) (u9 : SubW K "InvalidSaying" "PuzzleError" true) (u10 : SubW K "InvalidSayings" "InvalidNumber" false) (u11 : SubW K "InvalidSayings" "InvalidSaying" false) (u12 : SubW K "InvalidSayings" "InvalidSayings" true) (u13 : SubW K "InvalidSayings" "InvalidWorld" false) (u14 : SubW K "InvalidSayings" "PuzzleError" true) (u15 : SubW K "InvalidWorld" "InvalidNumber" false) (u16 : SubW K "InvalidWorld" "InvalidSaying" false) (u17 : SubW K "InvalidWorld" "InvalidSayings" false) (u18 : SubW K "InvalidWorld" "InvalidWorld" true) (u19 : SubW K "InvalidWorld" "PuzzleError" true) (zg0 : GlbW w K "MOST_PEOPLE" (.int 8)) (zg1 : GlbW w K "MOST_SAYINGS" (.int 12)) (zg2 : GlbW w K "MOST_DEPTH" (.int 6)) (zg3 : GlbW w K "WORDS" (.dct [(.str ("knight" : Str)), (.str ("liar" : Str)), (.str ("count" : Str)), (.str ("not" : Str)), (.str ("and" : Str)), (.str ("or" : Str)), (.str ("same" : Str))] [(.str ("p" : Str)), (.str ("p" : Str)), (.str ("ng" : Str)), (.str ("s" : Str)), (.str ("ss" : Str)), (.str ("ss" : Str)), (.str ("ss" : Str))])) : tb.W w K where
  defs := by
    refine List.forall_mem_cons.mpr ⟨w0, ?_⟩
    refine List.forall_mem_cons.mpr ⟨w1, ?_⟩
    refine List.forall_mem_cons.mpr ⟨w2, ?_⟩
    refine List.forall_mem_cons.mpr ⟨w3, ?_⟩
    refine List.forall_mem_cons.mpr ⟨w4, ?_⟩
    refine List.forall_mem_cons.mpr ⟨w5, ?_⟩
    refine List.forall_mem_cons.mpr ⟨w6, ?_⟩
    refine List.forall_mem_cons.mpr ⟨w7, ?_⟩
    refine List.forall_mem_cons.mpr ⟨w8, ?_⟩
    refine List.forall_mem_cons.mpr ⟨w9, ?_⟩
    refine List.forall_mem_cons.mpr ⟨w10, ?_⟩
    refine List.forall_mem_cons.mpr ⟨w11, ?_⟩
    refine List.forall_mem_cons.mpr ⟨w12, ?_⟩
    refine List.forall_mem_cons.mpr ⟨w13, ?_⟩
    refine List.forall_mem_cons.mpr ⟨w14, ?_⟩
    refine List.forall_mem_cons.mpr ⟨w15, ?_⟩
    refine List.forall_mem_cons.mpr ⟨w16, ?_⟩
    refine List.forall_mem_cons.mpr ⟨w17, ?_⟩
    refine List.forall_mem_cons.mpr ⟨w18, ?_⟩
    refine List.forall_mem_cons.mpr ⟨w19, ?_⟩
    refine List.forall_mem_cons.mpr ⟨w20, ?_⟩
    refine List.forall_mem_cons.mpr ⟨w21, ?_⟩
    refine List.forall_mem_cons.mpr ⟨w22, ?_⟩
    refine List.forall_mem_cons.mpr ⟨w23, ?_⟩
    refine List.forall_mem_cons.mpr ⟨w24, ?_⟩
    refine List.forall_mem_cons.mpr ⟨w25, ?_⟩
    refine List.forall_mem_cons.mpr ⟨w26, ?_⟩
    refine List.forall_mem_cons.mpr ⟨w27, ?_⟩
    refine List.forall_mem_cons.mpr ⟨w28, ?_⟩
    refine List.forall_mem_cons.mpr ⟨w29, ?_⟩
    refine List.forall_mem_cons.mpr ⟨w30, ?_⟩
    refine List.forall_mem_cons.mpr ⟨w31, ?_⟩
    refine List.forall_mem_cons.mpr ⟨w32, ?_⟩
    refine List.forall_mem_cons.mpr ⟨w33, ?_⟩
    refine List.forall_mem_cons.mpr ⟨w34, ?_⟩
    exact fun _ h => nomatch h
  bl := by
    refine List.forall_mem_cons.mpr ⟨n0, ?_⟩
    refine List.forall_mem_cons.mpr ⟨n1, ?_⟩
    refine List.forall_mem_cons.mpr ⟨n2, ?_⟩
    refine List.forall_mem_cons.mpr ⟨n3, ?_⟩
    refine List.forall_mem_cons.mpr ⟨n4, ?_⟩
    refine List.forall_mem_cons.mpr ⟨n5, ?_⟩
    refine List.forall_mem_cons.mpr ⟨n6, ?_⟩
    refine List.forall_mem_cons.mpr ⟨n7, ?_⟩
    refine List.forall_mem_cons.mpr ⟨n8, ?_⟩
    refine List.forall_mem_cons.mpr ⟨n9, ?_⟩
    refine List.forall_mem_cons.mpr ⟨n10, ?_⟩
    refine List.forall_mem_cons.mpr ⟨n11, ?_⟩
    refine List.forall_mem_cons.mpr ⟨n12, ?_⟩
    refine List.forall_mem_cons.mpr ⟨n13, ?_⟩
    refine List.forall_mem_cons.mpr ⟨n14, ?_⟩
    refine List.forall_mem_cons.mpr ⟨n15, ?_⟩
    refine List.forall_mem_cons.mpr ⟨n16, ?_⟩
    refine List.forall_mem_cons.mpr ⟨n17, ?_⟩
    refine List.forall_mem_cons.mpr ⟨n18, ?_⟩
    exact fun _ h => nomatch h
  glb := by
    refine List.forall_mem_cons.mpr ⟨zg0, ?_⟩
    refine List.forall_mem_cons.mpr ⟨zg1, ?_⟩
    refine List.forall_mem_cons.mpr ⟨zg2, ?_⟩
    refine List.forall_mem_cons.mpr ⟨zg3, ?_⟩
    exact fun _ h => nomatch h
  cls := by
    refine List.forall_mem_cons.mpr ⟨q0, ?_⟩
    refine List.forall_mem_cons.mpr ⟨q1, ?_⟩
    refine List.forall_mem_cons.mpr ⟨q2, ?_⟩
    refine List.forall_mem_cons.mpr ⟨q3, ?_⟩
    refine List.forall_mem_cons.mpr ⟨q4, ?_⟩
    exact fun _ h => nomatch h
  err := by
    refine List.forall_mem_cons.mpr ⟨fun r e => (by cases e), ?_⟩
    refine List.forall_mem_cons.mpr ⟨fun r e => by cases e; exact r1, ?_⟩
    refine List.forall_mem_cons.mpr ⟨fun r e => by cases e; exact r2, ?_⟩
    refine List.forall_mem_cons.mpr ⟨fun r e => by cases e; exact r3, ?_⟩
    refine List.forall_mem_cons.mpr ⟨fun r e => by cases e; exact r4, ?_⟩
    exact fun _ h => nomatch h
  sub := by
    refine List.forall_mem_cons.mpr ⟨fun x y e1 e2 => by cases e1; cases e2; exact u0, ?_⟩
    refine List.forall_mem_cons.mpr ⟨fun x y e1 e2 => by cases e1; cases e2; exact u1, ?_⟩
    refine List.forall_mem_cons.mpr ⟨fun x y e1 e2 => by cases e1; cases e2; exact u2, ?_⟩
    refine List.forall_mem_cons.mpr ⟨fun x y e1 e2 => by cases e1; cases e2; exact u3, ?_⟩
    refine List.forall_mem_cons.mpr ⟨fun x y e1 e2 => by cases e1; cases e2; exact u4, ?_⟩
    refine List.forall_mem_cons.mpr ⟨fun x y e1 e2 => by cases e1; cases e2; exact u5, ?_⟩
    refine List.forall_mem_cons.mpr ⟨fun x y e1 e2 => by cases e1; cases e2; exact u6, ?_⟩
    refine List.forall_mem_cons.mpr ⟨fun x y e1 e2 => by cases e1; cases e2; exact u7, ?_⟩
    refine List.forall_mem_cons.mpr ⟨fun x y e1 e2 => by cases e1; cases e2; exact u8, ?_⟩
    refine List.forall_mem_cons.mpr ⟨fun x y e1 e2 => by cases e1; cases e2; exact u9, ?_⟩
    refine List.forall_mem_cons.mpr ⟨fun x y e1 e2 => by cases e1; cases e2; exact u10, ?_⟩
    refine List.forall_mem_cons.mpr ⟨fun x y e1 e2 => by cases e1; cases e2; exact u11, ?_⟩
    refine List.forall_mem_cons.mpr ⟨fun x y e1 e2 => by cases e1; cases e2; exact u12, ?_⟩
    refine List.forall_mem_cons.mpr ⟨fun x y e1 e2 => by cases e1; cases e2; exact u13, ?_⟩
    refine List.forall_mem_cons.mpr ⟨fun x y e1 e2 => by cases e1; cases e2; exact u14, ?_⟩
    refine List.forall_mem_cons.mpr ⟨fun x y e1 e2 => by cases e1; cases e2; exact u15, ?_⟩
    refine List.forall_mem_cons.mpr ⟨fun x y e1 e2 => by cases e1; cases e2; exact u16, ?_⟩
    refine List.forall_mem_cons.mpr ⟨fun x y e1 e2 => by cases e1; cases e2; exact u17, ?_⟩
    refine List.forall_mem_cons.mpr ⟨fun x y e1 e2 => by cases e1; cases e2; exact u18, ?_⟩
    refine List.forall_mem_cons.mpr ⟨fun x y e1 e2 => by cases e1; cases e2; exact u19, ?_⟩
    exact fun _ h => nomatch h
  subL := by decide +kernel
end K55
/-! k55: draws -/
namespace K55
open PySem Vm
theorem fd22 : P.fd 22 = some ⟨1, 1, b22⟩ := rfl
theorem fd23 : P.fd 23 = some ⟨2, 4, b23⟩ := rfl
/-- a box after at most N draws -/
def Bok (N : Int) (d : D) : Prop := ∃ (a : Int) (g : Bool) (c cnt : Int), d = .lst [.int a, .bl g, .int c, .int cnt] ∧ 0 ≤ c ∧ c < 2147483629 ∧ 0 ≤ cnt ∧ cnt ≤ N
theorem Bok.mono {N M : Int} {d : D} (h : Bok N d) (hl : N ≤ M) : Bok M d := by
  obtain ⟨a, g, c, cnt, e, h1, h2, h3, h4⟩ := h
  exact ⟨a, g, c, cnt, e, h1, h2, h3, by omega⟩
theorem Bok.refs {N : Int} {d : D} (h : Bok N d) (m : Nat) : refsLt m d = true := by
  obtain ⟨a, g, c, cnt, rfl, _⟩ := h
  rfl
theorem box_run (k : Nat) (z : Int) (S : Store) : ∃ d, callR P (k + 1) 22 [.int z] S = some (.ok (.ref S.length) (S ++ [d])) ∧ Bok 0 d := by
  refine ⟨.lst [.int (if z < 0 then -z else z), .bl (decide (1000000000000000000 ≤ if z < 0 then -z else z)), .int ((if z < 0 then -z else z).fmod 2147483629), .int 0], by simp [fd22, b22, callR, startF, Vm.execs, Vm.exec, ev, evs, evO, tst, tsConj, tsDisj, tsts, evConj, evDisj, evIt, btD, cmpD, cmpD.inD, binD, binI, cmulB, unaD, outF, getFr, lift, mkL, mkO, mkK, M.bind, bnd, subD, slcD, seqOf, lstOf, lenD, tyName, isiD, L2.atI, L2.ixN, asgT, asgTs, dctOf, isKey, truth, putD, barr, refsLts, refsLt, List.mapM_cons, List.mapM_nil], _, _, _, _, rfl, ?_, ?_, by omega, by omega⟩
  · exact Int.fmod_nonneg_of_pos _ (by omega)
  · exact Int.fmod_lt_of_pos _ (by omega)
theorem set_get {S : Store} {n : Nat} {d : D} (h : S[n]? = some d) (x : D) : (S.set n x)[n]? = some x := List.getElem?_set_self (List.getElem?_eq_some_iff.mp h).1
theorem take_run (k : Nat) (S : Store) (n : Nat) (d : D) (N many : Int) (hS : S[n]? = some d) (hB : Bok N d) (hN : N ≤ 1000000000) (hm : 0 < many) (hm2 : many < 1000000) :
    ∃ (v : Int) (d' : D), callR P (k + 1) 23 [.ref n, .int many] S = some (.ok (.int v) (S.set n d')) ∧ 0 ≤ v ∧ v < many ∧ Bok (N + 1) d' := by
  obtain ⟨a, g, c, cnt, rfl, h1, h2, h3, h4⟩ := hB
  have hset := set_get hS
  have m1 : many ≠ 0 := by omega
  have m2 : many.natAbs < 1073741824 := by omega
  have small : ∃ (v : Int), (g = false ∨ ¬ 0 < a) → callR P (k + 1) 23 [.ref n, .int many] S = some (.ok (.int (v.fmod many)) (S.set n (.lst [.int a, .bl g, .int c, .int (cnt + 1)]))) := by
    have p1 : (c + 15485863 * (cnt + 1) + 179424673).natAbs < 18446744073709551616 := by omega
    generalize hm5 : ((c + 15485863 * (cnt + 1) + 179424673) ^ 5).fmod 2147483647 = mx
    have b1 : 0 ≤ mx := by rw [← hm5]; exact Int.fmod_nonneg_of_pos _ (by omega)
    have b2 : mx < 2147483647 := by rw [← hm5]; exact Int.fmod_lt_of_pos _ (by omega)
    have p2 : (mx * 48271 + 104729 * (cnt + 1)).natAbs < 18446744073709551616 := by omega
    refine ⟨((mx * 48271 + 104729 * (cnt + 1)) ^ 3).fmod 2147483587 |>.fdiv 64, fun hg => ?_⟩
    rcases hg with hg | hg
    · subst hg
      simp [fd23, b23, callR, startF, Vm.execs, Vm.exec, ev, evs, evO, tst, tsConj, tsDisj, tsts, evConj, evDisj, evIt, btD, cmpD, cmpD.inD, binD, binI, cmulB, unaD, outF, getFr, lift, mkL, mkO, mkK, M.bind, bnd, subD, slcD, seqOf, lstOf, lenD, tyName, isiD, L2.atI, L2.ixN, asgT, asgTs, dctOf, isKey, truth, putD, barr, refsLts, refsLt, List.mapM_cons, List.mapM_nil, hS, hset, m1, m2, p1, p2, hm5]
    · cases g <;> simp [fd23, b23, callR, startF, Vm.execs, Vm.exec, ev, evs, evO, tst, tsConj, tsDisj, tsts, evConj, evDisj, evIt, btD, cmpD, cmpD.inD, binD, binI, cmulB, unaD, outF, getFr, lift, mkL, mkO, mkK, M.bind, bnd, subD, slcD, seqOf, lstOf, lenD, tyName, isiD, L2.atI, L2.ixN, asgT, asgTs, dctOf, isKey, truth, putD, barr, refsLts, refsLt, List.mapM_cons, List.mapM_nil, hS, hset, m1, m2, p1, p2, hm5, hg]
  obtain ⟨v, small⟩ := small
  by_cases hg : g = true ∧ 0 < a
  · obtain ⟨rfl, ha⟩ := hg
    refine ⟨a.fmod many, .lst [.int (a.fdiv many), .bl true, .int c, .int cnt], ?_, Int.fmod_nonneg_of_pos _ hm, Int.fmod_lt_of_pos _ hm, _, _, _, _, rfl, h1, h2, h3, by omega⟩
    simp [fd23, b23, callR, startF, Vm.execs, Vm.exec, ev, evs, evO, tst, tsConj, tsDisj, tsts, evConj, evDisj, evIt, btD, cmpD, cmpD.inD, binD, binI, cmulB, unaD, outF, getFr, lift, mkL, mkO, mkK, M.bind, bnd, subD, slcD, seqOf, lstOf, lenD, tyName, isiD, L2.atI, L2.ixN, asgT, asgTs, dctOf, isKey, truth, putD, barr, refsLts, refsLt, List.mapM_cons, List.mapM_nil, hS, ha, m1, m2]
  · refine ⟨_, _, small ?_, Int.fmod_nonneg_of_pos _ hm, Int.fmod_lt_of_pos _ hm, _, _, _, _, rfl, h1, h2, by omega, by omega⟩
    cases g
    · exact .inl rfl
    · exact .inr fun z => hg ⟨rfl, z⟩
end K55

/-! k55: steps -/
namespace K55
open PySem Vm
/-- whole numbers as data -/
def iL (vs : List Int) : List D := vs.map .int
theorem iL_refs (m : Nat) : ∀ vs : List Int, refsLts m (iL vs) = true
  | [] => rfl
  | v :: vs => by show (true && refsLts m (iL vs)) = true; rw [iL_refs m vs]; rfl
theorem iL_ok (n : Nat) (vs : List Int) : (iL vs).all (okD n) = true := by
  unfold iL
  rw [List.all_eq_true]
  intro d hd
  obtain ⟨v, _, rfl⟩ := List.mem_map.mp hd
  cases n <;> rfl
theorem iL_len (vs : List Int) : (iL vs).length = vs.length := List.length_map ..
theorem flat_lst {S : Store} {n : Nat} {ds : List D} (h : S[n]? = some (.lst ds)) (hr : refsLts 0 ds = true) : flat S (.ref n) = some (.lst ds) := by
  show (if n < 0 then some (.ref n) else (S[n]?).bind (unb S 0 11)) = _
  rw [if_neg (Nat.not_lt_zero n), h]
  exact unb_id (by simpa [refsLt] using hr)
theorem ne_nil {S : Store} {n : Nat} {vs : List Int} (h : S[n]? = some (.lst (iL vs))) : eqS S (.ref n) (.lst []) = some vs.isEmpty := by
  unfold eqS
  have e2 : flat S (.lst []) = some (.lst []) := rfl
  rw [flat_lst h (iL_refs 0 vs), e2]
  have ok1 : okD okN (.lst (iL vs)) = true := iL_ok 19 vs
  simp only [Option.bind_some]
  rw [ok1]
  cases vs <;> rfl
theorem take_set {S S' : Store} {n : Nat} {d : D} (hl : S.length ≤ S'.length) (hn : n < S.length) (h : S'[n]? = some d) (hk : ∀ j, j < S.length → j ≠ n → S'[j]? = S[j]?) : S'.take S.length = S.set n d := by
  apply List.ext_getElem?
  intro j
  rw [List.getElem?_take, List.getElem?_set]
  by_cases hj : j < S.length
  · rw [if_pos hj]
    by_cases e : n = j
    · subst e; rw [if_pos rfl, if_pos hn]; exact h
    · rw [if_neg e]; exact hk j hj fun z => e z.symm
  · rw [if_neg hj]
    by_cases e : n = j
    · omega
    · rw [if_neg e, List.getElem?_eq_none (by omega)]
theorem take_call (k : Nat) (S : Store) (n : Nat) (d : D) (N many : Int) (hS : S[n]? = some d) (hB : Bok N d) (hN : N ≤ 1000000000) (hm : 0 < many) (hm2 : many < 1000000) :
    ∃ (v : Int) (d' : D), gcOut S.length false (callR P (k + 1) 23 [.ref n, .int many] S) = some (.ok (.int v) (S.set n d')) ∧ 0 ≤ v ∧ v < many ∧ Bok (N + 1) d' := by
  obtain ⟨v, d', e, h1, h2, h3⟩ := take_run k S n d N many hS hB hN hm hm2
  refine ⟨v, d', ?_, h1, h2, h3⟩
  rw [e, gc_plain' rfl]
  have hn := (List.getElem?_eq_some_iff.mp hS).1
  rw [take_set (by simp) hn (set_get hS d') fun j hj hne => by rw [List.getElem?_set_ne (Ne.symm hne)]]
theorem pm1 (a : D) : permL [a] [0] = some [a] := rfl
theorem pm2 (a b : D) : permL [a, b] [0, 1] = some [a, b] := rfl
theorem pm3 (a b c : D) : permL [a, b, c] [0, 1, 2] = some [a, b, c] := rfl
theorem pm4 (a b c d : D) : permL [a, b, c, d] [0, 1, 2, 3] = some [a, b, c, d] := rfl
/-- the current def's setting -/
abbrev cg (k m : Nat) : Cg := ⟨⟨callR P k, P.glb, m, P.wh⟩, P.sub, P.cf⟩
theorem run_def {k g : Nat} {ds : List D} {fd : Fd} {S S' : Store} {d : D} (h : P.fd g = some fd) (hl : ds.length = fd.np) (e : Vm.execs (cg k S.length) fd.body (startF fd.nN ds) S = some (.ok (.ret d) S')) : callR P (k + 1) g ds S = some (.ok d S') := by
  show (match P.fd g with | none => none | some fd => if ds.length = fd.np then outF (Vm.execs (cg k S.length) fd.body (startF fd.nN ds) S) else none) = _
  rw [h]
  simp only [hl, if_true]
  rw [e]
  rfl
theorem set_take {S : Store} {n : Nat} {d : D} : (S.set n d).take S.length = S.set n d := by rw [List.take_of_length_le (by simp)]
theorem atI_iL {vs : List Int} {i : Int} (h0 : 0 ≤ i) (h1 : i < vs.length) : L2.atI (iL vs) i = some (.int (vs.getD i.toNat 0)) := by
  unfold L2.atI L2.ixN
  rw [iL_len, if_pos h0, if_pos h1]
  simp only [Option.bind_some]
  unfold iL
  rw [List.getElem?_map, List.getD_eq_getElem?_getD]
  have : i.toNat < vs.length := by omega
  rw [List.getElem?_eq_getElem this]
  rfl
theorem getD_in {vs : List Int} {i : Int} (h0 : 0 ≤ i) (h1 : i < vs.length) : vs.getD i.toNat 0 ∈ vs := by
  have : i.toNat < vs.length := by omega
  rw [List.getD_eq_getElem?_getD, List.getElem?_eq_getElem this]
  exact List.getElem_mem this
/-- on a whole number -/
def onI (f : Int → Int) : D → Option D
  | .int v => some (.int (f v))
  | _ => none
theorem fm_int (f : Int → Int) (vs : List Int) : (iL vs).filterMap (onI f) = iL (vs.map f) := by
  induction vs with
  | nil => rfl
  | cons v vs ih =>
    show (D.int v :: iL vs).filterMap _ = D.int (f v) :: iL (vs.map f)
    rw [List.filterMap_cons, ih]
    rfl
theorem flat_id {S : Store} {d : D} (h : refsLt 0 d = true) : flat S d = some d := unb_id h
theorem in_iL {S : Store} {v : Int} {vs : List Int} : cmpD.inD S (.int v) (.lst (iL vs)) = some (vs.any fun z => z == v) := by
  unfold cmpD.inD
  rw [flat_id rfl, flat_id (by simpa [refsLt] using iL_refs 0 vs)]
  have ok1 : okD okN (.lst (iL vs)) = true := iL_ok 19 vs
  simp only [Option.bind_some, ok1, Bool.and_true]
  rw [if_pos (show okD okN (.int v) = true from rfl)]
  congr 1
  unfold iL
  rw [List.any_map]
  rfl
/-- a draw inside an expression -/
theorem ev_take (k m : Nat) (e : Ex) (fr : Fr) (S S1 : Store) (n : Nat) (d : D) (N many : Int) (h0 : getFr fr 0 = some (.ref n)) (he : ev (cg (k + 1) m).toCf e fr S = some (.ok (.int many) S1)) (hS : S1[n]? = some d) (hB : Bok N d) (hN : N ≤ 1000000000) (hm : 0 < many) (hm2 : many < 1000000) :
    ∃ (v : Int) (d' : D), ev (cg (k + 1) m).toCf (.call 23 false [(.nm 0), e] [0, 1]) fr S = some (.ok (.int v) (S1.set n d')) ∧ 0 ≤ v ∧ v < many ∧ Bok (N + 1) d' := by
  obtain ⟨v, d', ec, h1, h2, h3⟩ := take_call k S1 n d N many hS hB hN hm hm2
  refine ⟨v, d', ?_, h1, h2, h3⟩
  simp [ev, evs, M.bind, Vm.bnd, h0, lift, pm2]
  simp at he
  rw [he]
  simp [pm2, ec]
/-- a draw, in any store -/
theorem take_ev (k m : Nat) (e : Ex) (fr : Fr) (S S1 : Store) (n : Nat) (N many : Int) (h0 : getFr fr 0 = some (.ref n)) (he : ev (cg (k + 1) m).toCf e fr S = some (.ok (.int many) S1)) (hS : ∃ d, S1[n]? = some d ∧ Bok N d) (hN : N ≤ 1000000000) (hm : 0 < many) (hm2 : many < 1000000) :
    ∃ (v : Int) (d' : D), ev (cg (k + 1) m).toCf (.call 23 false [(.nm 0), e] [0, 1]) fr S = some (.ok (.int v) (S1.set n d')) ∧ 0 ≤ v ∧ v < many ∧ Bok (N + 1) d' := by
  obtain ⟨d, h1, h2⟩ := hS
  exact ev_take k m e fr S S1 n d N many h0 he h1 h2 hN hm hm2
end K55

/-! k55: checks -/
namespace K55
open PySem Vm
theorem fd0 : P.fd 0 = some ⟨1, 1, b0⟩ := rfl
theorem fd1 : P.fd 1 = some ⟨3, 3, b1⟩ := rfl
theorem fd2 : P.fd 2 = some ⟨2, 2, b2⟩ := rfl
theorem fd3 : P.fd 3 = some ⟨4, 5, b3⟩ := rfl
theorem pc_def {k g : Nat} {ds : List D} {fd : Fd} {S : Store} {d : D} (h : P.fd g = some fd) (hl : ds.length = fd.np) (e : Vm.execs (cg k S.length) fd.body (startF fd.nN ds) S = some (.ok (.ret d) S)) (hr : refsLt S.length d = true) : gcOut S.length false (callR P (k + 1) g ds S) = some (.ok d S) := by
  rw [run_def h hl e, gc_same hr]
theorem gc_ex {S : Store} {c : Nat} {fs : List D} {bx : Bool} (h : refsLts S.length fs = true) : gcOut S.length bx (some (.ex c fs S)) = some (.ex c fs S) := by
  simp only [gcOut]
  rw [unbWs_id (m := S.length) (fun n hn => ?_) fs h]
  · simp
  · show (if n < S.length then some (D.ref n) else _) = _
    rw [if_pos hn]
theorem ex_def {k g : Nat} {ds fs : List D} {fd : Fd} {S : Store} {c : Nat} {bx : Bool} (h : P.fd g = some fd) (hl : ds.length = fd.np) (e : Vm.execs (cg k S.length) fd.body (startF fd.nN ds) S = some (.ex c fs S)) (hr : refsLts S.length fs = true) : gcOut S.length bx (callR P (k + 1) g ds S) = some (.ex c fs S) := by
  have : callR P (k + 1) g ds S = some (.ex c fs S) := by
    show (match P.fd g with | none => none | some fd => if ds.length = fd.np then outF (Vm.execs (cg k S.length) fd.body (startF fd.nN ds) S) else none) = _
    rw [h]
    simp only [hl, if_true]
    rw [e]
    rfl
  rw [this, gc_ex hr]
theorem nx_def {k g : Nat} {ds : List D} {fd : Fd} {S : Store} {fr : Fr} (h : P.fd g = some fd) (hl : ds.length = fd.np) (e : Vm.execs (cg k S.length) fd.body (startF fd.nN ds) S = some (.ok (.nx fr) S)) : gcOut S.length false (callR P (k + 1) g ds S) = some (.ok .non S) := by
  have : callR P (k + 1) g ds S = some (.ok .non S) := by
    show (match P.fd g with | none => none | some fd => if ds.length = fd.np then outF (Vm.execs (cg k S.length) fd.body (startF fd.nN ds) S) else none) = _
    rw [h]
    simp only [hl, if_true]
    rw [e]
    rfl
  rw [this, gc_same rfl]
theorem ev_c1 {C : Cf} {g : Nat} {a : Ex} {x : D} {fr : Fr} {S S1 : Store} {r : Option (Rs D)} (h : ev C a fr S = some (.ok x S1)) (hc : gcOut S1.length false (C.call g [x] S1) = r) : ev C (.call g false [a] [0]) fr S = r := ev_call (evs_cons h evs_nil) rfl hc
theorem ev_c2 {C : Cf} {g : Nat} {a b : Ex} {x y : D} {fr : Fr} {S S1 S2 : Store} {r : Option (Rs D)} (h : ev C a fr S = some (.ok x S1)) (h2 : ev C b fr S1 = some (.ok y S2)) (hc : gcOut S2.length false (C.call g [x, y] S2) = r) : ev C (.call g false [a, b] [0, 1]) fr S = r := ev_call (evs_cons h (evs_cons h2 evs_nil)) rfl hc
theorem ev_c3 {C : Cf} {g : Nat} {a b c : Ex} {x y z : D} {fr : Fr} {S S1 S2 S3 : Store} {r : Option (Rs D)} (h : ev C a fr S = some (.ok x S1)) (h2 : ev C b fr S1 = some (.ok y S2)) (h3 : ev C c fr S2 = some (.ok z S3)) (hc : gcOut S3.length false (C.call g [x, y, z] S3) = r) : ev C (.call g false [a, b, c] [0, 1, 2]) fr S = r := ev_call (evs_cons h (evs_cons h2 (evs_cons h3 evs_nil))) rfl hc
theorem ev_c4 {C : Cf} {g : Nat} {a b c e : Ex} {x y z w : D} {fr : Fr} {S S1 S2 S3 S4 : Store} {r : Option (Rs D)} (h : ev C a fr S = some (.ok x S1)) (h2 : ev C b fr S1 = some (.ok y S2)) (h3 : ev C c fr S2 = some (.ok z S3)) (h4 : ev C e fr S3 = some (.ok w S4)) (hc : gcOut S4.length false (C.call g [x, y, z, w] S4) = r) : ev C (.call g false [a, b, c, e] [0, 1, 2, 3]) fr S = r := ev_call (evs_cons h (evs_cons h2 (evs_cons h3 (evs_cons h4 evs_nil)))) rfl hc
/-! ### plain values -/
mutual
def pl : D → Bool
  | .tup ds => pls ds
  | .lst ds => pls ds
  | .ref _ => false
  | .fn _ => false
  | .scr _ => false
  | .dct ks vs => pls ks && pls vs
  | _ => true
def pls : List D → Bool
  | [] => true
  | d :: ds => pl d && pls ds
end
theorem pls_mem : ∀ {ds : List D} {d : D}, pls ds = true → d ∈ ds → pl d = true
  | [], _, _, h => by simp at h
  | x :: ds, d, h, hd => by
    simp only [pls, Bool.and_eq_true] at h
    rcases List.mem_cons.mp hd with rfl | hd
    · exact h.1
    · exact pls_mem h.2 hd
mutual
theorem pl_refs (m : Nat) : ∀ d : D, pl d = true → refsLt m d = true
  | .non, _ => rfl
  | .bl _, _ => rfl
  | .int _, _ => rfl
  | .str _, _ => rfl
  | .scr _, h => by simp [pl] at h
  | .fn _, _ => rfl
  | .ref _, h => by simp [pl] at h
  | .tup ds, h => by rw [refsLt]; exact pls_refs m ds (by simpa [pl] using h)
  | .lst ds, h => by rw [refsLt]; exact pls_refs m ds (by simpa [pl] using h)
  | .dct ks vs, h => by
    simp only [pl, Bool.and_eq_true] at h
    rw [refsLt, pls_refs m ks h.1, pls_refs m vs h.2]; rfl
theorem pls_refs (m : Nat) : ∀ d : List D, pls d = true → refsLts m d = true
  | [], _ => rfl
  | x :: ds, h => by
    simp only [pls, Bool.and_eq_true] at h
    rw [refsLts, pl_refs m x h.1, pls_refs m ds h.2]; rfl
end
/-- plain, or a box of the store -/
def Vl (S : Store) (x : D) : Prop := pl x = true ∨ ∃ n, x = .ref n ∧ ((∃ ds, S[n]? = some (.lst ds)) ∨ ∃ ks vs, S[n]? = some (.dct ks vs))
theorem Vl.refs {S : Store} {x : D} (h : Vl S x) : refsLt S.length x = true := by
  rcases h with h | ⟨n, rfl, ⟨ds, h⟩ | ⟨ks, vs, h⟩⟩
  · exact pl_refs _ _ h
  · simpa [refsLt] using (List.getElem?_eq_some_iff.mp h).1
  · simpa [refsLt] using (List.getElem?_eq_some_iff.mp h).1
theorem Vl.ty {S : Store} {x : D} (h : Vl S x) : ∃ t, tyName S x = some t := by
  rcases h with h | ⟨n, rfl, ⟨ds, h⟩ | ⟨ks, vs, h⟩⟩
  · cases x <;> first | exact ⟨_, rfl⟩ | simp [pl] at h
  · exact ⟨"list", by simp [tyName, h]⟩
  · exact ⟨"dict", by simp [tyName, h]⟩
def isInt : D → Bool
  | .int _ => true
  | _ => false
def isTup : D → Bool
  | .tup _ => true
  | _ => false
theorem ty_int {S : Store} {x : D} {t : String} (h : tyName S x = some t) : (t == "int") = isInt x := by
  cases x <;> simp only [tyName, Option.some.injEq] at h
  case ref n =>
    revert h
    cases S[n]? with
    | none => simp
    | some d => cases d <;> simp <;> (rintro rfl; rfl)
  all_goals first | (subst h; rfl) | simp at h
theorem ty_tup {S : Store} {x : D} {t : String} (h : tyName S x = some t) : (t == "tuple") = isTup x := by
  cases x <;> simp only [tyName, Option.some.injEq] at h
  case ref n =>
    revert h
    cases S[n]? with
    | none => simp
    | some d => cases d <;> simp <;> (rintro rfl; rfl)
  all_goals first | (subst h; rfl) | simp at h
theorem int_call (k : Nat) {S : Store} {x : D} {t : String} (ht : tyName S x = some t) : gcOut S.length false (callR P (k + 1) 0 [x] S) = some (.ok (.bl (isInt x)) S) := by
  refine pc_def fd0 rfl ?_ rfl
  show Vm.execs (cg k S.length) b0 [some x] S = _
  rw [b0]
  refine execs_rt (exec_ret ?_)
  have e := ev_and (C := (cg k S.length).toCf) (fr := [some x]) (S := S) (e := .isi (.nm 0) [.int]) (l := .notE (.v (.isi (.nm 0) [.bool]))) (k := t == "int" || t == "bool") (k2 := !(t == "bool")) (ev_isi (ev_nm rfl) (by simp [isiD, ht, isK, Kd.name])) fun _ => ev_notE (tst_vb (ev_isi (ev_nm rfl) (by simp [isiD, ht, isK, Kd.name])))
  rw [e, ← ty_int ht]
  congr 2
  by_cases h1 : t = "int"
  · subst h1; rfl
  · have h3 : (t == "int") = false := beq_eq_false_iff_ne.mpr h1
    rw [h3]
    cases (t == "bool") <;> rfl
def isIn (lo hi : Int) : D → Bool
  | .int v => decide (lo ≤ v) && decide (v ≤ hi)
  | _ => false
theorem betw_call (k : Nat) {S : Store} {x : D} {t : String} (lo hi : Int) (ht : tyName S x = some t) : gcOut S.length false (callR P (k + 2) 1 [x, .int lo, .int hi] S) = some (.ok (.bl (isIn lo hi x)) S) := by
  refine pc_def fd1 rfl ?_ rfl
  show Vm.execs (cg (k + 1) S.length) b1 [some x, some (.int lo), some (.int hi)] S = _
  rw [b1]
  refine execs_rt (exec_ret ?_)
  have e0 : ev (cg (k + 1) S.length).toCf (.call 0 false [(.nm 0)] [0]) [some x, some (.int lo), some (.int hi)] S = some (.ok (.bl (isInt x)) S) := ev_c1 (ev_nm rfl) (int_call k ht)
  by_cases hx : isInt x = true
  · obtain ⟨v, rfl⟩ : ∃ v, x = .int v := by cases x <;> first | exact ⟨_, rfl⟩ | simp [isInt] at hx
    rw [ev_conjT ((evConj_1 e0).trans rfl), ev]
    by_cases h1 : lo ≤ v <;> simp [ev, getFr, cmpD, isIn, h1, M.bind, Vm.bnd, lift]
  · have hx' : isInt x = false := by simpa using hx
    rw [hx'] at e0
    rw [ev_conjF (evConj_1 e0)]
    cases x <;> first | rfl | simp [isInt] at hx'
def lenTup (many : Int) : D → Bool
  | .tup ds => ((ds.length : Nat) : Int) == many
  | _ => false
theorem eqS_int {S : Store} {i j : Int} : eqS S (.int i) (.int j) = some (i == j) := rfl
theorem tupof_call (k : Nat) {S : Store} {x : D} {t : String} (many : Int) (ht : tyName S x = some t) : gcOut S.length false (callR P (k + 1) 2 [x, .int many] S) = some (.ok (.bl (lenTup many x)) S) := by
  refine pc_def fd2 rfl ?_ rfl
  show Vm.execs (cg k S.length) b2 [some x, some (.int many)] S = _
  rw [b2]
  refine execs_rt (exec_ret ?_)
  have e0 : ev (cg k S.length).toCf (.isi (.nm 0) [.tuple]) [some x, some (.int many)] S = some (.ok (.bl (isTup x)) S) := by
    refine ev_isi (ev_nm rfl) ?_
    rw [← ty_tup ht]
    simp [isiD, ht, isK, Kd.name]
  by_cases hx : isTup x = true
  · obtain ⟨v, rfl⟩ : ∃ v, x = .tup v := by cases x <;> first | exact ⟨_, rfl⟩ | simp [isTup] at hx
    rw [ev_conjT ((evConj_1 e0).trans rfl)]
    exact ev_cmp (ev_blt (z := .int ((v.length : Nat) : Int)) (evs_cons (ev_nm rfl) evs_nil) rfl) (ev_nm rfl) rfl
  · have hx' : isTup x = false := by simpa using hx
    rw [hx'] at e0
    rw [ev_conjF (evConj_1 e0)]
    cases x <;> first | rfl | simp [isTup] at hx'
/-- a bool for each item -/
def onB (f : D → Bool) (d : D) : Option D := some (.bl (f d))
theorem fm_onB (f : D → Bool) (ds : List D) : ds.filterMap (onB f) = ds.map fun d => .bl (f d) := by
  induction ds with
  | nil => rfl
  | cons d ds ih => simp [List.filterMap_cons, onB, ih]
theorem bls_map (f : D → Bool) : ∀ ds : List D, blsOf (ds.map fun d => .bl (f d)) = some (ds.map f)
  | [] => rfl
  | d :: ds => by simp [blsOf, bls_map f ds]
/-- all(f(x) for x in ..) -/
theorem ev_all {C : Cf} {fr : Fr} {S : Store} {tg : Tg} {own : List Nat} {it : It} {elt : Ex} {ds : List D} (f : D → Bool) (hit : evIt C it fr S = some (.ok ⟨ds, none⟩ S)) (hf : ds.length ≤ 1000000)
    (h : ∀ d ∈ ds, ∃ fr', asgT tg d (wipeF fr own) = some fr' ∧ ev C elt fr' S = some (.ok (.bl (f d)) S)) : ev C (.blt .all false [.lc false tg own it [] elt]) fr S = some (.ok (.bl (ds.all f)) S) := by
  refine ev_blt (evs_cons (d := .lst (ds.map fun d => .bl (f d))) (S1 := S) ?_ evs_nil) ?_
  · rw [ev_lc (onB f) hit hf fun d hd => ?_, fm_onB]
    · rfl
    · obtain ⟨fr', e1, e2⟩ := h d hd
      exact ⟨fr', e1, .inr ⟨tsts_nil, _, e2, rfl⟩⟩
  · simp [btD, lstOf, bls_map, List.all_map]
def rowB (many lo hi : Int) : D → Bool
  | .tup ds => (((ds.length : Nat) : Int) == many) && ds.all (isIn lo hi)
  | _ => false
theorem row_call (k : Nat) {S : Store} {x : D} (many lo hi : Int) (hm : many ≤ 1000) (hx : Vl S x) : gcOut S.length false (callR P (k + 3) 3 [x, .int many, .int lo, .int hi] S) = some (.ok (.bl (rowB many lo hi x)) S) := by
  obtain ⟨t, ht⟩ := hx.ty
  refine pc_def fd3 rfl ?_ rfl
  show Vm.execs (cg (k + 2) S.length) b3 [some x, some (.int many), some (.int lo), some (.int hi), none] S = _
  rw [b3]
  refine execs_rt (exec_ret ?_)
  have e0 : ev (cg (k + 2) S.length).toCf (.call 2 false [(.nm 0), (.nm 1)] [0, 1]) [some x, some (.int many), some (.int lo), some (.int hi), none] S = some (.ok (.bl (lenTup many x)) S) := ev_c2 (ev_nm rfl) (ev_nm rfl) (tupof_call (k + 1) many ht)
  by_cases hl : lenTup many x = true
  · obtain ⟨ds, rfl⟩ : ∃ v, x = .tup v := by cases x <;> first | exact ⟨_, rfl⟩ | simp [lenTup] at hl
    rw [hl] at e0
    rw [ev_conjT (evConj_1 e0)]
    have hds : pls ds = true := by
      rcases hx with h | ⟨n, h, _⟩
      · simpa [pl] using h
      · simp at h
    simp only [lenTup, beq_iff_eq] at hl
    rw [show rowB many lo hi (.tup ds) = ds.all (isIn lo hi) by simp [rowB, hl]]
    refine ev_all (isIn lo hi) (evIt_val (ev_nm rfl) rfl) (by omega) fun d hd => ⟨_, rfl, ?_⟩
    obtain ⟨t, ht⟩ := (show Vl S d from .inl (pls_mem hds hd)).ty
    exact ev_c3 (ev_nm rfl) (ev_nm rfl) (ev_nm rfl) (betw_call k lo hi ht)
  · have hl' : lenTup many x = false := by simpa using hl
    rw [hl'] at e0
    rw [ev_conjF (evConj_1 e0)]
    cases x <;> first | rfl | (simp [lenTup] at hl'; simp [rowB, hl'])
/-- natural numbers as data -/
def iN (vs : List Nat) : List D := vs.map fun (v : Nat) => .int (v : Int)
theorem iN_refs (m : Nat) : ∀ vs : List Nat, refsLts m (iN vs) = true
  | [] => rfl
  | v :: vs => by show (true && refsLts m (iN vs)) = true; rw [iN_refs m vs]; rfl
theorem iN_len (vs : List Nat) : (iN vs).length = vs.length := List.length_map ..
theorem rngL0 (n : Nat) : rngL 0 n = iN (List.range n) := by
  unfold rngL iN
  refine List.map_congr_left fun i _ => ?_
  rw [Int.zero_add]
theorem set_self {T : Store} {L : Nat} {d : D} (h : T[L]? = some d) : T.set L d = T := by
  apply List.ext_getElem?
  intro j
  rw [List.getElem?_set]
  by_cases e : L = j
  · subst e
    rw [if_pos rfl, if_pos (List.getElem?_eq_some_iff.mp h).1, h]
  · rw [if_neg e]
/-- a loop that appends what passes a test -/
theorem filt_loop {f : D → Fr → M Fl} {st : Store → Bool} (Fp : Fr → Prop) (L : Nat) (c : Nat → Bool) (n B : Nat) (hst : ∀ T, st T = true)
    (h : ∀ j acc fr T, j < n → acc.length < B → Fp fr → T[L]? = some (.lst (iN acc)) → ∃ fr', f (.int (j : Int)) fr T = some (.ok (.nx fr') (if c j then T.set L (.lst (iN (acc ++ [j]))) else T)) ∧ Fp fr') :
    ∀ (js : List Nat) (acc : List Nat) (fr : Fr) (T : Store), (∀ j ∈ js, j < n) → acc.length + js.length ≤ B → Fp fr → T[L]? = some (.lst (iN acc)) → ∃ fr', forGo f st (iN js) fr T = some (.ok (.nx fr') (T.set L (.lst (iN (acc ++ js.filter c))))) ∧ Fp fr'
  | [], acc, fr, T, _, _, hf, hT => ⟨fr, by rw [List.filter_nil, List.append_nil, set_self hT]; rfl, hf⟩
  | j :: js, acc, fr, T, hj, hB, hf, hT => by
    rw [List.length_cons] at hB
    obtain ⟨fr1, e, hf1⟩ := h j acc fr T (hj j List.mem_cons_self) (by omega) hf hT
    have hjs : ∀ i ∈ js, i < n := fun i hi => hj i (List.mem_cons_of_mem _ hi)
    cases hc : c j with
    | true =>
      rw [hc, if_pos rfl] at e
      obtain ⟨fr2, e2, hf2⟩ := filt_loop Fp L c n B hst h js (acc ++ [j]) fr1 _ hjs (by simp; omega) hf1 (set_get hT _)
      refine ⟨fr2, ?_, hf2⟩
      show forGo f st (.int (j : Int) :: iN js) fr T = _
      simp only [forGo, e, bnd_ok, hst, if_true]
      rw [e2, List.set_set, List.filter_cons, hc, if_pos rfl, List.append_assoc]
      rfl
    | false =>
      rw [hc, if_neg Bool.false_ne_true] at e
      obtain ⟨fr2, e2, hf2⟩ := filt_loop Fp L c n B hst h js acc fr1 _ hjs (by omega) hf1 hT
      refine ⟨fr2, ?_, hf2⟩
      show forGo f st (.int (j : Int) :: iN js) fr T = _
      simp only [forGo, e, bnd_ok, hst, if_true]
      rw [e2, List.filter_cons, hc, if_neg Bool.false_ne_true]
/-- a loop that looks for something to hand back -/
theorem find_loop {f : D → Fr → M Fl} {st : Store → Bool} (Fp : Fr → Prop) (R : Nat → Option D) (enc : Nat → D) (T : Store) (hst : st T = true) :
    ∀ (js : List Nat) (fr : Fr), (∀ j ∈ js, ∀ fr, Fp fr → (R j = none ∧ ∃ fr', f (enc j) fr T = some (.ok (.nx fr') T) ∧ Fp fr') ∨ ∃ d, R j = some d ∧ f (enc j) fr T = some (.ok (.ret d) T)) → Fp fr →
    (js.findSome? R = none ∧ ∃ fr', forGo f st (js.map enc) fr T = some (.ok (.nx fr') T) ∧ Fp fr') ∨ ∃ d, js.findSome? R = some d ∧ forGo f st (js.map enc) fr T = some (.ok (.ret d) T)
  | [], fr, _, hf => .inl ⟨rfl, fr, rfl, hf⟩
  | j :: js, fr, h, hf => by
    rw [List.findSome?_cons, List.map_cons]
    rcases h j List.mem_cons_self fr hf with ⟨hr, fr1, e, hf1⟩ | ⟨d, hr, e⟩
    · rw [hr]
      simp only [forGo, e, bnd_ok, hst, if_true]
      exact find_loop Fp R enc T hst js fr1 (fun i hi => h i (List.mem_cons_of_mem _ hi)) hf1
    · rw [hr]
      refine .inr ⟨d, rfl, ?_⟩
      simp only [forGo, e, bnd_ok]
theorem fdiv_nat (a b : Nat) : Int.fdiv (a : Int) (b : Int) = ((a / b : Nat) : Int) := (Int.ofNat_fdiv a b).symm
theorem rest_nat (a s : Nat) : (a : Int) - ((a / s : Nat) : Int) * (s : Int) = ((a % s : Nat) : Int) := by
  have := Nat.div_add_mod a s
  have h2 : ((s * (a / s) + a % s : Nat) : Int) = (a : Int) := by rw [this]
  push_cast at h2
  have h3 : (s : Int) * ((a / s : Nat) : Int) = ((a / s : Nat) : Int) * (s : Int) := Int.mul_comm _ _
  omega
theorem eq_nat (a b : Nat) : ((a : Int) == (b : Int)) = (a == b) := by
  rw [Bool.eq_iff_iff]; simp only [beq_iff_eq]; omega
theorem fdivD {S : Store} {x y : Nat} (h1 : y ≠ 0) (h2 : y < 1000000) : binD S .FloorDiv (.int (x : Int)) (.int (y : Int)) = some (.v (.int ((x / y : Nat) : Int))) := by
  have a0 : (y : Int) ≠ 0 := by omega
  have a1 : (y : Int).natAbs < 1073741824 := by omega
  simp only [binD, binI]
  rw [if_neg (by omega), fdiv_nat]
  rfl
theorem mulD {S : Store} {x y : Nat} (h : y < 1000000) : binD S .Mult (.int (x : Int)) (.int (y : Int)) = some (.v (.int ((x * y : Nat) : Int))) := by
  have cm : cmulB (x : Int) (y : Int) = true := by
    simp only [cmulB, Bool.or_eq_true, Bool.and_eq_true, decide_eq_true_eq]; omega
  simp only [binD, binI, cm, if_true]
  push_cast
  rfl
/-- a // s, a - a // s * s -/
theorem divmod_ev {C : Cf} {fr : Fr} {S : Store} {a s : Nat} {i j : Nat} (h0 : s ≠ 0) (h1 : s < 1000000) (hi : getFr fr i = some (.int (a : Int))) (hj : getFr fr j = some (.int (s : Int))) :
    ev C (.tup [(.bin .FloorDiv false (.nm i) (.nm j)), (.bin .Sub false (.nm i) (.bin .Mult false (.bin .FloorDiv false (.nm i) (.nm j)) (.nm j)))]) fr S = some (.ok (.tup [.int ((a / s : Nat) : Int), .int ((a % s : Nat) : Int)]) S) :=
  ev_tup (evs_cons (ev_bin (ev_nm hi) (ev_nm hj) (fdivD h0 h1)) (evs_cons (ev_bin (ev_nm hi) (ev_bin (ev_bin (ev_nm hi) (ev_nm hj) (fdivD h0 h1)) (ev_nm hj) (mulD h1)) (by
      simp only [binD, binI]
      push_cast
      rw [← Int.natCast_ediv, rest_nat]; rfl)) evs_nil))
theorem addD {S : Store} {x y : Nat} : binD S .Add (.int (x : Int)) (.int (y : Int)) = some (.v (.int ((x + y : Nat) : Int))) := by
  simp only [binD, binI]; push_cast; rfl
theorem cmp_eqN {S : Store} {x y : Nat} : cmpD S .Eq (.int (x : Int)) (.int (y : Int)) = some (x == y) := by
  simp only [cmpD, eqS_int, eq_nat]
theorem map_refs {α : Type} {g : α → D} {m : Nat} (h : ∀ x, refsLt m (g x) = true) : ∀ l : List α, refsLts m (l.map g) = true
  | [] => rfl
  | x :: l => by rw [List.map_cons, refsLts, h, map_refs h l]; rfl
def onN (g : Nat → D) : D → Option D
  | .int v => some (g v.toNat)
  | _ => none
theorem fm_onN (g : Nat → D) : ∀ l : List Nat, (iN l).filterMap (onN g) = l.map g
  | [] => rfl
  | x :: l => by
    show ((D.int (x : Int)) :: iN l).filterMap (onN g) = _
    rw [List.filterMap_cons, fm_onN g l]
    simp [onN]
theorem cmp_eqI {S : Store} {x y : Int} : cmpD S .Eq (.int x) (.int y) = some (x == y) := by
  simp only [cmpD, eqS_int]
theorem cmp_neI {S : Store} {x y : Int} : cmpD S .NotEq (.int x) (.int y) = some (!(x == y)) := by
  simp only [cmpD, eqS_int]; rfl
theorem drop_from {s a : Nat} {xs : List D} (h : a + 1 ≤ xs.length) : cutL xs (some ((a + 1 : Nat) : Int)) none = xs.drop (a + 1) := by
  unfold cutL
  rw [HT.sIx_nat, Nat.min_eq_left h]
  show List.take (xs.length - (a + 1)) _ = _
  rw [List.take_of_length_le (by simp)]
theorem fm_none (ds : List D) : ds.filterMap (fun _ => (none : Option D)) = [] := by
  induction ds with
  | nil => rfl
  | cons d ds ih => simpa using ih
theorem atI_get {ds : List D} {i : Nat} (h : i < ds.length) : L2.atI ds (i : Int) = some ds[i] := by
  unfold L2.atI L2.ixN
  rw [if_pos (by omega), if_pos (by omega)]
  simp [h]
theorem nil_nil {S : Store} : cmpD S .Eq (.lst []) (.lst []) = some true := rfl
theorem fd4 : P.fd 4 = some ⟨1, 3, b4⟩ := rfl
theorem fd5 : P.fd 5 = some ⟨2, 2, b5⟩ := rfl
theorem cg_call {k m : Nat} : (cg k m).toCf.call = callR P k := rfl
theorem glb_ev {C : Cg} (h : C.glb = P.glb) {x : Str} {d : D} (hd : P.glb x = some d) (hn : noDct (some d) = some d) {fr : Fr} {S : Store} : ev C.toCf (.glb x) fr S = some (.ok d S) := by
  rw [ev, h, hd, hn]; rfl
/-- rising whole numbers -/
def risL : List D → Bool
  | .int a :: .int b :: r => decide (a < b) && risL (.int b :: r)
  | _ => true
def cmpP : D → Bool
  | .tup [.int a, .int b] => decide (a < b)
  | _ => false
theorem ris_zip : ∀ vs : List Int, (zipL (iL vs) ((iL vs).drop 1)).all cmpP = risL (iL vs)
  | [] => rfl
  | [a] => rfl
  | a :: b :: r => by
    have ih := ris_zip (b :: r)
    show (cmpP (.tup [.int a, .int b]) && (zipL (iL (b :: r)) ((iL (b :: r)).drop 1)).all cmpP) = (decide (a < b) && risL (iL (b :: r)))
    rw [ih]; rfl
theorem zip_mem : ∀ {xs ys : List D} {d : D}, d ∈ zipL xs ys → ∃ x y, x ∈ xs ∧ y ∈ ys ∧ d = .tup [x, y]
  | [], _, _, h => by simp [zipL] at h
  | _ :: _, [], _, h => by simp [zipL] at h
  | x :: xs, y :: ys, d, h => by
    rw [zipL, List.mem_cons] at h
    rcases h with rfl | h
    · exact ⟨x, y, List.mem_cons_self, List.mem_cons_self, rfl⟩
    · obtain ⟨a, b, h1, h2, h3⟩ := zip_mem h
      exact ⟨a, b, List.mem_cons_of_mem _ h1, List.mem_cons_of_mem _ h2, h3⟩
theorem zip_len : ∀ (xs ys : List D), (zipL xs ys).length ≤ xs.length
  | [], _ => by simp [zipL]
  | _ :: _, [] => by simp [zipL]
  | x :: xs, y :: ys => by simp only [zipL, List.length_cons]; have := zip_len xs ys; omega
theorem cut_rest {rs : List D} : cutL rs (some 1) none = rs.drop 1 := by
  unfold cutL
  have : HT.sIx rs.length 0 (some 1) = min 1 rs.length := by
    have := HT.sIx_nat rs.length 0 1
    push_cast at this
    exact this
  rw [this]
  show List.take (rs.length - min 1 rs.length) (List.drop (min 1 rs.length) rs) = _
  cases rs with
  | nil => rfl
  | cons x rs =>
    rw [show min 1 (x :: rs).length = 1 by simp]
    rw [List.take_of_length_le (by simp)]
theorem ris_call (k : Nat) (vs : List Int) (S : Store) (hl : vs.length ≤ 1000) : gcOut S.length false (callR P (k + 1) 4 [.tup (iL vs)] S) = some (.ok (.bl (risL (iL vs))) S) := by
  refine pc_def fd4 rfl ?_ rfl
  show Vm.execs (cg k S.length) b4 [some (.tup (iL vs)), none, none] S = _
  rw [b4, ← ris_zip]
  refine execs_rt (exec_ret (ev_all cmpP (evIt_zipT (ev_nm rfl) (ev_slc (z := .tup ((iL vs).drop 1)) (ev_nm rfl) (evO_yes ev_cst) evO_no ?_)) ?_ fun d hd => ?_))
  · show some (Ou.v (.tup (cutL (iL vs) (some 1) none))) = _
    rw [cut_rest]
  · have := zip_len (iL vs) ((iL vs).drop 1)
    rw [iL_len] at this
    omega
  · obtain ⟨x, y, hx, hy, rfl⟩ := zip_mem hd
    obtain ⟨a, _, rfl⟩ := List.mem_map.mp hx
    obtain ⟨b, _, rfl⟩ := List.mem_map.mp (List.mem_of_mem_drop hy)
    refine ⟨[some (.tup (iL vs)), some (.int a), some (.int b)], by simp [asgT, asgTs, wipeF], ?_⟩
    exact ev_cmp (ev_nm rfl) (ev_nm rfl) rfl
theorem ints_of {lo hi : Int} : ∀ {ds : List D}, ds.all (isIn lo hi) = true → ∃ vs, ds = iL vs ∧ ∀ v ∈ vs, lo ≤ v ∧ v ≤ hi
  | [], _ => ⟨[], rfl, by simp⟩
  | d :: ds, h => by
    rw [List.all_cons, Bool.and_eq_true] at h
    obtain ⟨vs, rfl, hv⟩ := ints_of h.2
    cases d <;> simp only [isIn, Bool.false_eq_true, false_and] at h
    rename_i v
    simp only [Bool.and_eq_true, decide_eq_true_eq] at h
    exact ⟨v :: vs, rfl, fun w hw => by rcases List.mem_cons.mp hw with rfl | hw; exact h.1; exact hv w hw⟩
def setB (size : Int) : D → Bool
  | .tup ds => ds.all (isIn 0 (size - 1)) && risL ds
  | _ => false
theorem len_tupD {S : Store} {ds : List D} : btD S .len [.tup ds] = some (.v (.int ((ds.length : Nat) : Int))) := rfl
theorem set_call (k : Nat) {S : Store} {x : D} (size : Int) (hx : Vl S x) (hl : ∀ ds, x = .tup ds → ds.length ≤ 1000) : gcOut S.length false (callR P (k + 4) 5 [x, .int size] S) = some (.ok (.bl (setB size x)) S) := by
  obtain ⟨t, ht⟩ := hx.ty
  refine pc_def fd5 rfl ?_ rfl
  let fr : Fr := [some x, some (.int size)]
  show Vm.execs (cg (k + 3) S.length) b5 fr S = _
  rw [b5]
  refine execs_rt (exec_ret ?_)
  have e0 : ev (cg (k + 3) S.length).toCf (.isi (.nm 0) [.tuple]) fr S = some (.ok (.bl (isTup x)) S) := by
    refine ev_isi (ev_nm rfl) ?_
    rw [← ty_tup ht]
    simp [isiD, ht, isK, Kd.name]
  by_cases hi : isTup x = true
  · obtain ⟨ds, rfl⟩ : ∃ v, x = .tup v := by cases x <;> first | exact ⟨_, rfl⟩ | simp [isTup] at hi
    have hl := hl ds rfl
    have er : ev (cg (k + 3) S.length).toCf (.call 3 false [(.nm 0), (.blt .len false [(.nm 0)]), (.cst (.int 0)), (.bin .Sub false (.nm 1) (.cst (.int 1)))] [0, 1, 2, 3]) fr S = some (.ok (.bl (ds.all (isIn 0 (size - 1)))) S) := by
      refine ev_c4 (x := .tup ds) (y := .int ((ds.length : Nat) : Int)) (z := .int 0) (w := .int (size - 1)) (S1 := S) (S2 := S) (S3 := S) (S4 := S) (ev_nm rfl) (ev_blt (evs_cons (ev_nm rfl) evs_nil) len_tupD) ev_cst (ev_bin (ev_nm rfl) ev_cst rfl) ?_
      rw [cg_call]
      have := row_call k (S := S) (x := .tup ds) ((ds.length : Nat) : Int) 0 (size - 1) (by omega) hx
      rw [this]
      simp [rowB]
    have e2 := evConj_c e0 (k2 := ds.all (isIn 0 (size - 1))) fun _ => evConj_1 er
    rw [hi, Bool.true_and] at e2
    cases hr : ds.all (isIn 0 (size - 1)) with
    | false =>
      rw [hr] at e2
      rw [ev_conjF e2]
      simp [setB, hr]
    | true =>
      rw [hr] at e2
      rw [ev_conjT e2]
      obtain ⟨vs, rfl, _⟩ := ints_of hr
      rw [show setB size (.tup (iL vs)) = risL (iL vs) by simp [setB, hr]]
      refine ev_c1 (x := .tup (iL vs)) (S1 := S) (ev_nm rfl) ?_
      rw [cg_call]
      exact ris_call (k + 2) vs S (by rwa [iL_len] at hl)
  · have hi' : isTup x = false := by simpa using hi
    rw [hi'] at e0
    rw [ev_conjF (evConj_F e0)]
    cases x <;> first | rfl | simp [isTup] at hi'

end K55

/-! k55: equal values -/
namespace K55
open PySem Vm
def sd : Nat → D → Bool
  | _, .non => true
  | _, .bl _ => true
  | _, .int _ => true
  | _, .str x => decide (x.length ≤ 1000) && x.cps.toList.all fun c => PyData.strOk ⟨#[c]⟩
  | n + 1, .tup ds => decide (ds.length ≤ 1000) && ds.all (sd n)
  | n + 1, .lst ds => decide (ds.length ≤ 1000) && ds.all (sd n)
  | _, _ => false
abbrev lcS : Ex := .lc false (.nm 2) [2] (.rng1 (.blt .len false [(.nm 1)])) [(.cmp .NotEq (.slc false (.nm 0) (.yes (.nm 2)) (.yes (.bin .Add false (.nm 2) (.cst (.int 1))))) (.sub (.nm 1) (.nm 2)))] (.nm 2)
abbrev lcI : Ex := .lc false (.nm 2) [2] (.rng1 (.blt .len false [(.nm 1)])) [(.neg (.v (.call 24 false [(.sub (.nm 0) (.nm 2)), (.sub (.nm 1) (.nm 2))] [0, 1])))] (.nm 2)
/-- items alike, place by place -/
theorem same_seq (k : Nat) (x d : D) (xs ds : List D) (S : Store) (hd : lenD S d = some ds.length) (hx : ∀ i : Int, subD S x (.int i) = L2.atI xs i) (hs : ∀ i : Int, subD S d (.int i) = L2.atI ds i) (hxl : xs.length = ds.length) (hl : ds.length ≤ 1000)
    (h : ∀ (i : Nat) (a b : D), xs[i]? = some a → ds[i]? = some b → gcOut S.length false (callR P k 24 [a, b] S) = some (.ok (.bl true) S)) :
    ev (cg k S.length).toCf lcI [some x, some d, none] S = some (.ok (.lst []) S) := by
  rw [ev_lc (fun _ => none) (evIt_rng1 (j := ((ds.length : Nat) : Int)) (ev_blt (evs_cons (ev_nm rfl) evs_nil) (by simp [btD, hd])) (by simp [big62]; omega)) (by simp [rngL]; omega) fun y hy => ?_, fm_none]
  · rfl
  · obtain ⟨i, hi, rfl⟩ := rngL_mem.mp hy
    simp only [Int.toNat_natCast] at hi
    refine ⟨_, rfl, .inl ⟨tsts_1 (tst_neg (k := true) (tst_vb ?_)), rfl⟩⟩
    rw [Int.zero_add]
    have hi2 : i < xs.length := by omega
    have h1 : subD S x (.int (i : Int)) = some xs[i] := by rw [hx, atI_get hi2]
    have h2 : subD S d (.int (i : Int)) = some ds[i] := by rw [hs, atI_get hi]
    exact ev_c2 (ev_sub (ev_nm rfl) (ev_nm rfl) h1) (ev_sub (ev_nm rfl) (ev_nm rfl) h2) (h i _ _ (List.getElem?_eq_getElem hi2) (List.getElem?_eq_getElem hi))
theorem same_str (k m : Nat) (x : Str) (S : Store) (hl : x.length ≤ 1000) (h : ∀ c ∈ x.cps.toList, PyData.strOk ⟨#[c]⟩ = true) :
    ev (cg k m).toCf lcS [some (.str x), some (.str x), none] S = some (.ok (.lst []) S) := by
  have hf : fits x.length = true := by simp only [fits, decide_eq_true_eq]; omega
  have hlen : x.cps.toList.length = x.length := by simp; rfl
  rw [ev_lc (fun _ => none) (evIt_rng1 (j := ((x.length : Nat) : Int)) (ev_blt (evs_cons (ev_nm rfl) evs_nil) (by simp [btD, lenD, hf])) (by simp [big62]; omega)) (by simp [rngL]; omega) fun y hy => ?_, fm_none]
  · rfl
  · obtain ⟨i, hi, rfl⟩ := rngL_mem.mp hy
    simp only [Int.toNat_natCast] at hi
    have hi' : i < x.cps.toList.length := by omega
    have hc := h _ (List.getElem_mem hi')
    obtain ⟨c, hcc⟩ : ∃ c, x.cps.toList[i] = c := ⟨_, rfl⟩
    rw [hcc] at hc
    have e1 : subD S (.str x) (.int (i : Int)) = some (.str ⟨#[c]⟩) := by
      simp only [subD, hf, if_true]
      unfold L2.atI L2.ixN
      rw [if_pos (by omega), if_pos (by omega)]
      simp only [Int.toNat_natCast, Option.bind_some]
      rw [List.getElem?_eq_getElem hi', hcc]
      rfl
    have e2 : slcD S (.str x) (some (i : Int)) (some ((i : Int) + 1)) = some (.v (.str ⟨#[c]⟩)) := by
      simp only [slcD, hf, if_true]
      have : cutL x.cps.toList (some (i : Int)) (some ((i : Int) + 1)) = [c] := by
        unfold cutL
        have a1 : HT.sIx x.cps.toList.length 0 (some (i : Int)) = i := by
          rw [HT.sIx_nat]; omega
        have a2 : HT.sIx x.cps.toList.length x.cps.toList.length (some ((i : Int) + 1)) = i + 1 := by
          have := HT.sIx_nat x.cps.toList.length x.cps.toList.length (i + 1)
          push_cast at this
          rw [this]; omega
        rw [a1, a2, Nat.add_sub_cancel_left, List.drop_eq_getElem_cons hi', hcc]
        rfl
      rw [this]
    have e3 : cmpD S .NotEq (.str ⟨#[c]⟩) (.str ⟨#[c]⟩) = some false := by
      have : eqS S (.str ⟨#[c]⟩) (.str ⟨#[c]⟩) = some true := by
        unfold eqS
        rw [flat_id rfl]
        simp only [Option.bind_some]
        rw [show okD okN (.str ⟨#[c]⟩) = true from hc]
        simp [eqD]
      simp only [cmpD, this]
      rfl
    refine ⟨_, rfl, .inl ⟨tsts_1 (tst_cmp (x := .str ⟨#[c]⟩) ?_ (ev_sub (ev_nm rfl) (ev_nm rfl) (by rw [Int.zero_add]; exact e1)) e3), rfl⟩⟩
    rw [ev]
    simp [ev, evO, M.bind, Vm.bnd, getFr, lift, binD, binI, mkO, wipeF, e2]
theorem eqS_bl {S : Store} {a b : Bool} : eqS S (.bl a) (.bl b) = some (a == b) := rfl
theorem fd24 : P.fd 24 = some ⟨2, 3, b24⟩ := rfl
abbrev T1 : Te := .disj [(.cmp .Is (.nm 1) (.cst .non)), (.v (.isi (.nm 1) [.bool]))]
abbrev T5 : Te := .disj [(.cmp .NotEq (.isi (.nm 0) [.list]) (.isi (.nm 1) [.list])), (.cmp .NotEq (.isi (.nm 0) [.tuple]) (.isi (.nm 1) [.tuple]))]
abbrev lenC : Ex := .cmp .Eq (.blt .len false [(.nm 0)]) (.blt .len false [(.nm 1)])
theorem same_leaf (K : Nat) (d : D) (S : Store) (h : sd 0 d = true) : gcOut S.length false (callR P (K + 1) 24 [d, d] S) = some (.ok (.bl true) S) := by
  refine pc_def fd24 rfl ?_ rfl
  show Vm.execs (cg K S.length) b24 [some d, some d, none] S = _
  cases d <;> simp only [sd] at h <;> try simp only [Bool.false_eq_true] at h
  · simp [b24, callR, startF, Vm.execs, Vm.exec, ev, evs, evO, tst, tsConj, tsDisj, tsts, evConj, evDisj, evIt, btD, cmpD, cmpD.inD, binD, binI, cmulB, unaD, outF, getFr, lift, mkL, mkO, mkK, M.bind, bnd, subD, slcD, seqOf, lstOf, lenD, tyName, isiD, L2.atI, L2.ixN, asgT, asgTs, dctOf, isKey, truth, putD, barr, refsLts, refsLt, List.mapM_cons, List.mapM_nil, isNonD]
  · rename_i b; cases b <;> simp [b24, callR, startF, Vm.execs, Vm.exec, ev, evs, evO, tst, tsConj, tsDisj, tsts, evConj, evDisj, evIt, btD, cmpD, cmpD.inD, binD, binI, cmulB, unaD, outF, getFr, lift, mkL, mkO, mkK, M.bind, bnd, subD, slcD, seqOf, lstOf, lenD, tyName, isiD, L2.atI, L2.ixN, asgT, asgTs, dctOf, isKey, truth, putD, barr, refsLts, refsLt, List.mapM_cons, List.mapM_nil, isNonD, isK, Kd.name] <;> rfl
  · simp [b24, callR, startF, Vm.execs, Vm.exec, ev, evs, evO, tst, tsConj, tsDisj, tsts, evConj, evDisj, evIt, btD, cmpD, cmpD.inD, binD, binI, cmulB, unaD, outF, getFr, lift, mkL, mkO, mkK, M.bind, bnd, subD, slcD, seqOf, lstOf, lenD, tyName, isiD, L2.atI, L2.ixN, asgT, asgTs, dctOf, isKey, truth, putD, barr, refsLts, refsLt, List.mapM_cons, List.mapM_nil, isNonD, isK, Kd.name, eqS_int]
  · rename_i x
    simp only [Bool.and_eq_true, decide_eq_true_eq, List.all_eq_true] at h
    have e := same_str K S.length x S h.1 h.2
    have hf : fits x.length = true := by simp only [fits, decide_eq_true_eq]; omega
    have t1 : tst (cg K S.length).toCf T1 [some (.str x), some (.str x), none] S = some (.ok false S) := by simp [callR, startF, Vm.execs, Vm.exec, ev, evs, evO, tst, tsConj, tsDisj, tsts, evConj, evDisj, evIt, btD, cmpD, cmpD.inD, binD, binI, cmulB, unaD, outF, getFr, lift, mkL, mkO, mkK, M.bind, bnd, subD, slcD, seqOf, lstOf, lenD, tyName, isiD, L2.atI, L2.ixN, asgT, asgTs, dctOf, isKey, truth, putD, barr, refsLts, refsLt, List.mapM_cons, List.mapM_nil, isNonD, isK, Kd.name]
    have t2 : tst (cg K S.length).toCf (.v (.isi (.nm 1) [.int])) [some (.str x), some (.str x), none] S = some (.ok false S) := by simp [callR, startF, Vm.execs, Vm.exec, ev, evs, evO, tst, tsConj, tsDisj, tsts, evConj, evDisj, evIt, btD, cmpD, cmpD.inD, binD, binI, cmulB, unaD, outF, getFr, lift, mkL, mkO, mkK, M.bind, bnd, subD, slcD, seqOf, lstOf, lenD, tyName, isiD, L2.atI, L2.ixN, asgT, asgTs, dctOf, isKey, truth, putD, barr, refsLts, refsLt, List.mapM_cons, List.mapM_nil, isNonD, isK, Kd.name]
    have t3 : tst (cg K S.length).toCf (.v (.isi (.nm 1) [.str])) [some (.str x), some (.str x), none] S = some (.ok true S) := by simp [callR, startF, Vm.execs, Vm.exec, ev, evs, evO, tst, tsConj, tsDisj, tsts, evConj, evDisj, evIt, btD, cmpD, cmpD.inD, binD, binI, cmulB, unaD, outF, getFr, lift, mkL, mkO, mkK, M.bind, bnd, subD, slcD, seqOf, lstOf, lenD, tyName, isiD, L2.atI, L2.ixN, asgT, asgTs, dctOf, isKey, truth, putD, barr, refsLts, refsLt, List.mapM_cons, List.mapM_nil, isNonD, isK, Kd.name]
    have e0 : ev (cg K S.length).toCf (.isi (.nm 0) [.str]) [some (.str x), some (.str x), none] S = some (.ok (.bl true) S) := by simp [callR, startF, Vm.execs, Vm.exec, ev, evs, evO, tst, tsConj, tsDisj, tsts, evConj, evDisj, evIt, btD, cmpD, cmpD.inD, binD, binI, cmulB, unaD, outF, getFr, lift, mkL, mkO, mkK, M.bind, bnd, subD, slcD, seqOf, lstOf, lenD, tyName, isiD, L2.atI, L2.ixN, asgT, asgTs, dctOf, isKey, truth, putD, barr, refsLts, refsLt, List.mapM_cons, List.mapM_nil, isK, Kd.name]
    have e1 : ev (cg K S.length).toCf lenC [some (.str x), some (.str x), none] S = some (.ok (.bl true) S) := by simp [callR, startF, Vm.execs, Vm.exec, ev, evs, evO, tst, tsConj, tsDisj, tsts, evConj, evDisj, evIt, btD, cmpD, cmpD.inD, binD, binI, cmulB, unaD, outF, getFr, lift, mkL, mkO, mkK, M.bind, bnd, subD, slcD, seqOf, lstOf, lenD, tyName, isiD, L2.atI, L2.ixN, asgT, asgTs, dctOf, isKey, truth, putD, barr, refsLts, refsLt, List.mapM_cons, List.mapM_nil, hf, eqS_int]
    rw [b24]
    exact (execs_nx ((exec_ifF t1).trans execs_nil)).trans ((execs_nx ((exec_ifF t2).trans execs_nil)).trans (execs_rt ((exec_ifT t3).trans (execs_rt (exec_ret ((ev_conjT ((evConj_T e0).trans (evConj_1 e1))).trans (ev_cmp e (ev_lstF evs_nil) nil_nil)))))))
/-- a list or a tuple, boxed or not, beside one that is alike -/
theorem same_gen (k : Nat) (x d : D) (xs ds : List D) (S : Store) (ty : String) (hty : tyName S x = some ty) (hd : (d = .lst ds ∧ ty = "list") ∨ (d = .tup ds ∧ ty = "tuple")) (hle : lenD S x = some ds.length) (hsb : ∀ i : Int, subD S x (.int i) = L2.atI xs i) (hxl : xs.length = ds.length) (hl : ds.length ≤ 1000)
    (h : ∀ (i : Nat) (a b : D), xs[i]? = some a → ds[i]? = some b → gcOut S.length false (callR P k 24 [a, b] S) = some (.ok (.bl true) S)) : gcOut S.length false (callR P (k + 1) 24 [x, d] S) = some (.ok (.bl true) S) := by
  refine pc_def fd24 rfl ?_ rfl
  let fr : Fr := [some x, some d, none]
  show Vm.execs (cg k S.length) b24 fr S = _
  have hd0 : lenD S d = some ds.length := by rcases hd with ⟨rfl, _⟩ | ⟨rfl, _⟩ <;> rfl
  have hty2 : tyName S d = some ty := by rcases hd with ⟨rfl, rfl⟩ | ⟨rfl, rfl⟩ <;> rfl
  have e := same_seq k x d xs ds S hd0 hsb (fun i => by rcases hd with ⟨rfl, _⟩ | ⟨rfl, _⟩ <;> rfl) hxl hl h
  have t1 : tst (cg k S.length).toCf T1 fr S = some (.ok false S) := by rcases hd with ⟨rfl, _⟩ | ⟨rfl, _⟩ <;> simp [callR, startF, Vm.execs, Vm.exec, ev, evs, evO, tst, tsConj, tsDisj, tsts, evConj, evDisj, evIt, btD, cmpD, cmpD.inD, binD, binI, cmulB, unaD, outF, getFr, lift, mkL, mkO, mkK, M.bind, bnd, subD, slcD, seqOf, lstOf, lenD, tyName, isiD, L2.atI, L2.ixN, asgT, asgTs, dctOf, isKey, truth, putD, barr, refsLts, refsLt, List.mapM_cons, List.mapM_nil, isNonD, isK, Kd.name, fr]
  have t2 : tst (cg k S.length).toCf (.v (.isi (.nm 1) [.int])) fr S = some (.ok false S) := by rcases hd with ⟨rfl, _⟩ | ⟨rfl, _⟩ <;> simp [callR, startF, Vm.execs, Vm.exec, ev, evs, evO, tst, tsConj, tsDisj, tsts, evConj, evDisj, evIt, btD, cmpD, cmpD.inD, binD, binI, cmulB, unaD, outF, getFr, lift, mkL, mkO, mkK, M.bind, bnd, subD, slcD, seqOf, lstOf, lenD, tyName, isiD, L2.atI, L2.ixN, asgT, asgTs, dctOf, isKey, truth, putD, barr, refsLts, refsLt, List.mapM_cons, List.mapM_nil, isNonD, isK, Kd.name, fr]
  have t3 : tst (cg k S.length).toCf (.v (.isi (.nm 1) [.str])) fr S = some (.ok false S) := by rcases hd with ⟨rfl, _⟩ | ⟨rfl, _⟩ <;> simp [callR, startF, Vm.execs, Vm.exec, ev, evs, evO, tst, tsConj, tsDisj, tsts, evConj, evDisj, evIt, btD, cmpD, cmpD.inD, binD, binI, cmulB, unaD, outF, getFr, lift, mkL, mkO, mkK, M.bind, bnd, subD, slcD, seqOf, lstOf, lenD, tyName, isiD, L2.atI, L2.ixN, asgT, asgTs, dctOf, isKey, truth, putD, barr, refsLts, refsLt, List.mapM_cons, List.mapM_nil, isNonD, isK, Kd.name, fr]
  have i0 : ∀ ks, ev (cg k S.length).toCf (.isi (.nm 0) ks) fr S = some (.ok (.bl (ks.any (isK ty))) S) := fun ks => ev_isi (ev_nm rfl) (by simp [isiD, hty])
  have i1 : ∀ ks, ev (cg k S.length).toCf (.isi (.nm 1) ks) fr S = some (.ok (.bl (ks.any (isK ty))) S) := fun ks => ev_isi (ev_nm rfl) (by simp [isiD, hty2])
  have ne : ∀ b : Bool, cmpD S .NotEq (.bl b) (.bl b) = some false := fun b => by simp only [cmpD, eqS_bl]; cases b <;> rfl
  have t5 : tst (cg k S.length).toCf T5 fr S = some (.ok false S) :=
    tst_disj_c (tsDisj_c (tst_cmp (i0 [.list]) (i1 [.list]) (ne _)) (tsDisj_c (tst_cmp (i0 [.tuple]) (i1 [.tuple]) (ne _)) tsDisj_nil))
  have l0 : ev (cg k S.length).toCf (.blt .len false [(.nm 0)]) fr S = some (.ok (.int ((ds.length : Nat) : Int)) S) := ev_blt (evs_cons (ev_nm rfl) evs_nil) (by simp [btD, hle])
  have l1 : ev (cg k S.length).toCf (.blt .len false [(.nm 1)]) fr S = some (.ok (.int ((ds.length : Nat) : Int)) S) := ev_blt (evs_cons (ev_nm rfl) evs_nil) (by simp [btD, hd0])
  have lc : ev (cg k S.length).toCf lenC fr S = some (.ok (.bl true) S) := ev_cmp l0 l1 (by rw [cmp_eqI, beq_self_eq_true])
  rw [b24]
  exact (execs_nx ((exec_ifF t1).trans execs_nil)).trans ((execs_nx ((exec_ifF t2).trans execs_nil)).trans ((execs_nx ((exec_ifF t3).trans execs_nil)).trans ((execs_nx ((exec_ifF t5).trans execs_nil)).trans (execs_rt (exec_ret ((ev_conjT (evConj_1 lc)).trans (ev_cmp e (ev_lstF evs_nil) nil_nil)))))))
theorem same_of_seq (k : Nat) (d : D) (ds : List D) (S : Store) (ht : d = .tup ds ∨ d = .lst ds) (hl : ds.length ≤ 1000) (h : ∀ x ∈ ds, gcOut S.length false (callR P k 24 [x, x] S) = some (.ok (.bl true) S)) : gcOut S.length false (callR P (k + 1) 24 [d, d] S) = some (.ok (.bl true) S) := by
  refine same_gen k d d ds ds S (if d = .lst ds then "list" else "tuple") ?_ ?_ ?_ (fun i => by rcases ht with rfl | rfl <;> rfl) rfl hl fun i a b ha hb => ?_
  · rcases ht with rfl | rfl <;> simp [tyName]
  · rcases ht with rfl | rfl <;> simp
  · rcases ht with rfl | rfl <;> rfl
  · rw [ha] at hb
    cases hb
    exact h a (List.mem_of_getElem? ha)
theorem same_call : ∀ (n k : Nat) (d : D) (S : Store), sd n d = true → gcOut S.length false (callR P (k + n + 1) 24 [d, d] S) = some (.ok (.bl true) S) := by
  intro n
  induction n with
  | zero => exact fun k d S h => same_leaf k d S h
  | succ n ih =>
    intro k d S h
    cases d with
    | tup ds =>
      simp only [sd, Bool.and_eq_true, decide_eq_true_eq, List.all_eq_true] at h
      exact same_of_seq (k + (n + 1)) _ ds S (.inl rfl) h.1 fun x hx => ih k x S (h.2 x hx)
    | lst ds =>
      simp only [sd, Bool.and_eq_true, decide_eq_true_eq, List.all_eq_true] at h
      exact same_of_seq (k + (n + 1)) _ ds S (.inr rfl) h.1 fun x hx => ih k x S (h.2 x hx)
    | non => exact same_leaf _ _ S rfl
    | bl b => exact same_leaf _ _ S rfl
    | int i => exact same_leaf _ _ S rfl
    | str x => exact same_leaf _ _ S (by simpa only [sd] using h)
    | _ => simp [sd] at h
end K55

/-! k55: sayings, their truth by the law -/
namespace K55
open PySem Vm
inductive Sy where
  | kn (p : Nat) | li (p : Nat) | ct (n : Nat) (ps : List Nat) | nt (a : Sy) | an (a b : Sy) | og (a b : Sy) | sm (a b : Sy)
abbrev wKn : Str := ("knight" : Str)
abbrev wLi : Str := ("liar" : Str)
abbrev wCt : Str := ("count" : Str)
abbrev wNt : Str := ("not" : Str)
abbrev wAn : Str := ("and" : Str)
abbrev wOr : Str := ("or" : Str)
abbrev wSm : Str := ("same" : Str)
def Sy.w : Sy → Str
  | .kn _ => wKn | .li _ => wLi | .ct _ _ => wCt | .nt _ => wNt | .an _ _ => wAn | .og _ _ => wOr | .sm _ _ => wSm
def sD : Sy → D
  | .kn p => .tup [.str wKn, .int (p : Int)]
  | .li p => .tup [.str wLi, .int (p : Int)]
  | .ct n ps => .tup [.str wCt, .int (n : Int), .tup (iN ps)]
  | .nt a => .tup [.str wNt, sD a]
  | .an a b => .tup [.str wAn, sD a, sD b]
  | .og a b => .tup [.str wOr, sD a, sD b]
  | .sm a b => .tup [.str wSm, sD a, sD b]
/-- how deep -/
def dp : Sy → Nat
  | .kn _ => 1 | .li _ => 1 | .ct _ _ => 1
  | .nt a => dp a + 1
  | .an a b => max (dp a) (dp b) + 1
  | .og a b => max (dp a) (dp b) + 1
  | .sm a b => max (dp a) (dp b) + 1
/-- a saying of m people -/
def okS (m : Nat) : Sy → Prop
  | .kn p => p < m
  | .li p => p < m
  | .ct n ps => n ≤ 8 ∧ ps.length ≤ 8 ∧ (∀ p ∈ ps, p < m) ∧ risL (iN ps) = true
  | .nt a => okS m a
  | .an a b => okS m a ∧ okS m b
  | .og a b => okS m a ∧ okS m b
  | .sm a b => okS m a ∧ okS m b
abbrev at_ (w : List Bool) (p : Nat) : Bool := w.getD p false
def tr (w : List Bool) : Sy → Bool
  | .kn p => at_ w p
  | .li p => !at_ w p
  | .ct n ps => (ps.filter (at_ w)).length == n
  | .nt a => !tr w a
  | .an a b => tr w a && tr w b
  | .og a b => tr w a || tr w b
  | .sm a b => tr w a == tr w b
def wD (w : List Bool) : D := .tup (w.map .bl)
theorem dp_pos (s : Sy) : 1 ≤ dp s := by cases s <;> simp [dp]
theorem w_ok (s : Sy) : PyData.strOk s.w = true := by cases s <;> (simp only [Sy.w]; decide +kernel)
theorem eqS_str {S : Store} {x y : Str} (hx : PyData.strOk x = true) (hy : PyData.strOk y = true) : eqS S (.str x) (.str y) = some (x == y) := by
  unfold eqS
  rw [flat_id rfl, flat_id rfl]
  have o1 : okD okN (.str x) = true := hx
  have o2 : okD okN (.str y) = true := hy
  simp only [Option.bind_some, o1, o2, Bool.and_true, if_true]
  rfl
theorem cmp_str {S : Store} {x y : Str} (hx : PyData.strOk x = true) (hy : PyData.strOk y = true) : cmpD S .Eq (.str x) (.str y) = some (x == y) := eqS_str hx hy
theorem in_kl {S : Store} {x : Str} (hx : PyData.strOk x = true) : cmpD S .In (.str x) (.tup [.str wKn, .str wLi]) = some (wKn == x || wLi == x) := by
  show cmpD.inD S (.str x) (.tup [.str wKn, .str wLi]) = _
  unfold cmpD.inD
  show ((flat S (.str x)).bind _) = _
  rw [flat_id rfl, flat_id rfl]
  have o1 : okD okN (.str x) = true := hx
  have o2 : okD okN (.tup [.str wKn, .str wLi]) = true := by decide +kernel
  simp only [Option.bind_some, o1, o2, Bool.and_true, if_true]
  show some (([D.str wKn, .str wLi]).any fun z => eqD z (.str x)) = _
  simp only [List.any_cons, List.any_nil, Bool.or_false]
  rfl
theorem at_get {S : Store} {w : List Bool} {p : Nat} (h : p < w.length) : subD S (wD w) (.int (p : Int)) = some (.bl (at_ w p)) := by
  show L2.atI (w.map D.bl) (p : Int) = _
  rw [atI_get (by simpa using h)]
  simp [at_, List.getD_eq_getElem?_getD, h]
theorem pm2' (a b : D) : permL [a, b] [0, 1] = some [a, b] := rfl
/-- the word at slot 2, compared -/
theorem t_eq {C : Cf} {fr : Fr} {S : Store} {x y : Str} {k : Bool} (h : getFr fr 2 = some (.str x)) (hx : PyData.strOk x = true) (hy : PyData.strOk y = true) (hk : (x == y) = k) : tst C (.cmp .Eq (.nm 2) (.cst (.str y))) fr S = some (.ok k S) := tst_cmp (ev_nm h) ev_cst (hk ▸ cmp_str hx hy)
theorem e_eq {C : Cf} {fr : Fr} {S : Store} {x y : Str} {k : Bool} (h : getFr fr 2 = some (.str x)) (hx : PyData.strOk x = true) (hy : PyData.strOk y = true) (hk : (x == y) = k) : ev C (.cmp .Eq (.nm 2) (.cst (.str y))) fr S = some (.ok (.bl k) S) := ev_cmp (ev_nm h) ev_cst (hk ▸ cmp_str hx hy)
theorem t_in {C : Cf} {fr : Fr} {S : Store} {x : Str} {k : Bool} (h : getFr fr 2 = some (.str x)) (hx : PyData.strOk x = true) (hk : (wKn == x || wLi == x) = k) : tst C (.cmp .In (.nm 2) (.tup [(.cst (.str ("knight" : Str))), (.cst (.str ("liar" : Str)))])) fr S = some (.ok k S) :=
  tst_cmp (ev_nm h) (ev_tup (evs_cons ev_cst (evs_cons ev_cst evs_nil))) (hk ▸ in_kl hx)
theorem ok_w : PyData.strOk wKn = true ∧ PyData.strOk wCt = true ∧ PyData.strOk wNt = true ∧ PyData.strOk wSm = true ∧ PyData.strOk wAn = true := by decide +kernel
/-- people counted -/
def inW (w : List Bool) : D → Option D
  | .int v => if at_ w v.toNat then some (.int v) else none
  | _ => none
theorem fm_inW (w : List Bool) : ∀ ps : List Nat, (iN ps).filterMap (inW w) = iN (ps.filter (at_ w))
  | [] => rfl
  | p :: ps => by
    show ((D.int (p : Int)) :: iN ps).filterMap _ = _
    rw [List.filterMap_cons, fm_inW w ps, List.filter_cons]
    simp only [inW, Int.toNat_natCast]
    by_cases hc : at_ w p = true
    · simp only [hc, if_true]; rfl
    · simp only [hc, if_false]; rfl
abbrev ctE : Ex := .cmp .Eq (.blt .len false [(.lc false (.nm 5) [5] (.val (.sub (.nm 1) (.cst (.int 2)))) [(.v (.sub (.nm 0) (.nm 5)))] (.nm 5))]) (.sub (.nm 1) (.cst (.int 1)))
theorem ct_ev {C : Cf} {x2 x3 x4 x5 : Option D} {S : Store} {w : List Bool} {n : Nat} {ps : List Nat} (hl : ps.length ≤ 8) (hp : ∀ p ∈ ps, p < w.length) : ev C ctE [some (wD w), some (sD (.ct n ps)), x2, x3, x4, x5] S = some (.ok (.bl (tr w (.ct n ps))) S) := by
  have e0 : ev C (.lc false (.nm 5) [5] (.val (.sub (.nm 1) (.cst (.int 2)))) [(.v (.sub (.nm 0) (.nm 5)))] (.nm 5)) [some (wD w), some (sD (.ct n ps)), x2, x3, x4, x5] S = some (.ok (.lst (iN (ps.filter (at_ w)))) S) := by
    rw [ev_lc (inW w) (evIt_val (ev_sub (z := .tup (iN ps)) (ev_nm rfl) ev_cst rfl) rfl) (by rw [iN_len]; omega) fun d hd => ?_, fm_inW]
    · rfl
    · obtain ⟨p, hpm, rfl⟩ := List.mem_map.mp hd
      have hpl := hp p hpm
      refine ⟨[some (wD w), some (sD (.ct n ps)), x2, x3, x4, some (.int (p : Int))], rfl, ?_⟩
      have t : tsts C [.v (.sub (.nm 0) (.nm 5))] [some (wD w), some (sD (.ct n ps)), x2, x3, x4, some (.int (p : Int))] S = some (.ok (at_ w p) S) := tsts_1 (tst_vb (ev_sub (ev_nm rfl) (ev_nm rfl) (at_get hpl)))
      cases hc : at_ w p with
      | true => exact .inr ⟨hc ▸ t, _, ev_nm rfl, by simp only [inW, Int.toNat_natCast, hc, if_true]⟩
      | false => exact .inl ⟨hc ▸ t, by simp only [inW, Int.toNat_natCast, hc]; rfl⟩
  refine ev_cmp (ev_blt (z := .int (((ps.filter (at_ w)).length : Nat) : Int)) (evs_cons e0 evs_nil) ?_) (ev_sub (z := .int (n : Int)) (ev_nm rfl) ev_cst rfl) cmp_eqN
  simp [btD, lenD, seqOf, iN_len]
theorem cmp_bl {S : Store} {a b : Bool} : cmpD S .Eq (.bl a) (.bl b) = some (a == b) := rfl
theorem fd26 : P.fd 26 = some ⟨2, 6, b26⟩ := rfl
theorem lt_call (w : List Bool) : ∀ (s : Sy) (k : Nat) (S : Store), okS w.length s → dp s ≤ k → gcOut S.length false (callR P k 26 [wD w, sD s] S) = some (.ok (.bl (tr w s)) S) := by
  have o := ok_w
  have start : ∀ (s : Sy) (k : Nat) (S : Store), 1 ≤ k → Vm.execs (cg (k - 1) S.length) (b26.drop 1) [some (wD w), some (sD s), some (.str s.w), none, none, none] S = some (.ok (.ret (.bl (tr w s))) S) → gcOut S.length false (callR P k 26 [wD w, sD s] S) = some (.ok (.bl (tr w s)) S) := fun s k S hk h => by
    obtain ⟨j, rfl⟩ : ∃ j, k = j + 1 := ⟨k - 1, by omega⟩
    refine pc_def fd26 rfl ?_ rfl
    have e0 : Vm.exec (cg j S.length) (.asg (.nm 2) (.sub (.nm 1) (.cst (.int 0)))) [some (wD w), some (sD s), none, none, none, none] S = some (.ok (.nx [some (wD w), some (sD s), some (.str s.w), none, none, none]) S) := by
      refine exec_asg (d := .str s.w) (ev_sub (ev_nm rfl) ev_cst ?_) rfl
      cases s <;> rfl
    exact (execs_nx e0).trans h
  intro s
  induction s with
  | kn p =>
    intro k S ho hk
    refine start _ k S hk (execs_rt ((exec_ifT (t_in rfl (w_ok (.kn p)) (by simp only [Sy.w]; decide +kernel))).trans (execs_rt (exec_ret ?_))))
    refine ev_cmp (ev_sub (ev_nm rfl) (ev_sub (z := .int (p : Int)) (ev_nm rfl) ev_cst rfl) (at_get ho)) (e_eq (k := true) rfl (w_ok (.kn p)) o.1 (by simp only [Sy.w]; decide +kernel)) ?_
    rw [cmp_bl]; simp [tr]
  | li p =>
    intro k S ho hk
    refine start _ k S hk (execs_rt ((exec_ifT (t_in rfl (w_ok (.li p)) (by simp only [Sy.w]; decide +kernel))).trans (execs_rt (exec_ret ?_))))
    refine ev_cmp (ev_sub (ev_nm rfl) (ev_sub (z := .int (p : Int)) (ev_nm rfl) ev_cst rfl) (at_get ho)) (e_eq (k := false) rfl (w_ok (.li p)) o.1 (by simp only [Sy.w]; decide +kernel)) ?_
    rw [cmp_bl]; simp [tr]
  | ct n ps =>
    intro k S ho hk
    exact start _ k S hk ((execs_nx ((exec_ifF (t_in rfl (w_ok (.ct n ps)) (by simp only [Sy.w]; decide +kernel))).trans execs_nil)).trans (execs_rt ((exec_ifT (t_eq rfl (w_ok (.ct n ps)) o.2.1 (by simp only [Sy.w]; decide +kernel))).trans (execs_rt (exec_ret (ct_ev ho.2.1 ho.2.2.1))))))
  | nt a ih =>
    intro k S ho hk
    have hk' : dp a + 1 ≤ k := hk
    refine start _ k S (by omega) ((execs_nx ((exec_ifF (t_in rfl (w_ok (.nt a)) (by simp only [Sy.w]; decide +kernel))).trans execs_nil)).trans ((execs_nx ((exec_ifF (t_eq rfl (w_ok (.nt a)) o.2.1 (by simp only [Sy.w]; decide +kernel))).trans execs_nil)).trans (execs_rt ((exec_ifT (t_eq rfl (w_ok (.nt a)) o.2.2.1 (by simp only [Sy.w]; decide +kernel))).trans (execs_rt (exec_ret ?_))))))
    refine ev_notE (tst_vb (ev_c2 (x := wD w) (y := sD a) (S1 := S) (S2 := S) (ev_nm rfl) (ev_sub (ev_nm rfl) ev_cst rfl) ?_))
    rw [cg_call]; exact ih (k - 1) S ho (by omega)
  | an a b iha ihb =>
    intro k S ho hk
    have hk' : max (dp a) (dp b) + 1 ≤ k := hk
    have e : ev (cg (k - 1) S.length).toCf (.tup [(.call 26 false [(.nm 0), (.sub (.nm 1) (.cst (.int 1)))] [0, 1]), (.call 26 false [(.nm 0), (.sub (.nm 1) (.cst (.int 2)))] [0, 1])]) [some (wD w), some (sD (.an a b)), some (.str wAn), none, none, none] S = some (.ok (.tup [.bl (tr w a), .bl (tr w b)]) S) := by
      refine ev_tup (evs_cons (ev_c2 (x := wD w) (y := sD a) (S1 := S) (S2 := S) (ev_nm rfl) (ev_sub (ev_nm rfl) ev_cst rfl) ?_) (evs_cons (ev_c2 (x := wD w) (y := sD b) (S1 := S) (S2 := S) (ev_nm rfl) (ev_sub (ev_nm rfl) ev_cst rfl) ?_) evs_nil))
      · rw [cg_call]; exact iha (k - 1) S ho.1 (by omega)
      · rw [cg_call]; exact ihb (k - 1) S ho.2 (by omega)
    refine start _ k S (by omega) ((execs_nx ((exec_ifF (t_in rfl (w_ok (.an a b)) (by simp only [Sy.w]; decide +kernel))).trans execs_nil)).trans ((execs_nx ((exec_ifF (t_eq rfl (w_ok (.an a b)) o.2.1 (by simp only [Sy.w]; decide +kernel))).trans execs_nil)).trans ((execs_nx ((exec_ifF (t_eq rfl (w_ok (.an a b)) o.2.2.1 (by simp only [Sy.w]; decide +kernel))).trans execs_nil)).trans
      ((execs_nx (exec_asg (fr' := [some (wD w), some (sD (.an a b)), some (.str wAn), some (.bl (tr w a)), some (.bl (tr w b)), none]) e rfl)).trans ((execs_nx ((exec_ifF (t_eq rfl (w_ok (.an a b)) o.2.2.2.1 (by simp only [Sy.w]; decide +kernel))).trans execs_nil)).trans (execs_rt (exec_ret ?_)))))))
    rw [ev_iteT (t_eq rfl (w_ok (.an a b)) o.2.2.2.2 (by simp only [Sy.w]; decide +kernel))]
    exact ev_and (ev_nm rfl) fun _ => ev_nm rfl
  | og a b iha ihb =>
    intro k S ho hk
    have hk' : max (dp a) (dp b) + 1 ≤ k := hk
    have e : ev (cg (k - 1) S.length).toCf (.tup [(.call 26 false [(.nm 0), (.sub (.nm 1) (.cst (.int 1)))] [0, 1]), (.call 26 false [(.nm 0), (.sub (.nm 1) (.cst (.int 2)))] [0, 1])]) [some (wD w), some (sD (.og a b)), some (.str wOr), none, none, none] S = some (.ok (.tup [.bl (tr w a), .bl (tr w b)]) S) := by
      refine ev_tup (evs_cons (ev_c2 (x := wD w) (y := sD a) (S1 := S) (S2 := S) (ev_nm rfl) (ev_sub (ev_nm rfl) ev_cst rfl) ?_) (evs_cons (ev_c2 (x := wD w) (y := sD b) (S1 := S) (S2 := S) (ev_nm rfl) (ev_sub (ev_nm rfl) ev_cst rfl) ?_) evs_nil))
      · rw [cg_call]; exact iha (k - 1) S ho.1 (by omega)
      · rw [cg_call]; exact ihb (k - 1) S ho.2 (by omega)
    refine start _ k S (by omega) ((execs_nx ((exec_ifF (t_in rfl (w_ok (.og a b)) (by simp only [Sy.w]; decide +kernel))).trans execs_nil)).trans ((execs_nx ((exec_ifF (t_eq rfl (w_ok (.og a b)) o.2.1 (by simp only [Sy.w]; decide +kernel))).trans execs_nil)).trans ((execs_nx ((exec_ifF (t_eq rfl (w_ok (.og a b)) o.2.2.1 (by simp only [Sy.w]; decide +kernel))).trans execs_nil)).trans
      ((execs_nx (exec_asg (fr' := [some (wD w), some (sD (.og a b)), some (.str wOr), some (.bl (tr w a)), some (.bl (tr w b)), none]) e rfl)).trans ((execs_nx ((exec_ifF (t_eq rfl (w_ok (.og a b)) o.2.2.2.1 (by simp only [Sy.w]; decide +kernel))).trans execs_nil)).trans (execs_rt (exec_ret ?_)))))))
    rw [ev_iteF (t_eq rfl (w_ok (.og a b)) o.2.2.2.2 (by simp only [Sy.w]; decide +kernel))]
    have e3 : ev (cg (k - 1) S.length).toCf (.nm 3) [some (wD w), some (sD (.og a b)), some (.str wOr), some (.bl (tr w a)), some (.bl (tr w b)), none] S = some (.ok (.bl (tr w a)) S) := ev_nm rfl
    simp only [tr]
    cases ha : tr w a with
    | true => rw [ha] at e3; rw [ev_disjT (evDisj_T e3)]; rfl
    | false => rw [ha] at e3; rw [ev_disjF ((evDisj_F e3).trans evDisj_nil)]; exact ev_nm rfl
  | sm a b iha ihb =>
    intro k S ho hk
    have hk' : max (dp a) (dp b) + 1 ≤ k := hk
    have e : ev (cg (k - 1) S.length).toCf (.tup [(.call 26 false [(.nm 0), (.sub (.nm 1) (.cst (.int 1)))] [0, 1]), (.call 26 false [(.nm 0), (.sub (.nm 1) (.cst (.int 2)))] [0, 1])]) [some (wD w), some (sD (.sm a b)), some (.str wSm), none, none, none] S = some (.ok (.tup [.bl (tr w a), .bl (tr w b)]) S) := by
      refine ev_tup (evs_cons (ev_c2 (x := wD w) (y := sD a) (S1 := S) (S2 := S) (ev_nm rfl) (ev_sub (ev_nm rfl) ev_cst rfl) ?_) (evs_cons (ev_c2 (x := wD w) (y := sD b) (S1 := S) (S2 := S) (ev_nm rfl) (ev_sub (ev_nm rfl) ev_cst rfl) ?_) evs_nil))
      · rw [cg_call]; exact iha (k - 1) S ho.1 (by omega)
      · rw [cg_call]; exact ihb (k - 1) S ho.2 (by omega)
    exact start _ k S (by omega) ((execs_nx ((exec_ifF (t_in rfl (w_ok (.sm a b)) (by simp only [Sy.w]; decide +kernel))).trans execs_nil)).trans ((execs_nx ((exec_ifF (t_eq rfl (w_ok (.sm a b)) o.2.1 (by simp only [Sy.w]; decide +kernel))).trans execs_nil)).trans ((execs_nx ((exec_ifF (t_eq rfl (w_ok (.sm a b)) o.2.2.1 (by simp only [Sy.w]; decide +kernel))).trans execs_nil)).trans
      ((execs_nx (exec_asg (fr' := [some (wD w), some (sD (.sm a b)), some (.str wSm), some (.bl (tr w a)), some (.bl (tr w b)), none]) e rfl)).trans (execs_rt ((exec_ifT (t_eq rfl (w_ok (.sm a b)) o.2.2.2.1 (by simp only [Sy.w]; decide +kernel))).trans (execs_rt (exec_ret (ev_cmp (ev_nm rfl) (ev_nm rfl) cmp_bl)))))))))
end K55

/-! k55: what is a head -/
namespace K55
open PySem Vm
theorem sd_len {n : Nat} {d : D} {ds : List D} (h : sd (n + 1) d = true) (hd : d = .tup ds ∨ d = .lst ds) : ds.length ≤ 1000 ∧ ∀ y ∈ ds, sd n y = true := by
  rcases hd with rfl | rfl <;> simpa only [sd, Bool.and_eq_true, decide_eq_true_eq, List.all_eq_true] using h
theorem pls_all : ∀ ds : List D, pls ds = ds.all pl
  | [] => rfl
  | d :: ds => by rw [pls, List.all_cons, pls_all ds]
theorem sd_pl : ∀ (n : Nat) (d : D), sd n d = true → pl d = true := by
  intro n
  induction n with
  | zero => intro d h; cases d <;> first | rfl | simp [sd] at h
  | succ n ih =>
    intro d h
    cases d with
    | tup ds => rw [pl, pls_all, List.all_eq_true]; exact fun y hy => ih y ((sd_len h (.inl rfl)).2 y hy)
    | lst ds => rw [pl, pls_all, List.all_eq_true]; exact fun y hy => ih y ((sd_len h (.inr rfl)).2 y hy)
    | dct ks vs => simp [sd] at h
    | ref _ => simp [sd] at h
    | scr _ => simp [sd] at h
    | fn _ => simp [sd] at h
    | _ => rfl
theorem sd_vl {n : Nat} {d : D} {S : Store} (h : sd n d = true) : Vl S d := .inl (sd_pl n d h)
theorem sd_refs {n m : Nat} {d : D} (h : sd n d = true) : refsLt m d = true := pl_refs m d (sd_pl n d h)
theorem sd_strOk {n : Nat} {x : Str} (h : sd n (.str x) = true) : PyData.strOk x = true := by
  have h' : (decide (x.length ≤ 1000) && x.cps.toList.all fun c => PyData.strOk ⟨#[c]⟩) = true := by cases n <;> simpa only [sd] using h
  rw [Bool.and_eq_true, List.all_eq_true] at h'
  unfold PyData.strOk
  rw [Array.all_eq_true]
  intro i hi
  have := h'.2 x.cps[i] (by simp)
  unfold PyData.strOk at this
  simpa using this
theorem sd_ok : ∀ (n : Nat) (d : D), sd n d = true → okD n d = true := by
  intro n
  induction n with
  | zero => intro d h; cases d <;> first | rfl | exact sd_strOk h | simp [sd] at h
  | succ n ih =>
    intro d h
    cases d with
    | tup ds => rw [okD, List.all_eq_true]; exact fun y hy => ih y ((sd_len h (.inl rfl)).2 y hy)
    | lst ds => rw [okD, List.all_eq_true]; exact fun y hy => ih y ((sd_len h (.inr rfl)).2 y hy)
    | str x => exact sd_strOk h
    | dct ks vs => simp [sd] at h
    | ref _ => simp [sd] at h
    | scr _ => simp [sd] at h
    | fn _ => simp [sd] at h
    | _ => rfl
theorem sd_mono : ∀ (n : Nat) (d : D), sd n d = true → sd (n + 1) d = true := by
  intro n
  induction n with
  | zero => intro d h; cases d <;> first | rfl | exact h | simp [sd] at h
  | succ n ih =>
    intro d h
    cases d with
    | tup ds =>
      have hh := sd_len h (.inl rfl)
      rw [sd, Bool.and_eq_true, decide_eq_true_eq, List.all_eq_true]
      exact ⟨hh.1, fun y hy => ih y (hh.2 y hy)⟩
    | lst ds =>
      have hh := sd_len h (.inr rfl)
      rw [sd, Bool.and_eq_true, decide_eq_true_eq, List.all_eq_true]
      exact ⟨hh.1, fun y hy => ih y (hh.2 y hy)⟩
    | str x => exact h
    | dct ks vs => simp [sd] at h
    | ref _ => simp [sd] at h
    | scr _ => simp [sd] at h
    | fn _ => simp [sd] at h
    | _ => rfl
theorem sd_up {n m : Nat} {d : D} (h : sd n d = true) (hl : n ≤ m) : sd m d = true := by
  obtain ⟨j, rfl⟩ := Nat.exists_eq_add_of_le hl
  clear hl
  induction j with
  | zero => exact h
  | succ j ih => exact sd_mono _ _ ih
theorem okD_up {n m : Nat} {d : D} (h : okD n d = true) (hl : n ≤ m) : okD m d = true := by
  obtain ⟨j, rfl⟩ := Nat.exists_eq_add_of_le hl
  clear hl
  induction j with
  | zero => exact h
  | succ j ih => exact okD_le ih
theorem sd_okN {n : Nat} {d : D} (h : sd n d = true) (hl : n ≤ 20) : okD okN d = true := okD_up (sd_ok n d h) hl
theorem s_sd (n : Nat) {s : Str} (h : sd 0 (.str s) = true) : sd n (.str s) = true := by cases n <;> exact h
theorem eqS_tup0 {S : Store} {n : Nat} {ds : List D} (h : sd n (.tup ds) = true) (hl : n ≤ 20) : cmpD S .Eq (.tup ds) (.tup []) = some ds.isEmpty := by
  show eqS S _ _ = _
  unfold eqS
  rw [flat_id (sd_refs h), flat_id rfl]
  have o1 : okD okN (.tup ds) = true := sd_okN h hl
  have o2 : okD okN (.tup []) = true := rfl
  simp only [Option.bind_some, o1, o2, Bool.and_true, if_true]
  cases ds <;> rfl
theorem eqS_lst0 {S : Store} {ds : List D} (h : refsLts 0 ds = true) (ho : ds.all (okD 19) = true) : eqS S (.lst ds) (.lst []) = some ds.isEmpty := by
  unfold eqS
  rw [flat_id (by simpa [refsLt] using h), flat_id rfl]
  have o1 : okD okN (.lst ds) = true := ho
  have o2 : okD okN (.lst []) = true := rfl
  simp only [Option.bind_some, o1, o2, Bool.and_true, if_true]
  cases ds <;> rfl
/-! ### 7 -/
abbrev wP : Str := ("p" : Str)
abbrev wN : Str := ("n" : Str)
abbrev wS : Str := ("s" : Str)
theorem ok_p : PyData.strOk wP = true ∧ PyData.strOk wN = true ∧ PyData.strOk wS = true := by decide +kernel
theorem t_eqi {C : Cf} {fr : Fr} {S : Store} {i : Nat} {x y : Str} (h : getFr fr i = some (.str x)) (hx : PyData.strOk x = true) (hy : PyData.strOk y = true) : tst C (.cmp .Eq (.nm i) (.cst (.str y))) fr S = some (.ok (x == y) S) := tst_cmp (ev_nm h) ev_cst (cmp_str hx hy)
theorem e_eqi {C : Cf} {fr : Fr} {S : Store} {i : Nat} {x y : Str} (h : getFr fr i = some (.str x)) (hx : PyData.strOk x = true) (hy : PyData.strOk y = true) : ev C (.cmp .Eq (.nm i) (.cst (.str y))) fr S = some (.ok (.bl (x == y)) S) := ev_cmp (ev_nm h) ev_cst (cmp_str hx hy)
def partB (m : Nat) (kd : Str) (x : D) : Bool := if kd == wP then isIn 0 ((m : Int) - 1) x else if kd == wN then isIn 0 8 x else (kd == wS || setB (m : Int) x)
theorem fd7 : P.fd 7 = some ⟨3, 3, b7⟩ := rfl
theorem ty_of {n : Nat} {x : D} (S : Store) (h : sd n x = true) : ∃ t, tyName S x = some t := (sd_vl h).ty
theorem subI {S : Store} {a b : Int} : binD S .Sub (.int a) (.int b) = some (.v (.int (a - b))) := rfl
theorem part_call (k n m : Nat) (kd : Str) (x : D) (S : Store) (hk : PyData.strOk kd = true) (hx : sd n x = true) : gcOut S.length false (callR P (k + 5) 7 [.int (m : Int), .str kd, x] S) = some (.ok (.bl (partB m kd x)) S) := by
  obtain ⟨t, ht⟩ := ty_of S hx
  refine pc_def fd7 rfl ?_ rfl
  let fr : Fr := [some (.int (m : Int)), some (.str kd), some x]
  show Vm.execs (cg (k + 4) S.length) b7 fr S = _
  have t1 := t_eqi (C := (cg (k + 4) S.length).toCf) (fr := fr) (S := S) (i := 1) rfl hk ok_p.1
  have t2 := t_eqi (C := (cg (k + 4) S.length).toCf) (fr := fr) (S := S) (i := 1) rfl hk ok_p.2.1
  rw [b7]
  unfold partB
  by_cases h1 : (kd == wP) = true
  · rw [h1] at t1
    rw [if_pos h1]
    refine execs_rt ((exec_ifT t1).trans (execs_rt (exec_ret (ev_c3 (x := x) (y := .int 0) (z := .int ((m : Int) - 1)) (S1 := S) (S2 := S) (S3 := S) (ev_nm rfl) ev_cst (ev_bin (ev_nm rfl) ev_cst subI) ?_))))
    rw [cg_call]; exact betw_call (k + 2) 0 _ ht
  · have h1' : (kd == wP) = false := by simpa using h1
    rw [h1'] at t1
    rw [if_neg h1]
    by_cases h2 : (kd == wN) = true
    · rw [h2] at t2
      rw [if_pos h2]
      refine (execs_nx ((exec_ifF t1).trans execs_nil)).trans (execs_rt ((exec_ifT t2).trans (execs_rt (exec_ret (ev_c3 (x := x) (y := .int 0) (z := .int 8) (S1 := S) (S2 := S) (S3 := S) (ev_nm rfl) ev_cst (glb_ev rfl rfl rfl) ?_)))))
      rw [cg_call]; exact betw_call (k + 2) 0 _ ht
    · have h2' : (kd == wN) = false := by simpa using h2
      rw [h2'] at t2
      rw [if_neg h2]
      refine (execs_nx ((exec_ifF t1).trans execs_nil)).trans ((execs_nx ((exec_ifF t2).trans execs_nil)).trans (execs_rt (exec_ret ?_)))
      have e3 := e_eqi (C := (cg (k + 4) S.length).toCf) (fr := fr) (S := S) (i := 1) rfl hk ok_p.2.2
      cases h3 : (kd == wS) with
      | true => rw [h3] at e3; rw [ev_disjT (evDisj_T e3)]; rfl
      | false =>
        rw [h3] at e3
        rw [ev_disjF ((evDisj_F e3).trans evDisj_nil)]
        refine ev_c2 (x := x) (y := .int (m : Int)) (S1 := S) (S2 := S) (ev_nm rfl) (ev_nm rfl) ?_
        rw [cg_call]
        refine set_call k (m : Int) (sd_vl hx) fun ds hd => ?_
        subst hd
        cases n with
        | zero => simp [sd] at hx
        | succ n => exact (sd_len hx (.inl rfl)).1
/-! ### the words -/
abbrev wordsK : List D := [.str wKn, .str wLi, .str wCt, .str wNt, .str wAn, .str wOr, .str wSm]
abbrev wordsV : List D := [.str ("p" : Str), .str ("p" : Str), .str ("ng" : Str), .str ("s" : Str), .str ("ss" : Str), .str ("ss" : Str), .str ("ss" : Str)]
theorem glb_words : P.glb ("WORDS" : Str) = some (.dct wordsK wordsV) := rfl
def wk (z : Str) : Option Str := if wKn == z then some ("p" : Str) else if wLi == z then some ("p" : Str) else if wCt == z then some ("ng" : Str) else if wNt == z then some ("s" : Str) else if wAn == z then some ("ss" : Str) else if wOr == z then some ("ss" : Str) else if wSm == z then some ("ss" : Str) else none
theorem wk_get (z : Str) : gdGet wordsK wordsV (.str z) = (wk z).map D.str := by
  unfold wk
  simp only [gdGet, dgetL, same, apply_ite (Option.map D.str), Option.map_some, Option.map_none]
  rfl
theorem wk_has (z : Str) : gdHas wordsK (.str z) = some (wk z).isSome := by
  unfold wk
  simp only [gdHas, List.any_cons, List.any_nil, same]
  repeat' split
  all_goals simp_all
theorem wk_ok {z ks : Str} (h : wk z = some ks) : ks.length ≤ 2 ∧ ks.cps.toList.length = ks.length ∧ ks.cps.toList.all (fun c => PyData.strOk ⟨#[c]⟩) = true := by
  unfold wk at h
  repeat' split at h
  all_goals first | (cases h; done) | skip
  all_goals (cases h; decide +kernel)
/-- a text's signs -/
def chD (z : Str) : List D := z.cps.toList.map fun c => .str ⟨#[c]⟩
theorem evIt_zipS {C : Cf} {fr : Fr} {S S1 S2 : Store} {a b : Ex} {z : Str} {ys : List D} (ha : ev C a fr S = some (.ok (.str z) S1)) (hb : ev C b fr S1 = some (.ok (.tup ys) S2)) : evIt C (.zip a b) fr S = some (.ok ⟨zipL (chD z) ys, none⟩ S2) := by
  rw [evIt]; show bnd (ev C a fr S) _ = _; rw [ha, bnd_ok]; show bnd (ev C b fr S1) _ = _; rw [hb, bnd_ok]; rfl
theorem ev_gsub {C : Cf} {fr : Fr} {S S1 : Store} {i : Ex} {z ks : Str} (hg : C.glb = P.glb) (h : ev C i fr S = some (.ok (.str z) S1)) (hk : wk z = some ks) : ev C (.gsub ("WORDS" : Str) i) fr S = some (.ok (.str ks) S1) := by
  rw [(gd_run (C := C) (cb := i) (ca := i) (x := ("WORDS" : Str)) (ks := wordsK) (vs := wordsV) (by rw [hg]; exact glb_words)).1]
  show bnd (ev C i fr S) _ = _
  rw [h, bnd_ok, wk_get, hk]
  rfl
theorem ev_gin {C : Cf} {fr : Fr} {S S1 : Store} {i : Ex} {z : Str} (hg : C.glb = P.glb) (h : ev C i fr S = some (.ok (.str z) S1)) : ev C (.gin true ("WORDS" : Str) i) fr S = some (.ok (.bl (!(wk z).isSome)) S1) := by
  rw [(gd_run (C := C) (cb := i) (ca := i) (x := ("WORDS" : Str)) (ks := wordsK) (vs := wordsV) (by rw [hg]; exact glb_words)).2 true]
  show bnd (ev C i fr S) _ = _
  rw [h, bnd_ok, wk_has]
  rfl
def pB (m : Nat) : D → Bool
  | .tup [.str kd, x] => partB m kd x
  | _ => false
def headB (m : Nat) : D → Bool
  | .tup (.str z :: r) => match wk z with
    | some ks => lenTup (1 + ((ks.length : Nat) : Int)) (.tup (.str z :: r)) && (zipL (chD ks) r).all (pB m)
    | none => false
  | _ => false
theorem fd8 : P.fd 8 = some ⟨2, 5, b8⟩ := rfl
abbrev hT : Te := .disj [(.neg (.v (.isi (.nm 1) [.tuple]))), (.cmp .Eq (.nm 1) (.tup [])), (.neg (.v (.isi (.sub (.nm 1) (.cst (.int 0))) [.str]))), (.v (.gin true ("WORDS" : Str) (.sub (.nm 1) (.cst (.int 0)))))]
theorem isi_tup {C : Cf} {fr : Fr} {S : Store} {i : Nat} {x : D} {t : String} (hi : getFr fr i = some x) (ht : tyName S x = some t) : ev C (.isi (.nm i) [.tuple]) fr S = some (.ok (.bl (isTup x)) S) := by
  refine ev_isi (ev_nm hi) ?_
  rw [← ty_tup ht]
  simp [isiD, ht, isK, Kd.name]
theorem head_no (k n m : Nat) (x : D) (S : Store) (h : tst (cg (k + 5) S.length).toCf hT [some (.int (m : Int)), some x, none, none, none] S = some (.ok true S)) : gcOut S.length false (callR P (k + 6) 8 [.int (m : Int), x] S) = some (.ok (.bl false) S) := by
  refine pc_def fd8 rfl ?_ rfl
  show Vm.execs (cg (k + 5) S.length) b8 [some (.int (m : Int)), some x, none, none, none] S = _
  rw [b8]
  exact execs_rt ((exec_ifT h).trans (execs_rt (exec_ret ev_cst)))
theorem head_call (k n m : Nat) (x : D) (S : Store) (hx : sd n x = true) (hn : n ≤ 19) : gcOut S.length false (callR P (k + 6) 8 [.int (m : Int), x] S) = some (.ok (.bl (headB m x)) S) := by
  obtain ⟨t, ht⟩ := ty_of S hx
  let fr : Fr := [some (.int (m : Int)), some x, none, none, none]
  have e1 : ev (cg (k + 5) S.length).toCf (.isi (.nm 1) [.tuple]) fr S = some (.ok (.bl (isTup x)) S) := isi_tup rfl ht
  by_cases hi : isTup x = true
  rotate_left
  · have hi' : isTup x = false := by simpa using hi
    rw [hi'] at e1
    have := head_no k n m x S (tst_disj.trans (tsDisj_T (tst_neg (tst_vb e1))))
    rw [this]
    cases x <;> first | rfl | simp [isTup] at hi'
  obtain ⟨ds, rfl⟩ : ∃ v, x = .tup v := by cases x <;> first | exact ⟨_, rfl⟩ | simp [isTup] at hi
  rw [hi] at e1
  obtain ⟨n, rfl⟩ : ∃ j, n = j + 1 := by cases n with
    | zero => simp [sd] at hx
    | succ n => exact ⟨n, rfl⟩
  obtain ⟨hl, hm⟩ := sd_len hx (.inl rfl)
  have t1 := tst_neg (tst_vb e1)
  have t2 : tst (cg (k + 5) S.length).toCf (.cmp .Eq (.nm 1) (.tup [])) fr S = some (.ok ds.isEmpty S) := tst_cmp (ev_nm rfl) (ev_tup evs_nil) (eqS_tup0 hx (by omega))
  cases ds with
  | nil => exact head_no k n m _ S (tst_disj.trans ((tsDisj_F t1).trans (tsDisj_T t2)))
  | cons d r =>
    have e0 : ev (cg (k + 5) S.length).toCf (.sub (.nm 1) (.cst (.int 0))) fr S = some (.ok d S) := ev_sub (ev_nm rfl) ev_cst (by show L2.atI (d :: r) ((0 : Nat) : Int) = _; rw [atI_get (by simp)]; rfl)
    have hd := hm d List.mem_cons_self
    by_cases hs : ∃ z, d = .str z
    rotate_left
    · have e3 : ev (cg (k + 5) S.length).toCf (.isi (.sub (.nm 1) (.cst (.int 0))) [.str]) fr S = some (.ok (.bl false) S) := by
        refine ev_isi e0 ?_
        cases d <;> first | exact absurd ⟨_, rfl⟩ hs | rfl | skip
        · cases n <;> simp [sd] at hd
        · cases n <;> simp [sd] at hd
      have := head_no k n m (.tup (d :: r)) S (tst_disj.trans ((tsDisj_F t1).trans ((tsDisj_F t2).trans (tsDisj_T (tst_neg (tst_vb e3))))))
      rw [this]
      cases d <;> first | exact absurd ⟨_, rfl⟩ hs | rfl
    obtain ⟨z, rfl⟩ := hs
    have e3 : ev (cg (k + 5) S.length).toCf (.isi (.sub (.nm 1) (.cst (.int 0))) [.str]) fr S = some (.ok (.bl true) S) := ev_isi e0 rfl
    have e4 := ev_gin (C := (cg (k + 5) S.length).toCf) rfl e0
    cases hw : wk z with
    | none =>
      rw [hw] at e4
      have := head_no k n m (.tup (.str z :: r)) S (tst_disj.trans ((tsDisj_F t1).trans ((tsDisj_F t2).trans ((tsDisj_F (tst_neg (tst_vb e3))).trans (tsDisj_T (tst_vb e4))))))
      rw [this]
      simp only [headB, hw]
    | some ks =>
      rw [hw] at e4
      obtain ⟨w1, w2, w3⟩ := wk_ok hw
      have tF : tst (cg (k + 5) S.length).toCf hT fr S = some (.ok false S) := tst_disj.trans ((tsDisj_F t1).trans ((tsDisj_F t2).trans ((tsDisj_F (tst_neg (tst_vb e3))).trans ((tsDisj_F (tst_vb e4)).trans tsDisj_nil))))
      refine pc_def fd8 rfl ?_ rfl
      show Vm.execs (cg (k + 5) S.length) b8 fr S = _
      let fr2 : Fr := [some (.int (m : Int)), some (.tup (.str z :: r)), some (.str ks), none, none]
      have hf : fits ks.length = true := by simp only [fits, decide_eq_true_eq]; omega
      have e5 : ev (cg (k + 5) S.length).toCf (.call 2 false [(.nm 1), (.bin .Add false (.cst (.int 1)) (.blt .len false [(.nm 2)]))] [0, 1]) fr2 S = some (.ok (.bl (lenTup (1 + ((ks.length : Nat) : Int)) (.tup (.str z :: r)))) S) := by
        refine ev_c2 (x := .tup (.str z :: r)) (y := .int (1 + ((ks.length : Nat) : Int))) (S1 := S) (S2 := S) (ev_nm rfl) (ev_bin ev_cst (ev_blt (z := .int ((ks.length : Nat) : Int)) (evs_cons (ev_nm rfl) evs_nil) (by simp [btD, lenD, hf])) rfl) ?_
        rw [cg_call]; exact tupof_call (k + 4) _ ht
      rw [b8]
      refine (execs_nx ((exec_ifF tF).trans execs_nil)).trans ((execs_nx (exec_asg (fr' := fr2) (ev_gsub rfl e0 hw) rfl)).trans ?_)
      simp only [headB, hw]
      cases hlt : lenTup (1 + ((ks.length : Nat) : Int)) (.tup (.str z :: r)) with
      | false =>
        rw [hlt] at e5
        exact execs_rt ((exec_ifT (tst_neg (tst_vb e5))).trans (execs_rt (exec_ret ev_cst)))
      | true =>
        rw [hlt] at e5
        rw [Bool.true_and]
        refine (execs_nx ((exec_ifF (tst_neg (tst_vb e5))).trans execs_nil)).trans (execs_rt (exec_ret (ev_all (pB m) (evIt_zipS (ev_nm rfl) (ev_slc (z := .tup r) (ev_nm rfl) (evO_yes ev_cst) evO_no ?_)) ?_ fun d hd => ?_)))
        · show some (Ou.v (.tup (cutL (.str z :: r) (some 1) none))) = _
          rw [cut_rest]; rfl
        · have := zip_len (chD ks) r
          have hch : (chD ks).length = ks.cps.toList.length := by simp [chD]
          omega
        · obtain ⟨a, b, ha, hb, rfl⟩ := zip_mem hd
          obtain ⟨c, hc, rfl⟩ := List.mem_map.mp ha
          refine ⟨[some (.int (m : Int)), some (.tup (.str z :: r)), some (.str ks), some (.str ⟨#[c]⟩), some b], rfl, ?_⟩
          refine ev_c3 (x := .int (m : Int)) (y := .str ⟨#[c]⟩) (z := b) (S1 := S) (S2 := S) (S3 := S) (ev_nm rfl) (ev_nm rfl) (ev_nm rfl) ?_
          rw [cg_call]
          exact part_call k n m ⟨#[c]⟩ b S (List.all_eq_true.mp w3 c hc) (hm b (List.mem_cons_of_mem _ hb))
end K55

/-! k55: what is a saying -/
namespace K55
open PySem Vm
def sP : D → Option D
  | .tup [.str kd, x] => if kd == wS then some x else none
  | _ => none
def innerL : D → List D
  | .tup (.str z :: r) => match wk z with
    | some ks => (zipL (chD ks) r).filterMap sP
    | none => []
  | _ => []
theorem head_some {m : Nat} {x : D} (h : headB m x = true) : ∃ z r ks, x = .tup (.str z :: r) ∧ wk z = some ks := by
  cases x with
  | tup ds =>
    cases ds with
    | nil => simp [headB] at h
    | cons d r =>
      cases d with
      | str z =>
        cases hw : wk z with
        | none => simp [headB, hw] at h
        | some ks => exact ⟨z, r, ks, rfl, hw⟩
      | _ => simp [headB] at h
  | _ => simp [headB] at h
theorem inner_len (x : D) : (innerL x).length ≤ 2 := by
  unfold innerL
  split
  · split
    · rename_i ks hw
      have h1 := List.length_filterMap_le sP (zipL (chD ks) (by assumption))
      have h2 := zip_len (chD ks) (by assumption)
      obtain ⟨w1, w2, w3⟩ := wk_ok hw
      have h3 : (chD ks).length = ks.cps.toList.length := by simp [chD]
      refine Nat.le_trans (List.length_filterMap_le _ _) (Nat.le_trans (zip_len _ _) ?_)
      omega
    · simp
  · simp
theorem sP_mem {ks : Str} {r : List D} {y : D} (h : y ∈ (zipL (chD ks) r).filterMap sP) : y ∈ r := by
  obtain ⟨q, hq, e⟩ := List.mem_filterMap.mp h
  obtain ⟨a, b, ha, hb, rfl⟩ := zip_mem hq
  obtain ⟨c, hc, rfl⟩ := List.mem_map.mp ha
  simp only [sP] at e
  split at e
  · cases e; exact hb
  · cases e
theorem inner_sd {n : Nat} {x y : D} (hx : sd n x = true) (h : y ∈ innerL x) : sd n y = true := by
  unfold innerL at h
  split at h
  · split at h
    · cases n with
      | zero => simp [sd] at hx
      | succ n => exact sd_mono _ _ ((sd_len hx (.inl rfl)).2 y (List.mem_cons_of_mem _ (sP_mem h)))
    · simp at h
  · simp at h
theorem fd9 : P.fd 9 = some ⟨1, 3, b9⟩ := rfl
theorem sub0 {S : Store} {d : D} {r : List D} : subD S (.tup (d :: r)) (.int 0) = some d := by show L2.atI (d :: r) ((0 : Nat) : Int) = _; rw [atI_get (by simp)]; rfl
theorem inner_call (k n m : Nat) (x : D) (S : Store) (hx : sd n x = true) (hh : headB m x = true) : gcOut S.length false (callR P (k + 1) 9 [x] S) = some (.ok (.lst (innerL x)) S) := by
  obtain ⟨z, r, ks, rfl, hw⟩ := head_some hh
  obtain ⟨w1, w2, w3⟩ := wk_ok hw
  obtain ⟨n, rfl⟩ : ∃ j, n = j + 1 := by cases n with
    | zero => simp [sd] at hx
    | succ n => exact ⟨n, rfl⟩
  obtain ⟨hl, hm⟩ := sd_len hx (.inl rfl)
  have hr : refsLts S.length (innerL (.tup (.str z :: r))) = true := refsLts_mem.mpr fun y hy => sd_refs (inner_sd hx hy)
  refine pc_def fd9 rfl ?_ (by rw [refsLt]; exact hr)
  show Vm.execs (cg k S.length) b9 [some (.tup (.str z :: r)), none, none] S = _
  have e0 : ev (cg k S.length).toCf (.sub (.nm 0) (.cst (.int 0))) [some (.tup (.str z :: r)), none, none] S = some (.ok (.str z) S) := ev_sub (ev_nm rfl) ev_cst sub0
  rw [b9]
  refine execs_rt (exec_ret ?_)
  have hch : (chD ks).length = ks.cps.toList.length := by simp [chD]
  have hzl := zip_len (chD ks) r
  rw [ev_lc sP (evIt_zipS (ev_gsub rfl e0 hw) (ev_slc (z := .tup r) (ev_nm rfl) (evO_yes ev_cst) evO_no (by show some (Ou.v (.tup (cutL (.str z :: r) (some 1) none))) = _; rw [cut_rest]; rfl))) (by omega) fun d hd => ?_]
  · simp only [innerL, hw]; rfl
  · obtain ⟨a, b, ha, hb, rfl⟩ := zip_mem hd
    obtain ⟨c, hc, rfl⟩ := List.mem_map.mp ha
    refine ⟨[some (.tup (.str z :: r)), some (.str ⟨#[c]⟩), some b], rfl, ?_⟩
    have t := t_eqi (C := (cg k S.length).toCf) (fr := [some (.tup (.str z :: r)), some (.str ⟨#[c]⟩), some b]) (S := S) (i := 1) (x := ⟨#[c]⟩) (y := wS) rfl (List.all_eq_true.mp w3 c hc) ok_p.2.2
    cases he : ((⟨#[c]⟩ : Str) == wS) with
    | true => rw [he] at t; exact .inr ⟨tsts_1 t, b, ev_nm rfl, by simp only [sP, he, if_true]⟩
    | false => rw [he] at t; exact .inl ⟨tsts_1 t, by simp only [sP, he, Bool.false_eq_true, if_false]⟩
def sayB (m : Nat) : Nat → List D → Bool
  | 0, fr => fr.isEmpty
  | j + 1, fr => fr.all (headB m) && sayB m j (fr.flatMap innerL)
abbrev syB : List Vm.St := [(.ife (.neg (.v (.blt .all false [(.lc false (.nm 4) [4] (.val (.nm 2)) [] (.call 8 false [(.nm 0), (.nm 4)] [0, 1]))]))) [(.ret (.cst (.bl false)))] []), (.asg (.nm 2) (.lc2 false (.nm 4) [4, 5] (.val (.nm 2)) [] (.nm 5) [5] (.val (.call 9 false [(.nm 4)] [0])) [] (.nm 5)))]
theorem fm_some (ds : List D) : ds.filterMap (fun d => some d) = ds := by induction ds with
  | nil => rfl
  | cons d ds ih => rw [List.filterMap_cons]; simp
theorem flat_len (ds : List D) : (ds.flatMap innerL).length ≤ 2 * ds.length := by
  induction ds with
  | nil => simp
  | cons d ds ih => rw [List.flatMap_cons, List.length_append, List.length_cons]; have := inner_len d; omega
theorem say_turn (k n m mm : Nat) (x : D) (S : Store) (ds : List D) (y3 y4 y5 : Option D) (hd : ∀ d ∈ ds, sd n d = true) (hn : n ≤ 19) (hl : ds.length ≤ 1000) :
    (ds.all (headB m) = true ∧ Vm.execs (cg (k + 6) mm) syB [some (.int (m : Int)), some x, some (.lst ds), y3, y4, y5] S = some (.ok (.nx [some (.int (m : Int)), some x, some (.lst (ds.flatMap innerL)), y3, y4, y5]) S)) ∨
    (ds.all (headB m) = false ∧ Vm.execs (cg (k + 6) mm) syB [some (.int (m : Int)), some x, some (.lst ds), y3, y4, y5] S = some (.ok (.ret (.bl false)) S)) := by
  let fr : Fr := [some (.int (m : Int)), some x, some (.lst ds), y3, y4, y5]
  have it : evIt (cg (k + 6) mm).toCf (.val (.nm 2)) fr S = some (.ok ⟨ds, none⟩ S) := evIt_val (ev_nm rfl) rfl
  have e1 : ev (cg (k + 6) mm).toCf (.blt .all false [(.lc false (.nm 4) [4] (.val (.nm 2)) [] (.call 8 false [(.nm 0), (.nm 4)] [0, 1]))]) fr S = some (.ok (.bl (ds.all (headB m))) S) := by
    refine ev_all (headB m) it (by omega) fun d hdm => ⟨[some (.int (m : Int)), some x, some (.lst ds), y3, some d, y5], rfl, ?_⟩
    refine ev_c2 (x := .int (m : Int)) (y := d) (S1 := S) (S2 := S) (ev_nm rfl) (ev_nm rfl) ?_
    rw [show (cg (k + 6) mm).toCf.call = callR P (k + 6) from rfl]
    exact head_call k n m d S (hd d hdm) hn
  cases ha : ds.all (headB m) with
  | false =>
    rw [ha] at e1
    exact .inr ⟨rfl, execs_rt ((exec_ifT (tst_neg (tst_vb e1))).trans (execs_rt (exec_ret ev_cst)))⟩
  | true =>
    rw [ha] at e1
    have hh := List.all_eq_true.mp ha
    have hfl := flat_len ds
    have e2 : ev (cg (k + 6) mm).toCf (.lc2 false (.nm 4) [4, 5] (.val (.nm 2)) [] (.nm 5) [5] (.val (.call 9 false [(.nm 4)] [0])) [] (.nm 5)) fr S = some (.ok (.lst (ds.flatMap innerL)) S) := by
      rw [ev_lc2 innerL it (by omega) (by omega) fun d hdm => ?_]
      · rfl
      · refine ⟨[some (.int (m : Int)), some x, some (.lst ds), y3, some d, none], innerL d, fun d => some d, rfl, tsts_nil, ?_, ?_, (fm_some _).symm, fun d1 hd1 => ⟨[some (.int (m : Int)), some x, some (.lst ds), y3, some d, some d1], rfl, .inr ⟨tsts_nil, d1, ev_nm rfl, rfl⟩⟩⟩
        · refine evIt_val (d := .lst (innerL d)) (ev_c1 (x := d) (S1 := S) (ev_nm rfl) ?_) rfl
          rw [show (cg (k + 6) mm).toCf.call = callR P (k + 6) from rfl]
          exact inner_call (k + 5) n m d S (hd d hdm) (hh d hdm)
        · have := inner_len d; omega
    exact .inl ⟨rfl, (execs_nx ((exec_ifF (tst_neg (tst_vb e1))).trans execs_nil)).trans ((execs_nx (exec_asg e2 rfl)).trans execs_nil)⟩
theorem say_loop (k n m mm : Nat) (x : D) (S : Store) (hn : n ≤ 19) : ∀ (js : List D) (ds : List D) (y3 y4 y5 : Option D), (∀ d ∈ ds, sd n d = true) → ds.length * 2 ^ js.length ≤ 1000 →
    (∃ ds' z3 z4 z5, forGo (fun d fr T => gcFl false T.length (bnd (lift (asgT (.nm 3) d fr) T) fun fr' S' => Vm.execs ((cg (k + 6) mm).up false T) syB fr' S')) (fun _ => true) js [some (.int (m : Int)), some x, some (.lst ds), y3, y4, y5] S = some (.ok (.nx [some (.int (m : Int)), some x, some (.lst ds'), z3, z4, z5]) S) ∧ (∀ d ∈ ds', sd n d = true) ∧ sayB m js.length ds = ds'.isEmpty) ∨
    (forGo (fun d fr T => gcFl false T.length (bnd (lift (asgT (.nm 3) d fr) T) fun fr' S' => Vm.execs ((cg (k + 6) mm).up false T) syB fr' S')) (fun _ => true) js [some (.int (m : Int)), some x, some (.lst ds), y3, y4, y5] S = some (.ok (.ret (.bl false)) S) ∧ sayB m js.length ds = false) := by
  intro js
  induction js with
  | nil => intro ds y3 y4 y5 hd hl; exact .inl ⟨ds, y3, y4, y5, rfl, hd, rfl⟩
  | cons j js ih =>
    intro ds y3 y4 y5 hd hl
    rw [List.length_cons, Nat.pow_succ] at hl
    have hp : 0 < 2 ^ js.length := Nat.pow_pos (by omega)
    have hl2 : ds.length ≤ 1000 := by
      have h1 : ds.length * 1 ≤ ds.length * (2 ^ js.length * 2) := Nat.mul_le_mul_left _ (by omega)
      omega
    rcases say_turn k n m mm x S ds (some j) y4 y5 hd hn hl2 with ⟨ha, e⟩ | ⟨ha, e⟩
    · have hfl := flat_len ds
      have hl3 : (ds.flatMap innerL).length * 2 ^ js.length ≤ 1000 := by
        have h1 : (ds.flatMap innerL).length * 2 ^ js.length ≤ (2 * ds.length) * 2 ^ js.length := Nat.mul_le_mul_right _ hfl
        have h2 : (2 * ds.length) * 2 ^ js.length = ds.length * (2 ^ js.length * 2) := by rw [Nat.mul_comm 2 ds.length, Nat.mul_assoc, Nat.mul_comm 2]
        omega
      have hd' : ∀ d ∈ ds.flatMap innerL, sd n d = true := fun d hdm => by
        obtain ⟨q, hq, hqd⟩ := List.mem_flatMap.mp hdm
        exact inner_sd (hd q hq) hqd
      have ef : gcFl false S.length (bnd (lift (asgT (.nm 3) j [some (.int (m : Int)), some x, some (.lst ds), y3, y4, y5]) S) fun fr' S' => Vm.execs ((cg (k + 6) mm).up false S) syB fr' S') = some (.ok (.nx [some (.int (m : Int)), some x, some (.lst (ds.flatMap innerL)), some j, y4, y5]) S) := e
      have es : sayB m (js.length + 1) ds = sayB m js.length (ds.flatMap innerL) := by rw [sayB, ha, Bool.true_and]
      rcases ih (ds.flatMap innerL) (some j) y4 y5 hd' hl3 with ⟨ds', z3, z4, z5, g1, g2, g3⟩ | ⟨g1, g2⟩
      · refine .inl ⟨ds', z3, z4, z5, ?_, g2, ?_⟩
        · simp only [forGo, ef, bnd_ok, if_true]; exact g1
        · rw [List.length_cons, es]; exact g3
      · refine .inr ⟨?_, ?_⟩
        · simp only [forGo, ef, bnd_ok, if_true]; exact g1
        · rw [List.length_cons, es]; exact g2
    · have ef : gcFl false S.length (bnd (lift (asgT (.nm 3) j [some (.int (m : Int)), some x, some (.lst ds), y3, y4, y5]) S) fun fr' S' => Vm.execs ((cg (k + 6) mm).up false S) syB fr' S') = some (.ok (.ret (.bl false)) S) := e
      refine .inr ⟨?_, ?_⟩
      · simp only [forGo, ef, bnd_ok]
      · rw [List.length_cons, sayB, ha, Bool.false_and]
theorem fd10 : P.fd 10 = some ⟨2, 6, b10⟩ := rfl
theorem say_call (k n m : Nat) (x : D) (S : Store) (hx : sd n x = true) (hn : n ≤ 19) : gcOut S.length false (callR P (k + 7) 10 [.int (m : Int), x] S) = some (.ok (.bl (sayB m 6 [x])) S) := by
  refine pc_def fd10 rfl ?_ rfl
  let fr : Fr := [some (.int (m : Int)), some x, none, none, none, none]
  show Vm.execs (cg (k + 6) S.length) b10 fr S = _
  have e1 : Vm.exec (cg (k + 6) S.length) (.asg (.nm 2) (.lst false [(.nm 1)])) fr S = some (.ok (.nx [some (.int (m : Int)), some x, some (.lst [x]), none, none, none]) S) := exec_asg (ev_lstF (evs_cons (ev_nm rfl) evs_nil)) rfl
  have ei : evIt (cg (k + 6) S.length).toCf (.rng1 (.glb ("MOST_DEPTH" : Str))) [some (.int (m : Int)), some x, some (.lst [x]), none, none, none] S = some (.ok ⟨rngL 0 6, none⟩ S) := evIt_rng1 (j := 6) (glb_ev rfl rfl rfl) rfl
  rw [b10]
  refine (execs_nx e1).trans ?_
  have hl : (rngL 0 6).length = 6 := rfl
  rcases say_loop k n m S.length x S hn (rngL 0 6) [x] none none none (fun d hd => by rw [List.mem_singleton.mp hd]; exact hx) (by rw [hl, List.length_singleton]; decide) with ⟨ds', z3, z4, z5, g1, g2, g3⟩ | ⟨g1, g2⟩
  · have ef := (exec_for (gc := false) (tg := .nm 3) (b := syB) ei rfl).trans g1
    rw [hl] at g3
    rw [g3]
    refine (execs_nx ef).trans (execs_rt (exec_ret (ev_cmp (ev_nm rfl) (ev_lstF evs_nil) ?_)))
    exact eqS_lst0 (refsLts_mem.mpr fun y hy => sd_refs (g2 y hy)) (List.all_eq_true.mpr fun y hy => okD_up (sd_ok n y (g2 y hy)) hn)
  · have ef := (exec_for (gc := false) (tg := .nm 3) (b := syB) ei rfl).trans g1
    rw [hl] at g2
    rw [g2]
    exact execs_rt ef
theorem fd11 : P.fd 11 = some ⟨2, 2, b11⟩ := rfl
def saidB (m : Nat) : D → Bool
  | .tup [a, b] => isIn 0 ((m : Int) - 1) a && sayB m 6 [b]
  | _ => false
theorem sub1 {S : Store} {d e : D} {r : List D} : subD S (.tup (d :: e :: r)) (.int 1) = some e := by show L2.atI (d :: e :: r) ((1 : Nat) : Int) = _; rw [atI_get (by simp)]; rfl
theorem said_call (k n m : Nat) (x : D) (S : Store) (hx : sd n x = true) (hn : n ≤ 19) : gcOut S.length false (callR P (k + 8) 11 [.int (m : Int), x] S) = some (.ok (.bl (saidB m x)) S) := by
  obtain ⟨t, ht⟩ := ty_of S hx
  refine pc_def fd11 rfl ?_ rfl
  let fr : Fr := [some (.int (m : Int)), some x]
  show Vm.execs (cg (k + 7) S.length) b11 fr S = _
  have e1 : ev (cg (k + 7) S.length).toCf (.call 2 false [(.nm 1), (.cst (.int 2))] [0, 1]) fr S = some (.ok (.bl (lenTup 2 x)) S) := by
    refine ev_c2 (x := x) (y := .int 2) (S1 := S) (S2 := S) (ev_nm rfl) ev_cst ?_
    rw [cg_call]; exact tupof_call (k + 6) 2 ht
  rw [b11]
  refine execs_rt (exec_ret ?_)
  cases hlt : lenTup 2 x with
  | false =>
    rw [hlt] at e1
    rw [ev_conjF (evConj_F e1)]
    have : saidB m x = false := by
      unfold saidB
      split
      · simp [lenTup] at hlt
      · rfl
    rw [this]
  | true =>
    rw [hlt] at e1
    obtain ⟨a, b, rfl⟩ : ∃ a b, x = .tup [a, b] := by
      cases x <;> simp [lenTup] at hlt
      rename_i ds
      match ds, hlt with
      | [a, b], _ => exact ⟨a, b, rfl⟩
      | [], h => simp at h
      | [_], h => simp at h
      | _ :: _ :: _ :: _, h => simp at h; omega
    obtain ⟨n, rfl⟩ : ∃ j, n = j + 1 := by cases n with
      | zero => simp [sd] at hx
      | succ n => exact ⟨n, rfl⟩
    obtain ⟨hl, hm⟩ := sd_len hx (.inl rfl)
    have ha := hm a (by simp)
    have hb := hm b (by simp)
    obtain ⟨ta, hta⟩ := ty_of S ha
    have e2 : ev (cg (k + 7) S.length).toCf (.call 1 false [(.sub (.nm 1) (.cst (.int 0))), (.cst (.int 0)), (.bin .Sub false (.nm 0) (.cst (.int 1)))] [0, 1, 2]) fr S = some (.ok (.bl (isIn 0 ((m : Int) - 1) a)) S) := by
      refine ev_c3 (x := a) (y := .int 0) (z := .int ((m : Int) - 1)) (S1 := S) (S2 := S) (S3 := S) (ev_sub (ev_nm rfl) ev_cst sub0) ev_cst (ev_bin (ev_nm rfl) ev_cst subI) ?_
      rw [cg_call]; exact betw_call (k + 5) 0 _ hta
    have e3 : ev (cg (k + 7) S.length).toCf (.call 10 false [(.nm 0), (.sub (.nm 1) (.cst (.int 1)))] [0, 1]) fr S = some (.ok (.bl (sayB m 6 [b])) S) := by
      refine ev_c2 (x := .int (m : Int)) (y := b) (S1 := S) (S2 := S) (ev_nm rfl) (ev_sub (ev_nm rfl) ev_cst sub1) ?_
      rw [cg_call]; exact say_call k n m b S hb (by omega)
    show _ = some (Rs.ok (D.bl (isIn 0 ((m : Int) - 1) a && sayB m 6 [b])) S)
    cases hi : isIn 0 ((m : Int) - 1) a with
    | false => rw [hi] at e2; exact ev_conjF ((evConj_T e1).trans (evConj_F e2))
    | true => rw [hi] at e2; rw [ev_conjT ((evConj_T e1).trans (evConj_1 e2))]; exact e3
end K55

/-! k55: right sayings, their truth by the program -/
namespace K55
open PySem Vm
theorem wk_kn : wk wKn = some wP := by decide +kernel
theorem wk_li : wk wLi = some wP := by decide +kernel
theorem wk_ct : wk wCt = some ("ng" : Str) := by decide +kernel
theorem wk_nt : wk wNt = some wS := by decide +kernel
theorem wk_an : wk wAn = some ("ss" : Str) := by decide +kernel
theorem wk_og : wk wOr = some ("ss" : Str) := by decide +kernel
theorem wk_sm : wk wSm = some ("ss" : Str) := by decide +kernel
theorem ch_p : chD wP = [.str wP] := rfl
theorem ch_s : chD wS = [.str wS] := rfl
theorem ch_ss : chD ("ss" : Str) = [.str wS, .str wS] := rfl
theorem ch_ng : chD ("ng" : Str) = [.str wN, .str ("g" : Str)] := rfl
theorem len_w : wP.length = 1 ∧ wS.length = 1 ∧ ("ss" : Str).length = 2 ∧ ("ng" : Str).length = 2 := by decide +kernel
theorem part_p {m : Nat} {x : D} : partB m wP x = isIn 0 ((m : Int) - 1) x := by unfold partB; rw [if_pos (by decide +kernel)]
theorem part_n {m : Nat} {x : D} : partB m wN x = isIn 0 8 x := by unfold partB; rw [if_neg (by decide +kernel), if_pos (by decide +kernel)]
theorem part_s {m : Nat} {x : D} : partB m wS x = true := by unfold partB; rw [if_neg (by decide +kernel), if_neg (by decide +kernel)]; rfl
theorem part_g {m : Nat} {x : D} : partB m ("g" : Str) x = setB (m : Int) x := by
  unfold partB
  rw [if_neg (by decide +kernel), if_neg (by decide +kernel), show (("g" : Str) == wS) = false by decide +kernel]
  rfl
def kids : Sy → List Sy
  | .nt a => [a]
  | .an a b => [a, b]
  | .og a b => [a, b]
  | .sm a b => [a, b]
  | _ => []
theorem in_p {m p : Nat} (h : p < m) : isIn 0 ((m : Int) - 1) (.int (p : Int)) = true := by
  simp only [isIn, Bool.and_eq_true, decide_eq_true_eq]; omega
theorem set_ok {m : Nat} {ps : List Nat} (h : ∀ p ∈ ps, p < m) (hr : risL (iN ps) = true) : setB (m : Int) (.tup (iN ps)) = true := by
  simp only [setB, Bool.and_eq_true, hr, and_true, List.all_eq_true]
  intro d hd
  obtain ⟨p, hp, rfl⟩ := List.mem_map.mp hd
  exact in_p (h p hp)
theorem head_ok {m : Nat} {s : Sy} (h : okS m s) : headB m (sD s) = true := by
  obtain ⟨l1, l2, l3, l4⟩ := len_w
  cases s with
  | kn p => simp only [sD, headB, wk_kn, ch_p, l1, lenTup, zipL, pB, part_p, List.all_cons, List.all_nil, in_p h]; rfl
  | li p => simp only [sD, headB, wk_li, ch_p, l1, lenTup, zipL, pB, part_p, List.all_cons, List.all_nil, in_p h]; rfl
  | ct n ps =>
    have hn : isIn 0 8 (.int (n : Int)) = true := by simp only [isIn, Bool.and_eq_true, decide_eq_true_eq]; have := h.1; omega
    simp only [sD, headB, wk_ct, ch_ng, l4, lenTup, zipL, pB, part_n, part_g, List.all_cons, List.all_nil, hn, set_ok h.2.2.1 h.2.2.2]; rfl
  | nt a => simp only [sD, headB, wk_nt, ch_s, l2, lenTup, zipL, pB, part_s, List.all_cons, List.all_nil]; rfl
  | an a b => simp only [sD, headB, wk_an, ch_ss, l3, lenTup, zipL, pB, part_s, List.all_cons, List.all_nil]; rfl
  | og a b => simp only [sD, headB, wk_og, ch_ss, l3, lenTup, zipL, pB, part_s, List.all_cons, List.all_nil]; rfl
  | sm a b => simp only [sD, headB, wk_sm, ch_ss, l3, lenTup, zipL, pB, part_s, List.all_cons, List.all_nil]; rfl
theorem eq_ss : (wS == wS) = true := by decide +kernel
theorem ne_ps : (wP == wS) = false := by decide +kernel
theorem ne_ns : (wN == wS) = false := by decide +kernel
theorem ne_gs : (("g" : Str) == wS) = false := by decide +kernel
theorem inner_kids (s : Sy) : innerL (sD s) = (kids s).map sD := by
  cases s with
  | kn p => simp only [sD, innerL, wk_kn, ch_p, zipL, List.filterMap_cons, List.filterMap_nil, sP, ne_ps, kids]; rfl
  | li p => simp only [sD, innerL, wk_li, ch_p, zipL, List.filterMap_cons, List.filterMap_nil, sP, ne_ps, kids]; rfl
  | ct n ps => simp only [sD, innerL, wk_ct, ch_ng, zipL, List.filterMap_cons, List.filterMap_nil, sP, ne_ns, ne_gs, kids]; rfl
  | nt a => simp only [sD, innerL, wk_nt, ch_s, zipL, List.filterMap_cons, List.filterMap_nil, sP, eq_ss, kids]; rfl
  | an a b => simp only [sD, innerL, wk_an, ch_ss, zipL, List.filterMap_cons, List.filterMap_nil, sP, eq_ss, kids]; rfl
  | og a b => simp only [sD, innerL, wk_og, ch_ss, zipL, List.filterMap_cons, List.filterMap_nil, sP, eq_ss, kids]; rfl
  | sm a b => simp only [sD, innerL, wk_sm, ch_ss, zipL, List.filterMap_cons, List.filterMap_nil, sP, eq_ss, kids]; rfl
theorem kids_ok {m : Nat} {s q : Sy} (h : okS m s) (hq : q ∈ kids s) : okS m q ∧ dp q + 1 ≤ dp s := by
  cases s <;> simp only [kids, List.mem_cons, List.not_mem_nil, or_false] at hq
  · subst hq; exact ⟨h, Nat.le_refl _⟩
  all_goals (rcases hq with rfl | rfl <;> first | exact ⟨h.1, by simp only [dp]; omega⟩ | exact ⟨h.2, by simp only [dp]; omega⟩)
theorem flat_kids : ∀ ss : List Sy, (ss.map sD).flatMap innerL = (ss.flatMap kids).map sD
  | [] => rfl
  | s :: ss => by rw [List.map_cons, List.flatMap_cons, List.flatMap_cons, List.map_append, inner_kids, flat_kids ss]
theorem say_ok (m : Nat) : ∀ (j : Nat) (ss : List Sy), (∀ s ∈ ss, okS m s ∧ dp s ≤ j) → sayB m j (ss.map sD) = true
  | 0, [], _ => rfl
  | 0, s :: ss, h => by have := (h s List.mem_cons_self).2; have := dp_pos s; omega
  | j + 1, ss, h => by
    rw [sayB, Bool.and_eq_true]
    refine ⟨?_, ?_⟩
    · rw [List.all_eq_true]
      intro d hd
      obtain ⟨s, hs, rfl⟩ := List.mem_map.mp hd
      exact head_ok (h s hs).1
    · rw [flat_kids]
      refine say_ok m j _ fun q hq => ?_
      obtain ⟨s, hs, hqs⟩ := List.mem_flatMap.mp hq
      obtain ⟨h1, h2⟩ := h s hs
      obtain ⟨h3, h4⟩ := kids_ok h1 hqs
      exact ⟨h3, by omega⟩
theorem say_one {m : Nat} {s : Sy} (h : okS m s) (hd : dp s ≤ 6) : sayB m 6 [sD s] = true := say_ok m 6 [s] fun q hq => by
  rw [List.mem_singleton.mp hq]; exact ⟨h, hd⟩
theorem int_sd (n : Nat) (i : Int) : sd n (.int i) = true := by cases n <;> rfl
theorem iN_sd (n : Nat) {ps : List Nat} (h : ps.length ≤ 1000) : sd (n + 1) (.tup (iN ps)) = true := by
  have : (iN ps).all (sd n) = true := by
    rw [List.all_eq_true]; intro d hd; obtain ⟨v, _, rfl⟩ := List.mem_map.mp hd; exact int_sd n _
  rw [sd, this, decide_eq_true (by rw [iN_len]; omega)]; rfl
theorem word_sd (n : Nat) (s : Sy) : sd n (.str s.w) = true := by
  refine s_sd n ?_
  cases s <;> (simp only [Sy.w]; decide +kernel)
theorem two_tup {n : Nat} {a b : D} (h1 : sd n a = true) (h2 : sd n b = true) : sd (n + 1) (.tup [a, b]) = true := by
  show (decide _ && [a, b].all (sd n)) = true
  simp only [List.all_cons, List.all_nil, h1, h2]; rfl
theorem three_tup {n : Nat} {a b c : D} (h1 : sd n a = true) (h2 : sd n b = true) (h3 : sd n c = true) : sd (n + 1) (.tup [a, b, c]) = true := by
  show (decide _ && [a, b, c].all (sd n)) = true
  simp only [List.all_cons, List.all_nil, h1, h2, h3]; rfl
theorem sD_sd {m : Nat} : ∀ (s : Sy), okS m s → sd (dp s + 1) (sD s) = true
  | .kn p, _ => two_tup (word_sd 1 (.kn p)) (int_sd 1 _)
  | .li p, _ => two_tup (word_sd 1 (.li p)) (int_sd 1 _)
  | .ct n ps, h => three_tup (word_sd 1 (.ct n ps)) (int_sd 1 _) (iN_sd 0 (by have := h.2.1; omega))
  | .nt a, h => two_tup (word_sd _ (.nt a)) (sD_sd a h)
  | .an a b, h => three_tup (word_sd _ (.an a b)) (sd_up (sD_sd a h.1) (by simp only [dp]; omega)) (sd_up (sD_sd b h.2) (by simp only [dp]; omega))
  | .og a b, h => three_tup (word_sd _ (.og a b)) (sd_up (sD_sd a h.1) (by simp only [dp]; omega)) (sd_up (sD_sd b h.2) (by simp only [dp]; omega))
  | .sm a b, h => three_tup (word_sd _ (.sm a b)) (sd_up (sD_sd a h.1) (by simp only [dp]; omega)) (sd_up (sD_sd b h.2) (by simp only [dp]; omega))
/-! ### 12 -/
theorem fd12 : P.fd 12 = some ⟨2, 6, b12⟩ := rfl
abbrev ptE : Ex := .lc false (.nm 4) [4] (.val (.call 9 false [(.nm 1)] [0])) [] (.call 12 false [(.nm 0), (.nm 4)] [0, 1])
def trO (w : List Bool) (ss : List Sy) (d : D) : Option D := some d
theorem lc_map {C : Cf} {fr : Fr} {S : Store} {tg : Tg} {own : List Nat} {it : It} {elt : Ex} {α : Type} (g h : α → D) (l : List α) (hit : evIt C it fr S = some (.ok ⟨l.map g, none⟩ S)) (hf : l.length ≤ 1000000)
    (hh : ∀ a ∈ l, ∃ fr', asgT tg (g a) (wipeF fr own) = some fr' ∧ ev C elt fr' S = some (.ok (h a) S)) : ev C (.lc false tg own it [] elt) fr S = some (.ok (.lst (l.map h)) S) := by
  have hstill : (Its.mk (l.map g) none).still S = true := rfl
  have key : ∀ (pre post : List α), l = pre ++ post → lcGo (lcF C tg own [] elt ⟨l.map g, none⟩ fr) (post.map g) (pre.map h) S = some (.ok (l.map h) S) := by
    intro pre post
    induction post generalizing pre with
    | nil => intro e; rw [List.append_nil] at e; rw [e]; rfl
    | cons a post ih =>
      intro e
      obtain ⟨fr', e1, e2⟩ := hh a (by rw [e]; simp)
      have et : lcF C tg own [] elt ⟨l.map g, none⟩ fr (g a) S = some (.ok (some (h a)) S) := by simp [lcF, e1, tsts_nil, e2, Its.still]
      rw [List.map_cons]
      simp only [lcGo, et, bnd_ok]
      have := ih (pre ++ [a]) (by rw [e, List.append_assoc]; rfl)
      rw [List.map_append] at this
      exact this
  have ed : ev C (.lc false tg own it [] elt) fr S = bnd (evIt C it fr S) fun t S1 => if (fits t.ds.length && t.still S1) = true then bnd (noEx (lcGo (lcF C tg own [] elt t fr) t.ds [] S1)) (mkL false) else none := rfl
  rw [ed, hit, bnd_ok]
  rw [if_pos (show (fits (l.map g).length && (Its.mk (l.map g) none).still S) = true by simp [fits, hf, Its.still])]
  have := key [] l rfl
  rw [List.map_nil] at this
  rw [this]
  rfl
theorem bl_map (f : α → Bool) (l : List α) : l.map (fun a => D.bl (f a)) = (l.map f).map .bl := by rw [List.map_map]; rfl
theorem bls_of : ∀ l : List Bool, blsOf (l.map .bl) = some l
  | [] => rfl
  | b :: l => by show (blsOf (l.map .bl)).map _ = _; rw [bls_of l]; rfl
theorem tr_call (w : List Bool) : ∀ (s : Sy) (k : Nat) (S : Store), okS w.length s → dp s + 1 ≤ k → gcOut S.length false (callR P k 12 [wD w, sD s] S) = some (.ok (.bl (tr w s)) S) := by
  have o := ok_w
  have main : ∀ (N : Nat) (s : Sy) (k : Nat) (S : Store), dp s ≤ N → okS w.length s → dp s + 1 ≤ k → gcOut S.length false (callR P k 12 [wD w, sD s] S) = some (.ok (.bl (tr w s)) S) := by
    intro N
    induction N with
    | zero => intro s k S h; have := dp_pos s; omega
    | succ N ih =>
      intro s k S hN ho hk
      obtain ⟨j, rfl⟩ : ∃ j, k = j + 2 := ⟨k - 2, by have := dp_pos s; omega⟩
      refine pc_def fd12 rfl ?_ rfl
      let C := cg (j + 1) S.length
      let f3 (y : Option D) : Fr := [some (wD w), some (sD s), some (.str s.w), y, none, none]
      have e0 : Vm.exec C (.asg (.nm 2) (.sub (.nm 1) (.cst (.int 0)))) [some (wD w), some (sD s), none, none, none, none] S = some (.ok (.nx (f3 none)) S) := by
        refine exec_asg (d := .str s.w) (ev_sub (ev_nm rfl) ev_cst ?_) rfl
        cases s <;> rfl
      refine (execs_nx e0).trans ?_
      have eP : ev C.toCf ptE (f3 none) S = some (.ok (.lst (((kids s).map (tr w)).map .bl)) S) := by
        have hin : evIt C.toCf (.val (.call 9 false [(.nm 1)] [0])) (f3 none) S = some (.ok ⟨(kids s).map sD, none⟩ S) := by
          refine evIt_val (d := .lst ((kids s).map sD)) (ev_c1 (x := sD s) (S1 := S) (ev_nm rfl) ?_) rfl
          rw [cg_call, ← inner_kids]
          exact inner_call j _ w.length (sD s) S (sD_sd s ho) (head_ok ho)
        have hkl : (kids s).length ≤ 1000000 := by cases s <;> simp [kids]
        rw [lc_map sD (fun q => .bl (tr w q)) (kids s) hin hkl fun q hq => ?_, bl_map]
        obtain ⟨h1, h2⟩ := kids_ok ho hq
        refine ⟨[some (wD w), some (sD s), some (.str s.w), none, some (sD q), none], rfl, ev_c2 (x := wD w) (y := sD q) (S1 := S) (S2 := S) (ev_nm rfl) (ev_nm rfl) ?_⟩
        rw [cg_call]
        exact ih q (j + 1) S (by omega) h1 (by omega)
      cases s with
      | kn p =>
        refine execs_rt ((exec_ifT (t_in rfl (w_ok (.kn p)) (by simp only [Sy.w]; decide +kernel))).trans (execs_rt (exec_ret ?_)))
        refine ev_cmp (ev_sub (ev_nm rfl) (ev_sub (z := .int (p : Int)) (ev_nm rfl) ev_cst rfl) (at_get ho)) (e_eq (k := true) rfl (w_ok (.kn p)) o.1 (by simp only [Sy.w]; decide +kernel)) ?_
        rw [cmp_bl]; simp [tr]
      | li p =>
        refine execs_rt ((exec_ifT (t_in rfl (w_ok (.li p)) (by simp only [Sy.w]; decide +kernel))).trans (execs_rt (exec_ret ?_)))
        refine ev_cmp (ev_sub (ev_nm rfl) (ev_sub (z := .int (p : Int)) (ev_nm rfl) ev_cst rfl) (at_get ho)) (e_eq (k := false) rfl (w_ok (.li p)) o.1 (by simp only [Sy.w]; decide +kernel)) ?_
        rw [cmp_bl]; simp [tr]
      | ct n ps => exact (execs_nx ((exec_ifF (t_in rfl (w_ok (.ct n ps)) (by simp only [Sy.w]; decide +kernel))).trans execs_nil)).trans (execs_rt ((exec_ifT (t_eq rfl (w_ok (.ct n ps)) o.2.1 (by simp only [Sy.w]; decide +kernel))).trans (execs_rt (exec_ret (ct_ev ho.2.1 ho.2.2.1)))))
      | nt a =>
        refine (execs_nx ((exec_ifF (t_in rfl (w_ok (.nt a)) (by simp only [Sy.w]; decide +kernel))).trans execs_nil)).trans ((execs_nx ((exec_ifF (t_eq rfl (w_ok (.nt a)) o.2.1 (by simp only [Sy.w]; decide +kernel))).trans execs_nil)).trans ((execs_nx (exec_asg (fr' := f3 (some (.lst [.bl (tr w a)]))) eP rfl)).trans (execs_rt ((exec_ifT (t_eq rfl (w_ok (.nt a)) o.2.2.1 (by simp only [Sy.w]; decide +kernel))).trans (execs_rt (exec_ret ?_))))))
        exact ev_notE (tst_vb (ev_sub (x := .lst [.bl (tr w a)]) (ev_nm rfl) ev_cst rfl))
      | sm a b =>
        refine (execs_nx ((exec_ifF (t_in rfl (w_ok (.sm a b)) (by simp only [Sy.w]; decide +kernel))).trans execs_nil)).trans ((execs_nx ((exec_ifF (t_eq rfl (w_ok (.sm a b)) o.2.1 (by simp only [Sy.w]; decide +kernel))).trans execs_nil)).trans ((execs_nx (exec_asg (fr' := f3 (some (.lst [.bl (tr w a), .bl (tr w b)]))) eP rfl)).trans ((execs_nx ((exec_ifF (t_eq rfl (w_ok (.sm a b)) o.2.2.1 (by simp only [Sy.w]; decide +kernel))).trans execs_nil)).trans (execs_rt ((exec_ifT (t_eq rfl (w_ok (.sm a b)) o.2.2.2.1 (by simp only [Sy.w]; decide +kernel))).trans (execs_rt (exec_ret ?_)))))))
        exact ev_cmp (ev_sub (x := .lst [.bl (tr w a), .bl (tr w b)]) (ev_nm rfl) ev_cst rfl) (ev_sub (x := .lst [.bl (tr w a), .bl (tr w b)]) (ev_nm rfl) ev_cst rfl) cmp_bl
      | an a b =>
        refine (execs_nx ((exec_ifF (t_in rfl (w_ok (.an a b)) (by simp only [Sy.w]; decide +kernel))).trans execs_nil)).trans ((execs_nx ((exec_ifF (t_eq rfl (w_ok (.an a b)) o.2.1 (by simp only [Sy.w]; decide +kernel))).trans execs_nil)).trans ((execs_nx (exec_asg (fr' := f3 (some (.lst [.bl (tr w a), .bl (tr w b)]))) eP rfl)).trans ((execs_nx ((exec_ifF (t_eq rfl (w_ok (.an a b)) o.2.2.1 (by simp only [Sy.w]; decide +kernel))).trans execs_nil)).trans ((execs_nx ((exec_ifF (t_eq rfl (w_ok (.an a b)) o.2.2.2.1 (by simp only [Sy.w]; decide +kernel))).trans execs_nil)).trans (execs_rt (exec_ret ?_))))))
        rw [ev_iteT (t_eq rfl (w_ok (.an a b)) o.2.2.2.2 (by simp only [Sy.w]; decide +kernel))]
        refine ev_blt (z := .bl (tr w (.an a b))) (evs_cons (ev_nm (d := .lst [.bl (tr w a), .bl (tr w b)]) rfl) evs_nil) ?_
        show some (Ou.v (.bl (tr w a && (tr w b && true)))) = _
        rw [Bool.and_true]; rfl
      | og a b =>
        refine (execs_nx ((exec_ifF (t_in rfl (w_ok (.og a b)) (by simp only [Sy.w]; decide +kernel))).trans execs_nil)).trans ((execs_nx ((exec_ifF (t_eq rfl (w_ok (.og a b)) o.2.1 (by simp only [Sy.w]; decide +kernel))).trans execs_nil)).trans ((execs_nx (exec_asg (fr' := f3 (some (.lst [.bl (tr w a), .bl (tr w b)]))) eP rfl)).trans ((execs_nx ((exec_ifF (t_eq rfl (w_ok (.og a b)) o.2.2.1 (by simp only [Sy.w]; decide +kernel))).trans execs_nil)).trans ((execs_nx ((exec_ifF (t_eq rfl (w_ok (.og a b)) o.2.2.2.1 (by simp only [Sy.w]; decide +kernel))).trans execs_nil)).trans (execs_rt (exec_ret ?_))))))
        rw [ev_iteF (t_eq rfl (w_ok (.og a b)) o.2.2.2.2 (by simp only [Sy.w]; decide +kernel))]
        refine ev_blt (z := .bl (tr w (.og a b))) (evs_cons (ev_nm (d := .lst [.bl (tr w a), .bl (tr w b)]) rfl) evs_nil) ?_
        show some (Ou.v (.bl (tr w a || (tr w b || false)))) = _
        rw [Bool.or_false]; rfl
  exact fun s k S => main (dp s) s k S (Nat.le_refl _)
end K55

/-! k55: the worlds, by the law -/
namespace K55
open PySem Vm
/-- a comprehension over a list, by the items' own kind -/
theorem lc_fm {C : Cf} {bx : Bool} {fr : Fr} {S S1 : Store} {tg : Tg} {own : List Nat} {it : It} {ifs : List Te} {elt : Ex} {α : Type} {t : Its} (g : α → D) (h : α → Option D) (l : List α) (hit : evIt C it fr S = some (.ok t S1)) (ht : t.ds = l.map g) (hs : t.still S1 = true) (hf : l.length ≤ 1000000)
    (hh : ∀ a ∈ l, ∃ fr', asgT tg (g a) (wipeF fr own) = some fr' ∧ ((tsts C ifs fr' S1 = some (.ok false S1) ∧ h a = none) ∨ (tsts C ifs fr' S1 = some (.ok true S1) ∧ ∃ y, ev C elt fr' S1 = some (.ok y S1) ∧ h a = some y))) :
    ev C (.lc bx tg own it ifs elt) fr S = mkL bx (l.filterMap h) S1 := by
  have key : ∀ (post : List α) (acc : List D), (∀ a ∈ post, a ∈ l) → lcGo (lcF C tg own ifs elt t fr) (post.map g) acc S1 = some (.ok (acc ++ post.filterMap h) S1) := by
    intro post
    induction post with
    | nil => intro acc _; simp [lcGo]
    | cons a post ih =>
      intro acc hm
      obtain ⟨fr', e1, e2⟩ := hh a (hm a List.mem_cons_self)
      have hm' : ∀ b ∈ post, b ∈ l := fun b hb => hm b (List.mem_cons_of_mem _ hb)
      rw [List.map_cons]
      rcases e2 with ⟨e2, e3⟩ | ⟨e2, y, e3, e4⟩
      · have et : lcF C tg own ifs elt t fr (g a) S1 = some (.ok none S1) := by simp [lcF, e1, e2, hs]
        simp only [lcGo, et, bnd_ok]
        rw [ih acc hm', List.filterMap_cons, e3]
      · have et : lcF C tg own ifs elt t fr (g a) S1 = some (.ok (some y) S1) := by simp [lcF, e1, e2, e3, hs]
        simp only [lcGo, et, bnd_ok]
        rw [ih _ hm', List.filterMap_cons, e4, List.append_assoc]
        rfl
  have ed : ev C (.lc bx tg own it ifs elt) fr S = bnd (evIt C it fr S) fun t S1 => if (fits t.ds.length && t.still S1) = true then bnd (noEx (lcGo (lcF C tg own ifs elt t fr) t.ds [] S1)) (mkL bx) else none := rfl
  rw [ed, hit, bnd_ok]
  rw [if_pos (show (fits t.ds.length && t.still S1) = true by simp [fits, ht, hf, hs])]
  rw [ht, key l [] (fun _ h => h)]
  rfl
/-- a comprehension of two clauses over a list -/
theorem lc2_t {C : Cf} {bx : Bool} {tg tg1 : Tg} {own vs1 : List Nat} {it it1 : It} {ifs ifs1 : List Te} {elt : Ex} {fr : Fr} {S S1 : Store} {t : Its} (inner : D → List D) (hit : evIt C it fr S = some (.ok t S1)) (hs : t.still S1 = true) (hf : t.ds.length ≤ 1000000) (hl : (t.ds.flatMap inner).length ≤ 1000000)
    (h : ∀ d ∈ t.ds, ∃ fr' ds1 r, asgT tg d (wipeF fr own) = some fr' ∧ tsts C ifs fr' S1 = some (.ok true S1) ∧ evIt C it1 fr' S1 = some (.ok ⟨ds1, none⟩ S1) ∧ ds1.length ≤ 1000000 ∧ inner d = ds1.filterMap r ∧
      ∀ d1 ∈ ds1, ∃ fr1, asgT tg1 d1 (wipeF fr' vs1) = some fr1 ∧ tsts C ifs1 fr1 S1 = some (.ok true S1) ∧ ∃ y, ev C elt fr1 S1 = some (.ok y S1) ∧ r d1 = some y) :
    ev C (.lc2 bx tg own it ifs tg1 vs1 it1 ifs1 elt) fr S = mkL bx (t.ds.flatMap inner) S1 := by
  have ed : ev C (.lc2 bx tg own it ifs tg1 vs1 it1 ifs1 elt) fr S = bnd (evIt C it fr S) fun t S1 => if (fits t.ds.length && t.still S1) = true then bnd (noEx (foGo (lc2F C tg own ifs tg1 vs1 it1 ifs1 elt t fr) t.ds [] S1)) (mkL bx) else none := rfl
  rw [ed, hit, bnd_ok]
  rw [if_pos (show (fits t.ds.length && t.still S1) = true by simp [fits, hf, hs])]
  have key : ∀ (l : List D) (acc : List D), (∀ d ∈ l, d ∈ t.ds) → acc.length + (l.flatMap inner).length ≤ 1000000 → foGo (lc2F C tg own ifs tg1 vs1 it1 ifs1 elt t fr) l acc S1 = some (.ok (acc ++ l.flatMap inner) S1) := by
    intro l
    induction l with
    | nil => intro acc _ _; simp [foGo]
    | cons d l ih =>
      intro acc hm hb
      rw [List.flatMap_cons, List.length_append] at hb
      obtain ⟨fr', ds1, r, e1, e2, e3, e4, e5, e6⟩ := h d (hm d List.mem_cons_self)
      have eg : lcGo (lcF C tg1 vs1 ifs1 elt ⟨ds1, none⟩ fr') ds1 acc S1 = some (.ok (acc ++ ds1.filterMap r) S1) := lcGo_pure fun d1 hd1 => by
        obtain ⟨fr1, f1, f2, y, f3, f4⟩ := e6 d1 hd1
        simp [lcF, f1, f2, f3, f4, Its.still]
      have et : lc2F C tg own ifs tg1 vs1 it1 ifs1 elt t fr d acc S1 = some (.ok (acc ++ inner d) S1) := by
        simp only [lc2F, e1, e2, bnd_ok, if_true, e3]
        rw [if_pos (show (fits ds1.length && (Its.mk ds1 none).still S1) = true by simp [fits, e4, Its.still]), eg, bnd_ok, ← e5]
        rw [if_pos (show (t.still S1 && fits (acc ++ inner d).length) = true by simp [fits, hs]; omega)]
      simp only [foGo, et, bnd_ok]
      rw [ih _ (fun x hx => hm x (List.mem_cons_of_mem _ hx)) (by rw [List.length_append]; omega), List.flatMap_cons, List.append_assoc]
  rw [key t.ds [] (fun _ z => z) (by simpa using hl)]
  rfl
/-! ### the worlds -/
abbrev W := List Bool
def nxt (w : W) : List W := [w ++ [false], w ++ [true]]
def ws : Nat → List W
  | 0 => [[]]
  | n + 1 => (ws n).flatMap nxt
theorem ws_len : ∀ (n : Nat) (w : W), w ∈ ws n → w.length = n
  | 0, w, h => by simp [ws] at h; subst h; rfl
  | n + 1, w, h => by
    obtain ⟨v, hv, hw⟩ := List.mem_flatMap.mp h
    have := ws_len n v hv
    simp only [nxt, List.mem_cons, List.not_mem_nil, or_false] at hw
    rcases hw with rfl | rfl <;> simp [this]
theorem ws_cnt : ∀ n : Nat, (ws n).length = 2 ^ n
  | 0 => rfl
  | n + 1 => by
    have h : ∀ l : List W, (l.flatMap nxt).length = 2 * l.length := fun l => by
      induction l with
      | nil => rfl
      | cons w l ih => rw [List.flatMap_cons, List.length_append, ih, List.length_cons]; simp only [nxt, List.length_cons, List.length_nil]; omega
    rw [ws, h, ws_cnt n, Nat.pow_succ, Nat.mul_comm]
theorem ws_le {n : Nat} (h : n ≤ 8) : (ws n).length ≤ 256 := by
  rw [ws_cnt]
  exact Nat.le_trans (Nat.pow_le_pow_right (by omega) h) (by decide)
def wL (l : List W) : List D := l.map wD
theorem wL_len (l : List W) : (wL l).length = l.length := List.length_map ..
theorem wD_refs (m : Nat) (w : W) : refsLt m (wD w) = true := by
  show refsLts m (w.map .bl) = true
  exact map_refs (fun _ => rfl) w
theorem wL_refs (m : Nat) (l : List W) : refsLts m (wL l) = true := map_refs (wD_refs m) l
theorem wD_app (w : W) (b : Bool) : (.tup (w.map D.bl ++ [.bl b]) : D) = wD (w ++ [b]) := by unfold wD; rw [List.map_append]; rfl
theorem bl_sd (n : Nat) (b : Bool) : sd n (.bl b) = true := by cases n <;> rfl
theorem wD_sd (n : Nat) {w : W} (h : w.length ≤ 1000) : sd (n + 1) (wD w) = true := by
  have : (w.map D.bl).all (sd n) = true := by
    rw [List.all_eq_true]; intro d hd; obtain ⟨v, _, rfl⟩ := List.mem_map.mp hd; exact bl_sd n _
  show (decide _ && (w.map D.bl).all (sd n)) = true
  rw [this, decide_eq_true (by rw [List.length_map]; omega)]; rfl
theorem set_last {S : Store} {x y : D} : (S ++ [x]).set S.length y = S ++ [y] := by simp
theorem get_last {S : Store} {x : D} : (S ++ [x])[S.length]? = some x := List.getElem?_concat_length
theorem get_old {S J : Store} {i : Nat} {d : D} (h : S[i]? = some d) : (S ++ J)[i]? = some d := by
  rw [List.getElem?_append_left (List.getElem?_eq_some_iff.mp h).1]; exact h
/-- what stands for the list of the worlds so far: the items, plain or boxed -/
def Fnd (S T : Store) (x : D) (l : List W) : Prop := (∃ J, T = S ++ J) ∧ (x = .lst (wL l) ∨ ∃ i, x = .ref i ∧ S.length ≤ i ∧ T[i]? = some (.lst (wL l)))
theorem Fnd.items {S T : Store} {x : D} {l : List W} (h : Fnd S T x l) : ∃ t, itemsOf T x = some t ∧ t.ds = wL l ∧ ∀ J, t.still (T ++ J) = true := by
  obtain ⟨_, rfl | ⟨i, rfl, _, hi⟩⟩ := h
  · exact ⟨⟨wL l, none⟩, rfl, rfl, fun _ => rfl⟩
  · refine ⟨⟨wL l, some i⟩, ?_, rfl, fun J => still_some (get_old hi)⟩
    show (match T[i]? with | some (.lst ds) => some (Its.mk ds (some i)) | _ => none) = _
    rw [hi]
theorem Fnd.new {S T : Store} {l : List W} (J : Store) (h : T = S ++ J) : Fnd S (T ++ [.lst (wL l)]) (.ref T.length) l :=
  ⟨⟨J ++ [.lst (wL l)], by rw [h, List.append_assoc]⟩, .inr ⟨T.length, rfl, by rw [h, List.length_append]; omega, get_last⟩⟩
/-- handed back as plain data -/
theorem Fnd.plain {S T : Store} {x : D} {l : List W} (h : Fnd S T x l) : gcOut S.length false (some (.ok x T)) = some (.ok (.lst (wL l)) S) := by
  obtain ⟨⟨J, rfl⟩, rfl | ⟨i, rfl, hi, hg⟩⟩ := h
  · exact gc_plain (by rw [refsLt]; exact wL_refs _ _)
  · exact gc_box hg hi (wL_refs _ _)
/-- handed back as a box -/
theorem Fnd.box {S T : Store} {i : Nat} {l : List W} (h : Fnd S T (.ref i) l) : gcOut S.length true (some (.ok (.ref i) T)) = some (.ok (.ref S.length) (S ++ [.lst (wL l)])) := by
  obtain ⟨⟨J, rfl⟩, h | ⟨j, e, hi, hg⟩⟩ := h
  · cases h
  · cases e
    simp only [gcOut, if_true]
    rw [if_neg (by omega), hg]
    simp only
    rw [if_pos (by rw [refsLt]; exact wL_refs _ _), List.take_left]
/-! ### 27 -/
theorem fd27 : P.fd 27 = some ⟨1, 5, b27⟩ := rfl
abbrev evI : List Vm.St := [(.expr (.met .extend (.nm 3) [(.lst false [(.bin .Add false (.nm 4) (.tup [(.cst (.bl false))])), (.bin .Add false (.nm 4) (.tup [(.cst (.bl true))]))])]))]
abbrev evB : List Vm.St := [(.asg (.nm 3) (.lst true [])), (.for_ false (.nm 4) (.val (.nm 1)) evI), (.asg (.nm 1) (.nm 3))]
theorem add_bl {S : Store} {w : W} {b : Bool} (h : w.length ≤ 8) : binD S .Add (wD w) (.tup [.bl b]) = some (.v (wD (w ++ [b]))) := by
  have hf : fits ((w.map D.bl).length + [D.bl b].length) = true := by simp only [fits, decide_eq_true_eq, List.length_map, List.length_singleton]; omega
  show (if Operator.Add = .Add ∧ fits ((w.map D.bl).length + [D.bl b].length) = true then some (Ou.v (.tup (w.map D.bl ++ [.bl b]))) else none) = _
  rw [if_pos ⟨rfl, hf⟩, wD_app]
theorem ev_turn (k m j n : Nat) (S T : Store) (x : D) (y2 y3 y4 : Option D) (hm : m ≤ T.length) (hj : j < 8) (h : Fnd S T x (ws j)) :
    ∃ y3' y4' x' T', Vm.execs (cg k m) evB [some (.int (n : Int)), some x, y2, y3, y4] T = some (.ok (.nx [some (.int (n : Int)), some x', y2, y3', y4']) T') ∧ Fnd S T' x' (ws (j + 1)) ∧ T.length ≤ T'.length := by
  let C := cg k m
  let fr (y4 : Option D) : Fr := [some (.int (n : Int)), some x, y2, some (.ref T.length), y4]
  obtain ⟨t, ht, hds, hst⟩ := h.items
  have e1 : Vm.exec C (.asg (.nm 3) (.lst true [])) [some (.int (n : Int)), some x, y2, y3, y4] T = some (.ok (.nx (fr y4)) (T ++ [.lst []])) := exec_asg (ev_lstT evs_nil) rfl
  have ht' : itemsOf (T ++ [.lst []]) x = some t := by
    obtain ⟨_, rfl | ⟨i, rfl, _, hi⟩⟩ := h
    · exact ht
    · have e2 : (T ++ [D.lst []])[i]? = some (.lst (wL (ws j))) := get_old hi
      simp only [itemsOf, hi] at ht
      simp only [itemsOf, e2]
      exact ht
  have it : evIt C.toCf (.val (.nm 1)) (fr y4) (T ++ [.lst []]) = some (.ok t (T ++ [.lst []])) := evIt_val (ev_nm rfl) ht'
  obtain ⟨fr', T', el, done, hdn, y4', rfl, rfl⟩ := forGo_inv (f := fun d fr T => gcFl false T.length (bnd (lift (asgT (.nm 4) d fr) T) fun fr' S' => Vm.execs (C.up false T) evI fr' S')) (st := t.still)
    (fun rest fr0 T1 => ∃ done, (∃ post, rest = wL post ∧ ws j = done ++ post) ∧ ∃ y4, fr0 = fr y4 ∧ T1 = T ++ [.lst (wL (done.flatMap nxt))]) t.ds (fr y4) (T ++ [.lst []]) ⟨[], ⟨ws j, hds, rfl⟩, y4, rfl, rfl⟩
    fun d r fr0 T1 ⟨done, ⟨post, e0, e1⟩, y4, ef, eT⟩ => by
      subst ef eT
      cases post with
      | nil => simp [wL] at e0
      | cons w post =>
        obtain ⟨rfl, rfl⟩ : d = wD w ∧ r = wL post := by simpa [wL] using e0
        have hw : w.length = j := ws_len j w (by rw [e1]; simp)
        have hlen : (done ++ w :: post).length ≤ 256 := by rw [← e1]; exact ws_le (by omega)
        rw [List.length_append, List.length_cons] at hlen
        have hnl : ∀ l : List W, (l.flatMap nxt).length = 2 * l.length := fun l => by
          induction l with
          | nil => rfl
          | cons w l ih => rw [List.flatMap_cons, List.length_append, ih, List.length_cons]; simp only [nxt, List.length_cons, List.length_nil]; omega
        let T1 := T ++ [D.lst (wL (done.flatMap nxt))]
        have em : ev C.toCf (.met .extend (.nm 3) [(.lst false [(.bin .Add false (.nm 4) (.tup [(.cst (.bl false))])), (.bin .Add false (.nm 4) (.tup [(.cst (.bl true))]))])]) (fr (some (wD w))) T1 = some (.ok .non (T ++ [.lst (wL ((done ++ [w]).flatMap nxt))])) := by
          refine ev_met (n := T.length) (ev_nm rfl) get_last (evs_cons (d := .lst [wD (w ++ [false]), wD (w ++ [true])]) (ev_lstF (evs_cons (ev_bin (ev_nm rfl) (ev_tup (evs_cons ev_cst evs_nil)) (add_bl (by omega))) (evs_cons (ev_bin (ev_nm rfl) (ev_tup (evs_cons ev_cst evs_nil)) (add_bl (by omega))) evs_nil))) evs_nil) ?_
          have hf : fits ((wL (done.flatMap nxt)).length + [wD (w ++ [false]), wD (w ++ [true])].length) = true := by
            rw [wL_len, hnl]; simp only [fits, List.length_cons, List.length_nil, decide_eq_true_eq]; omega
          show mtD m .extend (.ref T.length) [.lst [wD (w ++ [false]), wD (w ++ [true])]] T1 = _
          simp only [mtD, get_last, T1, extOf, lstOf, hf, barr, hm, decide_true, Bool.true_or, Bool.and_self, if_true, set_last]
          rw [List.flatMap_append]
          simp [wL, nxt, List.map_append]
        refine ⟨fr (some (wD w)), T ++ [.lst (wL ((done ++ [w]).flatMap nxt))], .inl ?_, hst _, done ++ [w], ⟨post, rfl, by rw [e1, List.append_assoc]; rfl⟩, some (wD w), rfl, rfl⟩
        show gcFl false _ (Vm.execs C evI (fr (some (wD w))) T1) = _
        rw [(execs_nx (exec_expr em)).trans execs_nil]
        rfl
  obtain ⟨post, hp, hj2⟩ := hdn
  have hpn : post = [] := by cases post with
    | nil => rfl
    | cons _ _ => simp [wL] at hp
  subst hpn
  rw [List.append_nil] at hj2
  have e3 : ev C.toCf (.nm 3) (fr y4') (T ++ [.lst (wL (done.flatMap nxt))]) = some (.ok (.ref T.length) (T ++ [.lst (wL (done.flatMap nxt))])) := ev_nm rfl
  obtain ⟨J, hJ⟩ := h.1
  refine ⟨some (.ref T.length), y4', .ref T.length, T ++ [.lst (wL (done.flatMap nxt))], (execs_nx e1).trans ((execs_nx ((exec_for it (hst _)).trans el)).trans ((execs_nx (exec_asg e3 rfl)).trans execs_nil)), ?_, by simp⟩
  rw [← hj2]
  exact Fnd.new (l := ws (j + 1)) J hJ
theorem every_run (k n : Nat) (S : Store) (hn : n ≤ 8) : ∃ x T, callR P (k + 1) 27 [.int (n : Int)] S = some (.ok x T) ∧ Fnd S T x (ws n) := by
  let C := cg k S.length
  let fr (y1 y2 y3 y4 : Option D) : Fr := [some (.int (n : Int)), y1, y2, y3, y4]
  have e1 : Vm.exec C (.asg (.nm 1) (.lst false [(.tup [])])) (fr none none none none) S = some (.ok (.nx (fr (some (.lst [.tup []])) none none none)) S) := exec_asg (ev_lstF (evs_cons (ev_tup evs_nil) evs_nil)) rfl
  have it : evIt C.toCf (.rng1 (.nm 0)) (fr (some (.lst [.tup []])) none none none) S = some (.ok ⟨rngL 0 n, none⟩ S) := by
    have := evIt_rng1 (C := C.toCf) (fr := fr (some (.lst [.tup []])) none none none) (S := S) (e := .nm 0) (j := (n : Int)) (ev_nm rfl) (by simp only [big62, Bool.and_eq_true, decide_eq_true_eq]; omega)
    rwa [Int.toNat_natCast] at this
  obtain ⟨fr', T', el, x, y2, y3, y4, j, rfl, hl, hF, hT⟩ := forGo_inv (f := fun d fr T => gcFl false T.length (bnd (lift (asgT (.nm 2) d fr) T) fun fr' S' => Vm.execs (C.up false T) evB fr' S')) (st := (Its.mk (rngL 0 n) none).still)
    (fun rest fr0 T1 => ∃ x y2 y3 y4, ∃ j : Nat, fr0 = fr (some x) y2 y3 y4 ∧ rest.length + j = n ∧ Fnd S T1 x (ws j) ∧ S.length ≤ T1.length) (rngL 0 n) (fr (some (.lst [.tup []])) none none none) S
    ⟨.lst [.tup []], none, none, none, 0, rfl, by simp [rngL], ⟨⟨[], by simp⟩, .inl rfl⟩, Nat.le_refl _⟩
    fun d r fr0 T1 ⟨x, y2, y3, y4, j, ef, hl, hF, hT⟩ => by
      subst ef
      rw [List.length_cons] at hl
      obtain ⟨y3', y4', x', T2, ee, hF', hT'⟩ := ev_turn k S.length j n S T1 x (some d) y3 y4 hT (by omega) hF
      exact ⟨_, T2, .inl ee, rfl, x', _, _, _, j + 1, rfl, by omega, hF', by omega⟩
  have hj : j = n := by simpa using hl
  subst hj
  refine ⟨x, T', run_def fd27 rfl ?_, hF⟩
  show Vm.execs C b27 (fr none none none none) S = _
  rw [b27]
  exact (execs_nx e1).trans ((execs_nx ((exec_for it rfl).trans el)).trans (execs_rt (exec_ret (ev_nm rfl))))
theorem every_call (k n : Nat) (S : Store) (hn : n ≤ 8) : gcOut S.length false (callR P (k + 1) 27 [.int (n : Int)] S) = some (.ok (.lst (wL (ws n))) S) := by
  obtain ⟨x, T, e, h⟩ := every_run k n S hn
  rw [e, h.plain]
end K55

/-! k55: the worlds that fit -/
namespace K55
open PySem Vm
abbrev Sp := Nat × Sy
def pD (q : Sp) : D := .tup [.int (q.1 : Int), sD q.2]
def psD (ps : List Sp) : D := .tup (ps.map pD)
def okP (n : Nat) (q : Sp) : Prop := q.1 < n ∧ okS n q.2 ∧ dp q.2 ≤ 6
def fit1 (w : W) (q : Sp) : Bool := tr w q.2 == at_ w q.1
def fitW (ps : List Sp) (w : W) : Bool := ps.all (fit1 w)
/-- the worlds that fit -/
def fw (n : Nat) (ps : List Sp) : List W := (ws n).filter (fitW ps)
theorem fw_len {n : Nat} {ps : List Sp} (h : n ≤ 8) : (fw n ps).length ≤ 256 := Nat.le_trans (List.length_filter_le _ _) (ws_le h)
theorem fw_mem {n : Nat} {ps : List Sp} {w : W} (h : w ∈ fw n ps) : w.length = n := ws_len n w (List.mem_filter.mp h).1
theorem cmp_neb {S : Store} {a b : Bool} : cmpD S .NotEq (.bl a) (.bl b) = some (!(a == b)) := rfl
/-! ### 28 -/
theorem fd28 : P.fd 28 = some ⟨2, 6, b28⟩ := rfl
abbrev lwL : Ex := .lc false (.tup [(.nm 4), (.nm 5)]) [4, 5] (.val (.nm 1)) [(.cmp .NotEq (.call 26 false [(.nm 3), (.nm 5)] [0, 1]) (.sub (.nm 3) (.nm 4)))] (.cst (.int 1))
abbrev lwB : List Vm.St := [(.ife (.cmp .Eq (.lc false (.tup [(.nm 4), (.nm 5)]) [4, 5] (.val (.nm 1)) [(.cmp .NotEq (.call 26 false [(.nm 3), (.nm 5)] [0, 1]) (.sub (.nm 3) (.nm 4)))] (.cst (.int 1))) (.lst false [])) [(.expr (.met .append (.nm 2) [(.nm 3)]))] [])]
theorem ones_ok : ∀ l : List D, (∀ d ∈ l, d = .int 1) → refsLts 0 l = true ∧ l.all (okD 19) = true := fun l h => ⟨refsLts_mem.mpr fun y hy => by rw [h y hy]; rfl, List.all_eq_true.mpr fun y hy => by rw [h y hy]; rfl⟩
def oneR (w : W) (q : Sp) : Option D := if fit1 w q then none else some (.int 1)
theorem oneR_nil (w : W) : ∀ ps : List Sp, (ps.filterMap (oneR w)).isEmpty = fitW ps w
  | [] => rfl
  | q :: ps => by
    have ih := oneR_nil w ps
    rw [List.filterMap_cons]
    unfold fitW at ih ⊢
    rw [List.all_cons, ← ih]
    cases hc : fit1 w q with
    | true => simp only [oneR, hc, if_true, Bool.true_and]
    | false => simp only [oneR, hc, Bool.false_eq_true, if_false, Bool.false_and, List.isEmpty_cons]
theorem lw_turn (k m n : Nat) (S : Store) (ps : List Sp) (acc : List W) (w : W) (y4 y5 : Option D) (hm : m ≤ S.length) (hw : w.length = n) (hps : ∀ q ∈ ps, okP n q) (hpl : ps.length ≤ 1000) (ha : acc.length ≤ 1000) :
    Vm.execs (cg (k + 6) m) lwB [some (.int (n : Int)), some (psD ps), some (.ref S.length), some (wD w), y4, y5] (S ++ [.lst (wL acc)]) = some (.ok (.nx [some (.int (n : Int)), some (psD ps), some (.ref S.length), some (wD w), y4, y5]) (S ++ [.lst (wL (if fitW ps w then acc ++ [w] else acc))])) := by
  let fr : Fr := [some (.int (n : Int)), some (psD ps), some (.ref S.length), some (wD w), y4, y5]
  let T : Store := S ++ [.lst (wL acc)]
  let C := cg (k + 6) m
  have e1 : ev C.toCf lwL fr T = some (.ok (.lst (ps.filterMap (oneR w))) T) := by
    rw [lc_fm pD (oneR w) ps (t := ⟨ps.map pD, none⟩) (S1 := T) (evIt_val (ev_nm (d := psD ps) rfl) rfl) rfl rfl (by omega) fun q hq => ?_]
    · rfl
    · obtain ⟨h1, h2, h3⟩ := hps q hq
      refine ⟨[some (.int (n : Int)), some (psD ps), some (.ref S.length), some (wD w), some (.int (q.1 : Int)), some (sD q.2)], rfl, ?_⟩
      have ec : ev C.toCf (.call 26 false [(.nm 3), (.nm 5)] [0, 1]) [some (.int (n : Int)), some (psD ps), some (.ref S.length), some (wD w), some (.int (q.1 : Int)), some (sD q.2)] T = some (.ok (.bl (tr w q.2)) T) := by
        refine ev_c2 (x := wD w) (y := sD q.2) (S1 := T) (S2 := T) (ev_nm rfl) (ev_nm rfl) ?_
        rw [show C.toCf.call = callR P (k + 6) from rfl]
        exact lt_call w q.2 (k + 6) T (by rw [hw]; exact h2) (by omega)
      have t := tsts_1 (tst_cmp ec (ev_sub (ev_nm (i := 3) rfl) (ev_nm (i := 4) rfl) (at_get (S := T) (w := w) (p := q.1) (by omega))) cmp_neb)
      cases hc : fit1 w q with
      | true =>
        have hc' : (tr w q.2 == at_ w q.1) = true := hc
        rw [hc'] at t
        exact .inl ⟨t, by simp only [oneR, hc, if_true]⟩
      | false =>
        have hc' : (tr w q.2 == at_ w q.1) = false := hc
        rw [hc'] at t
        exact .inr ⟨t, .int 1, ev_cst, by simp only [oneR, hc, Bool.false_eq_true, if_false]⟩
  obtain ⟨o1, o2⟩ := ones_ok (ps.filterMap (oneR w)) fun d hd => by
    obtain ⟨q, _, e⟩ := List.mem_filterMap.mp hd
    unfold oneR at e
    split at e
    · cases e
    · cases e; rfl
  have et : tst C.toCf (.cmp .Eq lwL (.lst false [])) fr T = some (.ok (fitW ps w) T) := tst_cmp e1 (ev_lstF evs_nil) (by rw [← oneR_nil]; exact eqS_lst0 o1 o2)
  have em : ev C.toCf (.met .append (.nm 2) [(.nm 3)]) fr T = some (.ok .non (S ++ [.lst (wL (acc ++ [w]))])) := by
    refine ev_met (n := S.length) (ev_nm rfl) get_last (evs_cons (ev_nm rfl) evs_nil) ?_
    have hf : fits (wL acc).length = true := by rw [wL_len]; simp only [fits, decide_eq_true_eq]; omega
    show mtD m .append (.ref S.length) [wD w] T = _
    simp only [mtD, get_last, T, hf, barr, hm, decide_true, Bool.true_or, Bool.and_self, if_true, set_last]
    simp [wL]
  cases hf : fitW ps w with
  | true =>
    rw [hf] at et
    exact (execs_nx ((exec_ifT et).trans ((execs_nx (exec_expr em)).trans execs_nil))).trans execs_nil
  | false =>
    rw [hf] at et
    exact (execs_nx ((exec_ifF et).trans execs_nil)).trans execs_nil
theorem lworlds_call (k n : Nat) (S : Store) (ps : List Sp) (hn : n ≤ 8) (hps : ∀ q ∈ ps, okP n q) (hpl : ps.length ≤ 1000) : gcOut S.length false (callR P (k + 7) 28 [.int (n : Int), psD ps] S) = some (.ok (.lst (wL (fw n ps))) S) := by
  let C := cg (k + 6) S.length
  let fr (y2 y3 : Option D) : Fr := [some (.int (n : Int)), some (psD ps), y2, y3, none, none]
  let f2 (y3 : Option D) : Fr := fr (some (.ref S.length)) y3
  have e1 : Vm.exec C (.asg (.nm 2) (.lst true [])) (fr none none) S = some (.ok (.nx (f2 none)) (S ++ [.lst []])) := exec_asg (ev_lstT evs_nil) rfl
  have it : evIt C.toCf (.val (.call 27 false [(.nm 0)] [0])) (f2 none) (S ++ [.lst []]) = some (.ok ⟨wL (ws n), none⟩ (S ++ [.lst []])) := by
    refine evIt_val (d := .lst (wL (ws n))) (ev_c1 (x := .int (n : Int)) (S1 := S ++ [.lst []]) (ev_nm rfl) ?_) rfl
    rw [cg_call]; exact every_call (k + 5) n _ hn
  obtain ⟨fr', T', el, done, ⟨post, hp, hw⟩, y3, rfl, rfl⟩ := forGo_inv (f := fun d fr T => gcFl false T.length (bnd (lift (asgT (.nm 3) d fr) T) fun fr' S' => Vm.execs (C.up false T) lwB fr' S')) (st := (Its.mk (wL (ws n)) none).still)
    (fun rest fr0 T1 => ∃ done, (∃ post, rest = wL post ∧ ws n = done ++ post) ∧ ∃ y3, fr0 = f2 y3 ∧ T1 = S ++ [.lst (wL (done.filter (fitW ps)))]) (wL (ws n)) (f2 none) (S ++ [.lst []]) ⟨[], ⟨ws n, rfl, rfl⟩, none, rfl, rfl⟩
    fun d r fr0 T1 ⟨done, ⟨post, e0, e1⟩, y3, ef, eT⟩ => by
      subst ef eT
      cases post with
      | nil => simp [wL] at e0
      | cons w post =>
        obtain ⟨rfl, rfl⟩ : d = wD w ∧ r = wL post := by simpa [wL] using e0
        have hw : w.length = n := ws_len n w (by rw [e1]; simp)
        have hlen : (done ++ w :: post).length ≤ 256 := by rw [← e1]; exact ws_le hn
        rw [List.length_append] at hlen
        have hfl := List.length_filter_le (fitW ps) done
        have ee := lw_turn k S.length n S ps (done.filter (fitW ps)) w none none (Nat.le_refl _) hw hps hpl (by omega)
        refine ⟨f2 (some (wD w)), _, .inl ee, rfl, done ++ [w], ⟨post, rfl, by rw [e1, List.append_assoc]; rfl⟩, some (wD w), rfl, ?_⟩
        rw [List.filter_append, List.filter_cons, List.filter_nil]
        cases fitW ps w <;> simp
  have hpn : post = [] := by cases post with
    | nil => rfl
    | cons _ _ => simp [wL] at hp
  subst hpn
  rw [List.append_nil] at hw
  have run : callR P (k + 7) 28 [.int (n : Int), psD ps] S = some (.ok (.ref S.length) (S ++ [.lst (wL (done.filter (fitW ps)))])) := by
    refine run_def fd28 rfl ?_
    show Vm.execs C b28 (fr none none) S = _
    rw [b28]
    exact (execs_nx e1).trans ((execs_nx ((exec_for it rfl).trans el)).trans (execs_rt (exec_ret (ev_nm rfl))))
  rw [run, ← hw]
  exact gc_box get_last (Nat.le_refl _) (wL_refs _ _)
/-! ### 16 -/
theorem fd16 : P.fd 16 = some ⟨1, 5, b16⟩ := rfl
theorem ev_tupS {C : Cf} {fr : Fr} {S S1 S2 : Store} {a : Ex} {es : List Ex} {x : D} {xs ds : List D} (h : ev C a fr S = some (.ok x S1)) (hx : seqOf S1 x = some xs) (h2 : evs C es fr S1 = some (.ok ds S2)) (hf : fits xs.length = true) : ev C (.tupS a es) fr S = some (.ok (.tup (xs ++ ds)) S2) := by
  rw [ev]; show bnd (ev C a fr S) _ = _; rw [h, bnd_ok, hx]
  show bnd (evs C es fr S1) _ = _; rw [h2, bnd_ok]; simp only [hf, if_true]; rfl
abbrev awE : Ex := .lc2 true (.nm 3) [3, 4] (.val (.nm 1)) [] (.nm 4) [4] (.val (.tup [(.cst (.bl false)), (.cst (.bl true))])) [] (.tupS (.nm 3) [(.nm 4)])
def nxD : D → List D
  | .tup ds => [.tup (ds ++ [.bl false]), .tup (ds ++ [.bl true])]
  | _ => []
theorem nxD_flat : ∀ l : List W, (wL l).flatMap nxD = wL (l.flatMap nxt)
  | [] => rfl
  | w :: l => by
    show ((wD w) :: wL l).flatMap nxD = _
    rw [List.flatMap_cons, List.flatMap_cons, nxD_flat l]
    unfold wL
    rw [List.map_append]
    congr 1
    show [D.tup (w.map D.bl ++ [.bl false]), .tup (w.map D.bl ++ [.bl true])] = [wD (w ++ [false]), wD (w ++ [true])]
    rw [wD_app, wD_app]
theorem aw_ev (k m j n : Nat) (S T : Store) (x : D) (y2 y3 y4 : Option D) (hj : j < 8) (h : Fnd S T x (ws j)) :
    ev (cg k m).toCf awE [some (.int (n : Int)), some x, y2, y3, y4] T = some (.ok (.ref T.length) (T ++ [.lst (wL (ws (j + 1)))])) := by
  obtain ⟨t, ht, hds, hst⟩ := h.items
  have hs : t.still T = true := by have := hst []; rwa [List.append_nil] at this
  have hl : (ws j).length ≤ 256 := ws_le (by omega)
  have hl2 : (ws (j + 1)).length ≤ 256 := ws_le (by omega)
  rw [lc2_t nxD (evIt_val (ev_nm rfl) ht) hs (by rw [hds, wL_len]; omega) (by rw [hds, nxD_flat, wL_len]; show (ws (j + 1)).length ≤ _; omega) fun d hd => ?_]
  · rw [hds, nxD_flat]; rfl
  · rw [hds] at hd
    obtain ⟨w, hw, rfl⟩ := List.mem_map.mp hd
    have hwl : w.length = j := ws_len j w hw
    let f (y4 : Option D) : Fr := [some (.int (n : Int)), some x, y2, some (wD w), y4]
    refine ⟨f none, [.bl false, .bl true], fun d1 => some (.tup (w.map D.bl ++ [d1])), rfl, tsts_nil, evIt_val (ev_tup (evs_cons ev_cst (evs_cons ev_cst evs_nil))) rfl, by simp, rfl, fun d1 hd1 => ⟨f (some d1), rfl, tsts_nil, _, ev_tupS (x := wD w) (xs := w.map D.bl) (ds := [d1]) (ev_nm rfl) rfl (evs_cons (ev_nm rfl) evs_nil) (by simp only [fits, decide_eq_true_eq, List.length_map]; omega), rfl⟩⟩
theorem all_run (k n : Nat) (S : Store) (h1 : 1 ≤ n) (hn : n ≤ 8) : ∃ i T, callR P (k + 1) 16 [.int (n : Int)] S = some (.ok (.ref i) T) ∧ Fnd S T (.ref i) (ws n) := by
  let C := cg k S.length
  let fr (y1 y2 y3 y4 : Option D) : Fr := [some (.int (n : Int)), y1, y2, y3, y4]
  have e1 : Vm.exec C (.asg (.nm 1) (.lst false [(.tup [])])) (fr none none none none) S = some (.ok (.nx (fr (some (.lst [.tup []])) none none none)) S) := exec_asg (ev_lstF (evs_cons (ev_tup evs_nil) evs_nil)) rfl
  have it : evIt C.toCf (.rng1 (.nm 0)) (fr (some (.lst [.tup []])) none none none) S = some (.ok ⟨rngL 0 n, none⟩ S) := by
    have := evIt_rng1 (C := C.toCf) (fr := fr (some (.lst [.tup []])) none none none) (S := S) (e := .nm 0) (j := (n : Int)) (ev_nm rfl) (by simp only [big62, Bool.and_eq_true, decide_eq_true_eq]; omega)
    rwa [Int.toNat_natCast] at this
  obtain ⟨fr', T', el, x, y2, j, rfl, hl, hF, hx⟩ := forGo_inv (f := fun d fr T => gcFl false T.length (bnd (lift (asgT (.nm 2) d fr) T) fun fr' S' => Vm.execs (C.up false T) [(.asg (.nm 1) awE)] fr' S')) (st := (Its.mk (rngL 0 n) none).still)
    (fun rest fr0 T1 => ∃ x y2, ∃ j : Nat, fr0 = fr (some x) y2 none none ∧ rest.length + j = n ∧ Fnd S T1 x (ws j) ∧ (1 ≤ j → ∃ i, x = .ref i)) (rngL 0 n) (fr (some (.lst [.tup []])) none none none) S
    ⟨.lst [.tup []], none, 0, rfl, by simp [rngL], ⟨⟨[], by simp⟩, .inl rfl⟩, by omega⟩
    fun d r fr0 T1 ⟨x, y2, j, ef, hl, hF, hx⟩ => by
      subst ef
      rw [List.length_cons] at hl
      obtain ⟨J, hJ⟩ := hF.1
      have ee := aw_ev k S.length j n S T1 x (some d) none none (by omega) hF
      exact ⟨_, _, .inl ((execs_nx (exec_asg (fr' := fr (some (.ref T1.length)) (some d) none none) ee rfl)).trans execs_nil), rfl, .ref T1.length, some d, j + 1, rfl, by omega, Fnd.new J hJ, fun _ => ⟨_, rfl⟩⟩
  have hj : j = n := by simpa using hl
  subst hj
  obtain ⟨i, rfl⟩ := hx h1
  refine ⟨i, T', run_def fd16 rfl ?_, hF⟩
  show Vm.execs C b16 (fr none none none none) S = _
  rw [b16]
  exact (execs_nx e1).trans ((execs_nx ((exec_for it rfl).trans el)).trans (execs_rt (exec_ret (ev_nm rfl))))
/-! ### 17 -/
theorem fd17 : P.fd 17 = some ⟨2, 6, b17⟩ := rfl
abbrev ftE : Ex := .lc true (.nm 5) [5] (.val (.nm 2)) [(.cmp .Eq (.call 12 false [(.nm 5), (.nm 4)] [0, 1]) (.sub (.nm 5) (.nm 3)))] (.nm 5)
theorem ft_ev (k m n : Nat) (S T : Store) (x : D) (q : Sp) (x1 y5 : Option D) (l : List W) (hl : ∀ w ∈ l, w.length = n) (hll : l.length ≤ 1000) (hq : okP n q) (h : Fnd S T x l) :
    ev (cg (k + 7) m).toCf ftE [some (.int (n : Int)), x1, some x, some (.int (q.1 : Int)), some (sD q.2), y5] T = some (.ok (.ref T.length) (T ++ [.lst (wL (l.filter fun w => fit1 w q))])) := by
  obtain ⟨t, ht, hds, hst⟩ := h.items
  have hs : t.still T = true := by have := hst []; rwa [List.append_nil] at this
  obtain ⟨h1, h2, h3⟩ := hq
  rw [lc_fm wD (fun w => if fit1 w q then some (wD w) else none) l (evIt_val (ev_nm rfl) ht) hds hs (by omega) fun w hw => ?_]
  · have : ∀ l : List W, l.filterMap (fun w => if fit1 w q then some (wD w) else none) = wL (l.filter fun w => fit1 w q) := fun l => by
      induction l with
      | nil => rfl
      | cons w l ih =>
        rw [List.filterMap_cons, List.filter_cons, ih]
        by_cases hc : fit1 w q = true
        · simp only [hc, if_true]; rfl
        · simp only [hc, if_false]; rfl
    rw [this]; rfl
  · have hwl := hl w hw
    let f : Fr := [some (.int (n : Int)), x1, some x, some (.int (q.1 : Int)), some (sD q.2), some (wD w)]
    refine ⟨f, rfl, ?_⟩
    have ec : ev (cg (k + 7) m).toCf (.call 12 false [(.nm 5), (.nm 4)] [0, 1]) f T = some (.ok (.bl (tr w q.2)) T) := by
      refine ev_c2 (x := wD w) (y := sD q.2) (S1 := T) (S2 := T) (ev_nm rfl) (ev_nm rfl) ?_
      rw [show (cg (k + 7) m).toCf.call = callR P (k + 7) from rfl]
      exact tr_call w q.2 (k + 7) T (by rw [hwl]; exact h2) (by omega)
    have t := tsts_1 (tst_cmp ec (ev_sub (ev_nm (i := 5) rfl) (ev_nm (i := 3) rfl) (at_get (S := T) (w := w) (p := q.1) (by omega))) cmp_bl)
    cases hc : fit1 w q with
    | true =>
      have hc' : (tr w q.2 == at_ w q.1) = true := hc
      rw [hc'] at t
      exact .inr ⟨t, wD w, ev_nm rfl, by simp⟩
    | false =>
      have hc' : (tr w q.2 == at_ w q.1) = false := hc
      rw [hc'] at t
      exact .inl ⟨t, by simp⟩
theorem fw_snoc (n : Nat) (ps : List Sp) (q : Sp) : (fw n ps).filter (fun w => fit1 w q) = fw n (ps ++ [q]) := by
  unfold fw
  rw [List.filter_filter]
  refine List.filter_congr fun w _ => ?_
  unfold fitW
  rw [List.all_append, List.all_cons, List.all_nil, Bool.and_true, Bool.and_comm]
theorem fw_nil (n : Nat) : fw n [] = ws n := by
  unfold fw
  rw [List.filter_eq_self]
  exact fun _ _ => rfl
theorem fit_run (k n : Nat) (S : Store) (ps : List Sp) (h1 : 1 ≤ n) (hn : n ≤ 8) (hps : ∀ q ∈ ps, okP n q) : ∃ i T, callR P (k + 8) 17 [.int (n : Int), psD ps] S = some (.ok (.ref i) T) ∧ Fnd S T (.ref i) (fw n ps) := by
  let C := cg (k + 7) S.length
  let fr (y2 y3 y4 : Option D) : Fr := [some (.int (n : Int)), some (psD ps), y2, y3, y4, none]
  obtain ⟨i0, T0, e0, hF0⟩ := all_run (k + 6) n S h1 hn
  have e1 : ev C.toCf (.call 16 true [(.nm 0)] [0]) (fr none none none) S = some (.ok (.ref S.length) (S ++ [.lst (wL (ws n))])) := by
    refine ev_call (ds' := [.int (n : Int)]) (evs_cons (ev_nm (d := .int (n : Int)) rfl) evs_nil) rfl ?_
    rw [show C.toCf.call = callR P (k + 7) from rfl, e0, hF0.box]
  have it : evIt C.toCf (.val (.nm 1)) (fr (some (.ref S.length)) none none) (S ++ [.lst (wL (ws n))]) = some (.ok ⟨ps.map pD, none⟩ (S ++ [.lst (wL (ws n))])) := evIt_val (ev_nm (d := psD ps) rfl) rfl
  have hstart : Fnd S (S ++ [.lst (wL (ws n))]) (.ref S.length) (fw n []) := by rw [fw_nil]; exact Fnd.new [] (by simp)
  obtain ⟨fr', T', el, done, ⟨post, hp, hw⟩, i, y3, y4, rfl, hF⟩ := forGo_inv (f := fun d fr T => gcFl false T.length (bnd (lift (asgT (.tup [.nm 3, .nm 4]) d fr) T) fun fr' S' => Vm.execs (C.up false T) [(.asg (.nm 2) ftE)] fr' S')) (st := (Its.mk (ps.map pD) none).still)
    (fun rest fr0 T1 => ∃ done, (∃ post, rest = post.map pD ∧ ps = done ++ post) ∧ ∃ i y3 y4, fr0 = fr (some (.ref i)) y3 y4 ∧ Fnd S T1 (.ref i) (fw n done)) (ps.map pD) (fr (some (.ref S.length)) none none) (S ++ [.lst (wL (ws n))]) ⟨[], ⟨ps, rfl, rfl⟩, _, none, none, rfl, hstart⟩
    fun d r fr0 T1 ⟨done, ⟨post, e0, e1⟩, i, y3, y4, ef, hF⟩ => by
      subst ef
      cases post with
      | nil => simp at e0
      | cons q post =>
        obtain ⟨rfl, rfl⟩ : d = pD q ∧ r = post.map pD := by simpa using e0
        have hq := hps q (by rw [e1]; simp)
        have hll := fw_len (ps := done) hn
        obtain ⟨J, hJ⟩ := hF.1
        have ee := ft_ev k S.length n S T1 (.ref i) q (some (psD ps)) none (fw n done) (fun w hw => fw_mem hw) (by omega) hq hF
        rw [fw_snoc] at ee
        exact ⟨_, _, .inl ((execs_nx (exec_asg (fr' := fr (some (.ref T1.length)) (some (.int (q.1 : Int))) (some (sD q.2))) ee rfl)).trans execs_nil), rfl, done ++ [q], ⟨post, rfl, by rw [e1, List.append_assoc]; rfl⟩, T1.length, _, _, rfl, Fnd.new J hJ⟩
  have hpn : post = [] := by cases post with
    | nil => rfl
    | cons _ _ => simp at hp
  subst hpn
  rw [List.append_nil] at hw
  refine ⟨i, T', run_def fd17 rfl ?_, hw ▸ hF⟩
  show Vm.execs C b17 (fr none none none) S = _
  rw [b17]
  exact (execs_nx (exec_asg (fr' := fr (some (.ref S.length)) none none) e1 rfl)).trans ((execs_nx ((exec_for it rfl).trans el)).trans (execs_rt (exec_ret (ev_nm rfl))))
theorem fit_box (k n : Nat) (S : Store) (ps : List Sp) (h1 : 1 ≤ n) (hn : n ≤ 8) (hps : ∀ q ∈ ps, okP n q) : gcOut S.length true (callR P (k + 8) 17 [.int (n : Int), psD ps] S) = some (.ok (.ref S.length) (S ++ [.lst (wL (fw n ps))])) := by
  obtain ⟨i, T, e, h⟩ := fit_run k n S ps h1 hn hps
  rw [e, h.box]
theorem fit_call (k n : Nat) (S : Store) (ps : List Sp) (h1 : 1 ≤ n) (hn : n ≤ 8) (hps : ∀ q ∈ ps, okP n q) : gcOut S.length false (callR P (k + 8) 17 [.int (n : Int), psD ps] S) = some (.ok (.lst (wL (fw n ps))) S) := by
  obtain ⟨i, T, e, h⟩ := fit_run k n S ps h1 hn hps
  rw [e, h.plain]
end K55

/-! k55: what is checked, what is answered -/
namespace K55
open PySem Vm
theorem fd6 : P.fd 6 = some ⟨3, 3, b6⟩ := rfl
theorem num_ok (k : Nat) (q : D) (S : Store) {t : String} (ht : tyName S q = some t) (h : isIn 1 8 q = true) : gcOut S.length false (callR P (k + 3) 6 [q, .int 1, .int 8] S) = some (.ok .non S) := by
  refine nx_def fd6 rfl ?_ (fr := [some q, some (.int 1), some (.int 8)])
  show Vm.execs (cg (k + 2) S.length) b6 [some q, some (.int 1), some (.int 8)] S = _
  have e1 : ev (cg (k + 2) S.length).toCf (.call 1 false [(.nm 0), (.nm 1), (.nm 2)] [0, 1, 2]) [some q, some (.int 1), some (.int 8)] S = some (.ok (.bl true) S) := by
    refine ev_c3 (x := q) (y := .int 1) (z := .int 8) (S1 := S) (S2 := S) (S3 := S) (ev_nm rfl) (ev_nm rfl) (ev_nm rfl) ?_
    have e := betw_call k (S := S) 1 8 ht
    rw [h] at e
    rw [cg_call]; exact e
  rw [b6]
  exact (execs_nx ((exec_ifF (tst_neg (tst_vb e1))).trans execs_nil)).trans execs_nil
theorem num_ex (k n : Nat) (q : D) (S : Store) (hq : sd n q = true) (h : isIn 1 8 q = false) : gcOut S.length false (callR P (k + 3) 6 [q, .int 1, .int 8] S) = some (.ex 1 [q] S) := by
  obtain ⟨t, ht⟩ := ty_of S hq
  refine ex_def fd6 rfl ?_ (by simp [refsLts, sd_refs hq])
  show Vm.execs (cg (k + 2) S.length) b6 [some q, some (.int 1), some (.int 8)] S = _
  have e1 : ev (cg (k + 2) S.length).toCf (.call 1 false [(.nm 0), (.nm 1), (.nm 2)] [0, 1, 2]) [some q, some (.int 1), some (.int 8)] S = some (.ok (.bl false) S) := by
    refine ev_c3 (x := q) (y := .int 1) (z := .int 8) (S1 := S) (S2 := S) (S3 := S) (ev_nm rfl) (ev_nm rfl) (ev_nm rfl) ?_
    have e := betw_call k (S := S) 1 8 ht
    rw [h] at e
    rw [cg_call]; exact e
  rw [b6]
  exact execs_ex ((exec_ifT (tst_neg (tst_vb e1))).trans (execs_ex (exec_rse (evs_cons (ev_nm rfl) evs_nil))))
/-! ### 14 -/
def saysB (m : Nat) : D → Bool
  | .tup ds => decide (ds.length ≤ 12) && ds.all (saidB m)
  | _ => false
theorem fd14 : P.fd 14 = some ⟨2, 3, b14⟩ := rfl
abbrev ckN : Ex := .call 6 false [(.nm 0), (.cst (.int 1)), (.glb ("MOST_PEOPLE" : Str))] [0, 1, 2]
abbrev ckT : Te := .disj [(.neg (.v (.isi (.nm 1) [.tuple]))), (.cmp .Gt (.blt .len false [(.nm 1)]) (.glb ("MOST_SAYINGS" : Str)))]
theorem ckN_ev (k n : Nat) (fr : Fr) (S : Store) (h0 : getFr fr 0 = some (.int (n : Int))) (h1 : 1 ≤ n) (h8 : n ≤ 8) : ev (cg (k + 3) S.length).toCf ckN fr S = some (.ok .non S) := by
  refine ev_c3 (x := .int (n : Int)) (y := .int 1) (z := .int 8) (S1 := S) (S2 := S) (S3 := S) (ev_nm h0) ev_cst (glb_ev (C := cg (k + 3) S.length) rfl rfl rfl) ?_
  rw [cg_call]
  exact num_ok k _ S rfl (by simp only [isIn, Bool.and_eq_true, decide_eq_true_eq]; omega)
theorem says_num (k n : Nat) (q y : D) (S : Store) (hq : sd n q = true) (h : isIn 1 8 q = false) : gcOut S.length false (callR P (k + 4) 14 [q, y] S) = some (.ex 1 [q] S) := by
  refine ex_def fd14 rfl ?_ (by simp [refsLts, sd_refs hq])
  show Vm.execs (cg (k + 3) S.length) b14 [some q, some y, none] S = _
  have e1 : ev (cg (k + 3) S.length).toCf ckN [some q, some y, none] S = some (.ex 1 [q] S) := by
    refine ev_c3 (x := q) (y := .int 1) (z := .int 8) (S1 := S) (S2 := S) (S3 := S) (ev_nm rfl) ev_cst (glb_ev (C := cg (k + 3) S.length) rfl rfl rfl) ?_
    rw [cg_call]
    exact num_ex k n q S hq h
  rw [b14]
  exact execs_ex (exec_exprX e1)
theorem says_tst (k n m : Nat) (x : D) (S : Store) (h1 : 1 ≤ n) (h8 : n ≤ 8) (hx : sd m x = true) (hm : m ≤ 20) :
    (saysB n x = true ∧ gcOut S.length false (callR P (k + 9) 14 [.int (n : Int), x] S) = some (.ok .non S)) ∨ (saysB n x = false ∧ gcOut S.length false (callR P (k + 9) 14 [.int (n : Int), x] S) = some (.ex 3 [x] S)) := by
  obtain ⟨t, ht⟩ := ty_of S hx
  let C := cg (k + 8) S.length
  let fr : Fr := [some (.int (n : Int)), some x, none]
  have hr : refsLts S.length [x] = true := by simp [refsLts, sd_refs hx]
  have e0 : Vm.exec C (.expr ckN) fr S = some (.ok (.nx fr) S) := exec_expr (ckN_ev (k + 5) n fr S rfl h1 h8)
  have er : ∀ {r : List Vm.St}, Vm.execs C (.rse 3 [(.nm 1)] :: r) fr S = some (.ex 3 [x] S) := fun {r} => execs_ex (exec_rse (evs_cons (ev_nm rfl) evs_nil))
  have e1 : ev C.toCf (.isi (.nm 1) [.tuple]) fr S = some (.ok (.bl (isTup x)) S) := isi_tup rfl ht
  by_cases hi : isTup x = true
  rotate_left
  · have hi' : isTup x = false := by simpa using hi
    rw [hi'] at e1
    refine .inr ⟨by cases x <;> first | rfl | simp [isTup] at hi', ex_def fd14 rfl ?_ hr⟩
    show Vm.execs C b14 fr S = _
    rw [b14]
    exact (execs_nx e0).trans (execs_ex ((exec_ifT (tst_disj.trans (tsDisj_T (tst_neg (tst_vb e1))))).trans er))
  obtain ⟨ds, rfl⟩ : ∃ v, x = .tup v := by cases x <;> first | exact ⟨_, rfl⟩ | simp [isTup] at hi
  rw [hi] at e1
  obtain ⟨m, rfl⟩ : ∃ j, m = j + 1 := by cases m with
    | zero => simp [sd] at hx
    | succ m => exact ⟨m, rfl⟩
  obtain ⟨hl, hmem⟩ := sd_len hx (.inl rfl)
  have t2 : tst C.toCf (.cmp .Gt (.blt .len false [(.nm 1)]) (.glb ("MOST_SAYINGS" : Str))) fr S = some (.ok (decide ((12 : Int) < ((ds.length : Nat) : Int))) S) := tst_cmp (ev_blt (z := .int ((ds.length : Nat) : Int)) (evs_cons (ev_nm rfl) evs_nil) rfl) (glb_ev (C := C) (d := .int 12) rfl rfl rfl) rfl
  by_cases h12 : ds.length ≤ 12
  rotate_left
  · rw [decide_eq_true (by omega)] at t2
    refine .inr ⟨by simp [saysB, h12], ex_def fd14 rfl ?_ hr⟩
    show Vm.execs C b14 fr S = _
    rw [b14]
    exact (execs_nx e0).trans (execs_ex ((exec_ifT (tst_disj.trans ((tsDisj_F (tst_neg (tst_vb e1))).trans (tsDisj_T t2)))).trans er))
  rw [decide_eq_false (by omega)] at t2
  have tF := tst_disj.trans ((tsDisj_F (tst_neg (tst_vb e1))).trans ((tsDisj_F t2).trans tsDisj_nil))
  have e3 : ev C.toCf (.blt .all false [(.lc false (.nm 2) [2] (.val (.nm 1)) [] (.call 11 false [(.nm 0), (.nm 2)] [0, 1]))]) fr S = some (.ok (.bl (ds.all (saidB n))) S) := by
    refine ev_all (saidB n) (evIt_val (ev_nm (d := .tup ds) rfl) rfl) (by omega) fun d hd => ⟨[some (.int (n : Int)), some (.tup ds), some d], rfl, ?_⟩
    refine ev_c2 (x := .int (n : Int)) (y := d) (S1 := S) (S2 := S) (ev_nm rfl) (ev_nm rfl) ?_
    rw [show C.toCf.call = callR P (k + 8) from rfl]
    exact said_call k m n d S (hmem d hd) (by omega)
  cases ha : ds.all (saidB n) with
  | true =>
    rw [ha] at e3
    refine .inl ⟨by simp [saysB, h12, ha], nx_def fd14 rfl (fr := fr) ?_⟩
    show Vm.execs C b14 fr S = _
    rw [b14]
    exact (execs_nx e0).trans ((execs_nx ((exec_ifF tF).trans execs_nil)).trans ((execs_nx ((exec_ifF (tst_neg (tst_vb e3))).trans execs_nil)).trans execs_nil))
  | false =>
    rw [ha] at e3
    refine .inr ⟨by simp [saysB, ha], ex_def fd14 rfl ?_ hr⟩
    show Vm.execs C b14 fr S = _
    rw [b14]
    exact (execs_nx e0).trans ((execs_nx ((exec_ifF tF).trans execs_nil)).trans (execs_ex ((exec_ifT (tst_neg (tst_vb e3))).trans er)))
theorem pD_sd {n : Nat} {q : Sp} (h : okP n q) : sd 8 (pD q) = true := two_tup (int_sd 7 _) (sd_up (sD_sd q.2 h.2.1) (by have := h.2.2; omega))
theorem psD_sd {n : Nat} {ps : List Sp} (h : ∀ q ∈ ps, okP n q) (hl : ps.length ≤ 12) : sd 9 (psD ps) = true := by
  have : (ps.map pD).all (sd 8) = true := by
    rw [List.all_eq_true]
    intro d hd
    obtain ⟨q, hq, rfl⟩ := List.mem_map.mp hd
    exact pD_sd (h q hq)
  show (decide _ && (ps.map pD).all (sd 8)) = true
  rw [this, decide_eq_true (by rw [List.length_map]; omega)]; rfl
theorem psD_ok {n : Nat} {ps : List Sp} (h : ∀ q ∈ ps, okP n q) (hl : ps.length ≤ 12) : saysB n (psD ps) = true := by
  show (decide _ && (ps.map pD).all (saidB n)) = true
  have : (ps.map pD).all (saidB n) = true := by
    rw [List.all_eq_true]
    intro d hd
    obtain ⟨q, hq, rfl⟩ := List.mem_map.mp hd
    obtain ⟨h1, h2, h3⟩ := h q hq
    show (isIn 0 ((n : Int) - 1) (.int (q.1 : Int)) && sayB n 6 [sD q.2]) = true
    rw [in_p h1, say_one h2 h3]; rfl
  rw [this, decide_eq_true (by rw [List.length_map]; exact hl)]; rfl
theorem says_ok (k n : Nat) (S : Store) (ps : List Sp) (h1 : 1 ≤ n) (h8 : n ≤ 8) (h : ∀ q ∈ ps, okP n q) (hl : ps.length ≤ 12) : gcOut S.length false (callR P (k + 9) 14 [.int (n : Int), psD ps] S) = some (.ok .non S) := by
  rcases says_tst k n 9 (psD ps) S h1 h8 (psD_sd h hl) (by omega) with ⟨_, e⟩ | ⟨e, _⟩
  · exact e
  · rw [psD_ok h hl] at e; cases e
/-! ### 15 -/
theorem fd15 : P.fd 15 = some ⟨2, 2, b15⟩ := rfl
theorem saying_tst (k n m : Nat) (x : D) (S : Store) (hx : sd m x = true) (hm : m ≤ 19) :
    (sayB n 6 [x] = true ∧ gcOut S.length false (callR P (k + 8) 15 [.int (n : Int), x] S) = some (.ok .non S)) ∨ (sayB n 6 [x] = false ∧ gcOut S.length false (callR P (k + 8) 15 [.int (n : Int), x] S) = some (.ex 2 [x] S)) := by
  let C := cg (k + 7) S.length
  let fr : Fr := [some (.int (n : Int)), some x]
  have e1 : ev C.toCf (.call 10 false [(.nm 0), (.nm 1)] [0, 1]) fr S = some (.ok (.bl (sayB n 6 [x])) S) := by
    refine ev_c2 (x := .int (n : Int)) (y := x) (S1 := S) (S2 := S) (ev_nm rfl) (ev_nm rfl) ?_
    rw [show C.toCf.call = callR P (k + 7) from rfl]
    exact say_call k m n x S hx hm
  cases ha : sayB n 6 [x] with
  | true =>
    rw [ha] at e1
    refine .inl ⟨rfl, nx_def fd15 rfl (fr := fr) ?_⟩
    show Vm.execs C b15 fr S = _
    rw [b15]
    exact (execs_nx ((exec_ifF (tst_neg (tst_vb e1))).trans execs_nil)).trans execs_nil
  | false =>
    rw [ha] at e1
    refine .inr ⟨rfl, ex_def fd15 rfl ?_ (by simp [refsLts, sd_refs hx])⟩
    show Vm.execs C b15 fr S = _
    rw [b15]
    exact execs_ex ((exec_ifT (tst_neg (tst_vb e1))).trans (execs_ex (exec_rse (evs_cons (ev_nm rfl) evs_nil))))
/-! ### 18, 19, 20 -/
theorem fd18 : P.fd 18 = some ⟨2, 2, b18⟩ := rfl
theorem fd19 : P.fd 19 = some ⟨2, 3, b19⟩ := rfl
theorem fd20 : P.fd 20 = some ⟨3, 5, b20⟩ := rfl
section
variable (k n : Nat) (S : Store) (ps : List Sp) (h1 : 1 ≤ n) (h8 : n ≤ 8) (h : ∀ q ∈ ps, okP n q) (hl : ps.length ≤ 12)
theorem ck_ev (fr : Fr) (h0 : getFr fr 0 = some (.int (n : Int))) (hp : getFr fr 1 = some (psD ps)) (h1 : 1 ≤ n) (h8 : n ≤ 8) (h : ∀ q ∈ ps, okP n q) (hl : ps.length ≤ 12) : ev (cg (k + 9) S.length).toCf (.call 14 false [(.nm 0), (.nm 1)] [0, 1]) fr S = some (.ok .non S) := by
  refine ev_c2 (x := .int (n : Int)) (y := psD ps) (S1 := S) (S2 := S) (ev_nm h0) (ev_nm hp) ?_
  rw [cg_call]; exact says_ok k n S ps h1 h8 h hl
theorem fit_ev (fr : Fr) (h0 : getFr fr 0 = some (.int (n : Int))) (hp : getFr fr 1 = some (psD ps)) (h1 : 1 ≤ n) (h8 : n ≤ 8) (h : ∀ q ∈ ps, okP n q) : ev (cg (k + 9) S.length).toCf (.call 17 false [(.nm 0), (.nm 1)] [0, 1]) fr S = some (.ok (.lst (wL (fw n ps))) S) := by
  refine ev_c2 (x := .int (n : Int)) (y := psD ps) (S1 := S) (S2 := S) (ev_nm h0) (ev_nm hp) ?_
  rw [cg_call]; exact fit_call (k + 1) n S ps h1 h8 h
theorem worlds_ok (h1 : 1 ≤ n) (h8 : n ≤ 8) (h : ∀ q ∈ ps, okP n q) (hl : ps.length ≤ 12) : gcOut S.length true (callR P (k + 10) 18 [.int (n : Int), psD ps] S) = some (.ok (.ref S.length) (S ++ [.lst (wL (fw n ps))])) := by
  have run : callR P (k + 10) 18 [.int (n : Int), psD ps] S = some (.ok (.ref S.length) (S ++ [.lst (wL (fw n ps))])) := by
    refine run_def fd18 rfl ?_
    let fr : Fr := [some (.int (n : Int)), some (psD ps)]
    show Vm.execs (cg (k + 9) S.length) b18 fr S = _
    have e2 : ev (cg (k + 9) S.length).toCf (.call 17 true [(.nm 0), (.nm 1)] [0, 1]) fr S = some (.ok (.ref S.length) (S ++ [.lst (wL (fw n ps))])) := by
      refine ev_call (ds' := [.int (n : Int), psD ps]) (evs_cons (ev_nm (d := .int (n : Int)) rfl) (evs_cons (ev_nm (d := psD ps) rfl) evs_nil)) rfl ?_
      rw [cg_call]; exact fit_box (k + 1) n S ps h1 h8 h
    rw [b18]
    exact (execs_nx (exec_expr (ck_ev k n S ps fr rfl rfl h1 h8 h hl))).trans (execs_rt (exec_ret e2))
  rw [run]
  exact (Fnd.new [] (by simp)).box
def soleD : List W → D
  | [w] => wD w
  | _ => .non
theorem soleD_sd {l : List W} (h : ∀ w ∈ l, w.length ≤ 1000) : sd 2 (soleD l) = true := by
  unfold soleD
  split
  · exact wD_sd 1 (h _ List.mem_cons_self)
  · rfl
theorem sole_ev {C : Cf} {fr : Fr} {S : Store} {i : Nat} (l : List W) (hi : getFr fr i = some (.lst (wL l))) : ev C (.ite (.cmp .Eq (.blt .len false [(.nm i)]) (.cst (.int 1))) (.sub (.nm i) (.cst (.int 0))) (.cst .non)) fr S = some (.ok (soleD l) S) := by
  have t : tst C (.cmp .Eq (.blt .len false [(.nm i)]) (.cst (.int 1))) fr S = some (.ok (l.length == 1) S) := tst_cmp (ev_blt (z := .int ((l.length : Nat) : Int)) (evs_cons (ev_nm hi) evs_nil) (by simp [btD, lenD, seqOf, wL_len])) ev_cst (cmp_eqN (x := l.length) (y := 1))
  match l, hi, t with
  | [], hi, t => rw [ev_iteF t]; exact ev_cst
  | [w], hi, t => rw [ev_iteT t]; exact ev_sub (ev_nm hi) ev_cst rfl
  | a :: b :: r, hi, t =>
    rw [show ((a :: b :: r).length == 1) = false by simp] at t
    rw [ev_iteF t]; exact ev_cst
theorem sole_ok (h1 : 1 ≤ n) (h8 : n ≤ 8) (h : ∀ q ∈ ps, okP n q) (hl : ps.length ≤ 12) : gcOut S.length false (callR P (k + 10) 19 [.int (n : Int), psD ps] S) = some (.ok (soleD (fw n ps)) S) := by
  refine pc_def fd19 rfl ?_ (sd_refs (soleD_sd fun w hw => by have := fw_mem hw; omega))
  let fr (y : Option D) : Fr := [some (.int (n : Int)), some (psD ps), y]
  show Vm.execs (cg (k + 9) S.length) b19 (fr none) S = _
  rw [b19]
  exact (execs_nx (exec_expr (ck_ev k n S ps (fr none) rfl rfl h1 h8 h hl))).trans ((execs_nx (exec_asg (fr' := fr (some (.lst (wL (fw n ps))))) (fit_ev k n S ps (fr none) rfl rfl h1 h8 h) rfl)).trans (execs_rt (exec_ret (sole_ev (fw n ps) rfl))))
def sureD (bs : List Bool) : D := if bs.isEmpty || (bs.any id && !bs.all id) then .non else .bl (bs.headD false)
theorem sureD_sd (bs : List Bool) (n : Nat) : sd n (sureD bs) = true := by unfold sureD; split <;> cases n <;> rfl
theorem bls_ok (l : List Bool) : refsLts 0 (l.map D.bl) = true ∧ (l.map D.bl).all (okD 19) = true := ⟨map_refs (fun _ => rfl) l, List.all_eq_true.mpr fun d hd => by obtain ⟨b, _, rfl⟩ := List.mem_map.mp hd; rfl⟩
theorem e_nil {C : Cf} {fr : Fr} {S : Store} {i : Nat} (l : List Bool) (hi : getFr fr i = some (.lst (l.map .bl))) : tst C (.cmp .Eq (.nm i) (.lst false [])) fr S = some (.ok l.isEmpty S) := by
  refine tst_cmp (ev_nm hi) (ev_lstF evs_nil) ?_
  have := eqS_lst0 (S := S) (bls_ok l).1 (bls_ok l).2
  rw [show (l.map D.bl).isEmpty = l.isEmpty by cases l <;> rfl] at this
  exact this
theorem sure_ok (s : Sy) (hs : okS n s) (hd : dp s ≤ 6) (h1 : 1 ≤ n) (h8 : n ≤ 8) (h : ∀ q ∈ ps, okP n q) (hl : ps.length ≤ 12) : gcOut S.length false (callR P (k + 10) 20 [.int (n : Int), psD ps, sD s] S) = some (.ok (sureD ((fw n ps).map fun w => tr w s)) S) := by
  refine pc_def fd20 rfl ?_ (sd_refs (sureD_sd _ 0))
  let C := cg (k + 9) S.length
  let fr (y : Option D) : Fr := [some (.int (n : Int)), some (psD ps), some (sD s), y, none]
  show Vm.execs C b20 (fr none) S = _
  let bs := (fw n ps).map fun w => tr w s
  have hsd : sd 7 (sD s) = true := sd_up (sD_sd s hs) (by omega)
  have e2 : ev C.toCf (.call 15 false [(.nm 0), (.nm 2)] [0, 1]) (fr none) S = some (.ok .non S) := by
    refine ev_c2 (x := .int (n : Int)) (y := sD s) (S1 := S) (S2 := S) (ev_nm rfl) (ev_nm rfl) ?_
    rw [show C.toCf.call = callR P (k + 9) from rfl]
    rcases saying_tst (k + 1) n 7 (sD s) S hsd (by omega) with ⟨_, e⟩ | ⟨e, _⟩
    · exact e
    · rw [say_one hs hd] at e; cases e
  have hfl := fw_len (ps := ps) h8
  have e3 : ev C.toCf (.lc false (.nm 4) [4] (.val (.call 17 false [(.nm 0), (.nm 1)] [0, 1])) [] (.call 12 false [(.nm 4), (.nm 2)] [0, 1])) (fr none) S = some (.ok (.lst (bs.map .bl)) S) := by
    rw [lc_map wD (fun w => .bl (tr w s)) (fw n ps) (evIt_val (fit_ev k n S ps (fr none) rfl rfl h1 h8 h) rfl) (by omega) fun w hw => ?_, bl_map]
    refine ⟨[some (.int (n : Int)), some (psD ps), some (sD s), none, some (wD w)], rfl, ev_c2 (x := wD w) (y := sD s) (S1 := S) (S2 := S) (ev_nm rfl) (ev_nm rfl) ?_⟩
    rw [show C.toCf.call = callR P (k + 9) from rfl]
    exact tr_call w s (k + 9) S (by rw [fw_mem hw]; exact hs) (by omega)
  let f3 := fr (some (.lst (bs.map .bl)))
  have t1 : tst C.toCf (.cmp .Eq (.nm 3) (.lst false [])) f3 S = some (.ok bs.isEmpty S) := e_nil bs rfl
  have ea : ev C.toCf (.blt .any false [(.nm 3)]) f3 S = some (.ok (.bl (bs.any id)) S) := ev_blt (evs_cons (ev_nm (d := .lst (bs.map .bl)) rfl) evs_nil) (by simp [btD, lstOf, bls_of])
  have el : ev C.toCf (.blt .all false [(.nm 3)]) f3 S = some (.ok (.bl (bs.all id)) S) := ev_blt (evs_cons (ev_nm (d := .lst (bs.map .bl)) rfl) evs_nil) (by simp [btD, lstOf, bls_of])
  have t2 : tst C.toCf (.conj [(.v (.blt .any false [(.nm 3)])), (.neg (.v (.blt .all false [(.nm 3)])))]) f3 S = some (.ok (bs.any id && (!bs.all id && true)) S) := tst_conj_c (tsConj_c (tst_vb ea) (tsConj_c (tst_neg (tst_vb el)) tsConj_nil))
  have tt := tst_disj_c (tsDisj_c t1 (tsDisj_c t2 tsDisj_nil))
  rw [Bool.and_true, Bool.or_false] at tt
  rw [b20]
  refine (execs_nx (exec_expr (ck_ev k n S ps (fr none) rfl rfl h1 h8 h hl))).trans ((execs_nx (exec_expr e2)).trans ((execs_nx (exec_asg (fr' := f3) e3 rfl)).trans ?_))
  show _ = some (Rs.ok (Fl.ret (if (bs.isEmpty || (bs.any id && !bs.all id)) = true then D.non else .bl (bs.headD false))) S)
  cases hc : (bs.isEmpty || (bs.any id && !bs.all id)) with
  | true => rw [hc] at tt; exact execs_rt ((exec_ifT tt).trans (execs_rt (exec_ret ev_cst)))
  | false =>
    rw [hc] at tt
    refine (execs_nx ((exec_ifF tt).trans execs_nil)).trans (execs_rt (exec_ret (ev_sub (ev_nm (d := .lst (bs.map .bl)) rfl) ev_cst ?_)))
    cases hb : bs with
    | nil => rw [hb] at hc; cases hc
    | cons b r => show L2.atI (D.bl b :: r.map .bl) ((0 : Nat) : Int) = _; rw [atI_get (by simp)]; rfl
end
end K55

/-! k55: a saying in a world; what is asked -/
namespace K55
open PySem Vm
theorem fd13 : P.fd 13 = some ⟨2, 3, b13⟩ := rfl
def isBl : D → Bool
  | .bl _ => true
  | _ => false
def worldB : D → Bool
  | .tup ds => decide (1 ≤ ds.length) && decide (ds.length ≤ 8) && ds.all isBl
  | _ => false
theorem tst_chnF {C : Cf} {fr : Fr} {S S1 S2 : Store} {a b c : Ex} {x y : D} {op op' : CmpOp} (ha : ev C a fr S = some (.ok x S1)) (hb : ev C b fr S1 = some (.ok y S2)) (h : cmpD S2 op x y = some false) : tst C (.chn op op' a b c) fr S = some (.ok false S2) := by
  rw [tst]; show bnd (ev C a fr S) _ = _; rw [ha, bnd_ok]; show bnd (ev C b fr S1) _ = _; rw [hb, bnd_ok]; show bnd (lift (cmpD S2 op x y) S2) _ = _; rw [h]; rfl
theorem tst_chnT {C : Cf} {fr : Fr} {S S1 S2 S3 : Store} {a b c : Ex} {x y z : D} {op op' : CmpOp} {k : Bool} (ha : ev C a fr S = some (.ok x S1)) (hb : ev C b fr S1 = some (.ok y S2)) (h : cmpD S2 op x y = some true) (hc : ev C c fr S2 = some (.ok z S3)) (h2 : cmpD S3 op' y z = some k) : tst C (.chn op op' a b c) fr S = some (.ok k S3) := by
  rw [tst]; show bnd (ev C a fr S) _ = _; rw [ha, bnd_ok]; show bnd (ev C b fr S1) _ = _; rw [hb, bnd_ok]; show bnd (lift (cmpD S2 op x y) S2) _ = _; rw [h]
  show bnd (ev C c fr S2) _ = _; rw [hc, bnd_ok]; show lift (cmpD S3 op' y z) S3 = _; rw [h2]; rfl
abbrev hdA : Vm.St := (.ife (.disj [(.neg (.v (.isi (.nm 0) [.tuple]))), (.neg (.chn .LtE .LtE (.cst (.int 1)) (.blt .len false [(.nm 0)]) (.glb ("MOST_PEOPLE" : Str))))]) [(.rse 4 [(.nm 0)])] [])
abbrev hdB : Vm.St := (.ife (.neg (.v (.blt .all false [(.lc false (.nm 2) [2] (.val (.nm 0)) [] (.isi (.nm 2) [.bool]))]))) [(.rse 4 [(.nm 0)])] [])
theorem isi_bl {C : Cf} {fr : Fr} {S : Store} {i n : Nat} {x : D} (hi : getFr fr i = some x) (hx : sd n x = true) : ev C (.isi (.nm i) [.bool]) fr S = some (.ok (.bl (isBl x)) S) := by
  refine ev_isi (ev_nm hi) ?_
  cases x <;> first | rfl | (cases n <;> simp [sd] at hx)
/-- the world is looked at -/
theorem world_tst (k n : Nat) (x y : D) (S : Store) (hx : sd n x = true) : (worldB x = true ∧ ∀ r, Vm.execs (cg k S.length) (hdA :: hdB :: r) [some x, some y, none] S = Vm.execs (cg k S.length) r [some x, some y, none] S) ∨
    (worldB x = false ∧ ∀ r, Vm.execs (cg k S.length) (hdA :: hdB :: r) [some x, some y, none] S = some (.ex 4 [x] S)) := by
  obtain ⟨t, ht⟩ := ty_of S hx
  let C := cg k S.length
  let fr : Fr := [some x, some y, none]
  have er : ∀ {r : List Vm.St}, Vm.execs C (.rse 4 [(.nm 0)] :: r) fr S = some (.ex 4 [x] S) := fun {r} => execs_ex (exec_rse (evs_cons (ev_nm rfl) evs_nil))
  have e1 : ev C.toCf (.isi (.nm 0) [.tuple]) fr S = some (.ok (.bl (isTup x)) S) := isi_tup rfl ht
  by_cases hi : isTup x = true
  rotate_left
  · have hi' : isTup x = false := by simpa using hi
    rw [hi'] at e1
    exact .inr ⟨by cases x <;> first | rfl | simp [isTup] at hi', fun r => execs_ex ((exec_ifT (tst_disj.trans (tsDisj_T (tst_neg (tst_vb e1))))).trans er)⟩
  obtain ⟨ds, rfl⟩ : ∃ v, x = .tup v := by cases x <;> first | exact ⟨_, rfl⟩ | simp [isTup] at hi
  rw [hi] at e1
  obtain ⟨n, rfl⟩ : ∃ j, n = j + 1 := by cases n with
    | zero => simp [sd] at hx
    | succ n => exact ⟨n, rfl⟩
  obtain ⟨hl, hmem⟩ := sd_len hx (.inl rfl)
  have eln : ev C.toCf (.blt .len false [(.nm 0)]) fr S = some (.ok (.int ((ds.length : Nat) : Int)) S) := ev_blt (evs_cons (ev_nm rfl) evs_nil) rfl
  have tc : tst C.toCf (.chn .LtE .LtE (.cst (.int 1)) (.blt .len false [(.nm 0)]) (.glb ("MOST_PEOPLE" : Str))) fr S = some (.ok (decide (1 ≤ ds.length) && decide (ds.length ≤ 8)) S) := by
    by_cases hp : 1 ≤ ds.length
    · rw [decide_eq_true hp, Bool.true_and]
      refine tst_chnT ev_cst eln ?_ (glb_ev (C := C) (d := .int 8) rfl rfl rfl) ?_
      · show some (decide ((1 : Int) ≤ ((ds.length : Nat) : Int))) = _
        rw [decide_eq_true (by omega)]
      · show some (decide (((ds.length : Nat) : Int) ≤ (8 : Int))) = _
        congr 1
        simp only [decide_eq_decide]; omega
    · rw [decide_eq_false hp, Bool.false_and]
      refine tst_chnF ev_cst eln ?_
      show some (decide ((1 : Int) ≤ ((ds.length : Nat) : Int))) = _
      rw [decide_eq_false (by omega)]
  cases hc : (decide (1 ≤ ds.length) && decide (ds.length ≤ 8)) with
  | false =>
    rw [hc] at tc
    exact .inr ⟨by simp only [worldB, hc, Bool.false_and], fun r => execs_ex ((exec_ifT (tst_disj.trans ((tsDisj_F (tst_neg (tst_vb e1))).trans (tsDisj_T (tst_neg tc))))).trans er)⟩
  | true =>
    rw [hc] at tc
    have tF := tst_disj.trans ((tsDisj_F (tst_neg (tst_vb e1))).trans ((tsDisj_F (tst_neg tc)).trans tsDisj_nil))
    have e3 : ev C.toCf (.blt .all false [(.lc false (.nm 2) [2] (.val (.nm 0)) [] (.isi (.nm 2) [.bool]))]) fr S = some (.ok (.bl (ds.all isBl)) S) :=
      ev_all isBl (evIt_val (ev_nm (d := .tup ds) rfl) rfl) (by omega) fun d hd => ⟨[some (.tup ds), some y, some d], rfl, isi_bl rfl (hmem d hd)⟩
    cases ha : ds.all isBl with
    | true =>
      rw [ha] at e3
      exact .inl ⟨by simp only [worldB, hc, ha, Bool.true_and], fun r => (execs_nx ((exec_ifF tF).trans execs_nil)).trans (execs_nx ((exec_ifF (tst_neg (tst_vb e3))).trans execs_nil))⟩
    | false =>
      rw [ha] at e3
      exact .inr ⟨by simp only [worldB, hc, ha, Bool.true_and], fun r => (execs_nx ((exec_ifF tF).trans execs_nil)).trans (execs_ex ((exec_ifT (tst_neg (tst_vb e3))).trans er))⟩
theorem world_ok {w : W} (h1 : 1 ≤ w.length) (h8 : w.length ≤ 8) : worldB (wD w) = true := by
  show (decide (1 ≤ (w.map D.bl).length) && decide ((w.map D.bl).length ≤ 8) && (w.map D.bl).all isBl) = true
  rw [List.length_map, decide_eq_true h1, decide_eq_true h8]
  simp only [Bool.true_and, List.all_eq_true]
  intro d hd
  obtain ⟨b, _, rfl⟩ := List.mem_map.mp hd
  rfl
theorem holds_w (k n : Nat) (x y : D) (S : Store) (hx : sd n x = true) (hw : worldB x = false) : gcOut S.length false (callR P (k + 1) 13 [x, y] S) = some (.ex 4 [x] S) := by
  refine ex_def fd13 rfl ?_ (by simp [refsLts, sd_refs hx])
  show Vm.execs (cg k S.length) b13 [some x, some y, none] S = _
  rw [b13]
  rcases world_tst k n x y S hx with ⟨e, _⟩ | ⟨_, e⟩
  · rw [hw] at e; cases e
  · exact e _
theorem world_go (k : Nat) (w : W) (y : D) (S : Store) (h1 : 1 ≤ w.length) (h8 : w.length ≤ 8) (r : List Vm.St) : Vm.execs (cg k S.length) (hdA :: hdB :: r) [some (wD w), some y, none] S = Vm.execs (cg k S.length) r [some (wD w), some y, none] S := by
  rcases world_tst k 1 (wD w) y S (wD_sd 0 (by omega)) with ⟨_, e⟩ | ⟨e, _⟩
  · exact e r
  · rw [world_ok h1 h8] at e; cases e
theorem say_ev (k n : Nat) (w : W) (y : D) (S : Store) (hy : sd n y = true) (hn : n ≤ 19) : ev (cg (k + 7) S.length).toCf (.call 10 false [(.blt .len false [(.nm 0)]), (.nm 1)] [0, 1]) [some (wD w), some y, none] S = some (.ok (.bl (sayB w.length 6 [y])) S) := by
  refine ev_c2 (x := .int ((w.length : Nat) : Int)) (y := y) (S1 := S) (S2 := S) (ev_blt (evs_cons (ev_nm (d := wD w) rfl) evs_nil) (by simp [btD, lenD, seqOf, wD])) (ev_nm rfl) ?_
  rw [cg_call]; exact say_call k n w.length y S hy hn
theorem holds_s (k n : Nat) (w : W) (y : D) (S : Store) (h1 : 1 ≤ w.length) (h8 : w.length ≤ 8) (hy : sd n y = true) (hn : n ≤ 19) (hb : sayB w.length 6 [y] = false) : gcOut S.length false (callR P (k + 8) 13 [wD w, y] S) = some (.ex 2 [y] S) := by
  refine ex_def fd13 rfl ?_ (by simp [refsLts, sd_refs hy])
  show Vm.execs (cg (k + 7) S.length) b13 [some (wD w), some y, none] S = _
  have e := say_ev k n w y S hy hn
  rw [hb] at e
  rw [b13]
  exact (world_go (k + 7) w y S h1 h8 _).trans (execs_ex ((exec_ifT (tst_neg (tst_vb e))).trans (execs_ex (exec_rse (evs_cons (ev_nm rfl) evs_nil)))))
theorem holds_ok (k : Nat) (w : W) (s : Sy) (S : Store) (h1 : 1 ≤ w.length) (h8 : w.length ≤ 8) (hs : okS w.length s) (hd : dp s ≤ 6) : gcOut S.length false (callR P (k + 8) 13 [wD w, sD s] S) = some (.ok (.bl (tr w s)) S) := by
  refine pc_def fd13 rfl ?_ rfl
  show Vm.execs (cg (k + 7) S.length) b13 [some (wD w), some (sD s), none] S = _
  have e := say_ev k 7 w (sD s) S (sd_up (sD_sd s hs) (by omega)) (by omega)
  rw [say_one hs hd] at e
  rw [b13]
  refine (world_go (k + 7) w (sD s) S h1 h8 _).trans ((execs_nx ((exec_ifF (tst_neg (tst_vb e))).trans execs_nil)).trans (execs_rt (exec_ret ?_)))
  refine ev_c2 (x := wD w) (y := sD s) (S1 := S) (S2 := S) (ev_nm rfl) (ev_nm rfl) ?_
  rw [cg_call]; exact tr_call w s (k + 7) S hs (by omega)
/-! ### asked -/
theorem fd30 : P.fd 30 = some ⟨5, 6, b30⟩ := rfl
def told : D := .str ("told" : Str)
/-- what the program answers -/
def askR (k : Nat) (S : Store) (w : Nat) (a b c : D) : Option (Rs D) := match w with
  | 0 => gcOut S.length true (callR P k 18 [a, b] S)
  | 1 => gcOut S.length false (callR P k 19 [a, b] S)
  | 2 => gcOut S.length false (callR P k 20 [a, b, c] S)
  | _ => gcOut S.length false (callR P k 13 [a, b] S)
abbrev askB : List Vm.St := [(.ife (.cmp .Eq (.nm 0) (.cst (.int 0))) [(.ret (.lst false [(.cst (.str ("told" : Str))), (.ite (.v (.nm 4)) (.call 18 true [(.nm 2), (.nm 1)] [1, 0]) (.call 18 true [(.nm 1), (.nm 2)] [0, 1]))]))] []), (.ife (.cmp .Eq (.nm 0) (.cst (.int 1))) [(.ret (.lst false [(.cst (.str ("told" : Str))), (.ite (.v (.nm 4)) (.call 19 false [(.nm 2), (.nm 1)] [1, 0]) (.call 19 false [(.nm 1), (.nm 2)] [0, 1]))]))] []), (.ife (.cmp .Eq (.nm 0) (.cst (.int 2))) [(.ret (.lst false [(.cst (.str ("told" : Str))), (.ite (.v (.nm 4)) (.call 20 false [(.nm 3), (.nm 2), (.nm 1)] [2, 1, 0]) (.call 20 false [(.nm 1), (.nm 2), (.nm 3)] [0, 1, 2]))]))] []), (.ret (.lst false [(.cst (.str ("told" : Str))), (.ite (.v (.nm 4)) (.call 13 false [(.nm 2), (.nm 1)] [1, 0]) (.call 13 false [(.nm 1), (.nm 2)] [0, 1]))]))]
/-- ["told", e], handed back -/
def Told (C : Cg) (b : List Vm.St) (fr : Fr) (S : Store) (r : Option (Rs D)) : Prop :=
  (∀ q T, r = some (.ok q T) → Vm.execs C b fr S = some (.ok (.ret (.lst [told, q])) T)) ∧ ∀ c fs T, r = some (.ex c fs T) → Vm.execs C b fr S = some (.ex c fs T)
theorem told_of {C : Cg} {e : Ex} {fr : Fr} {S : Store} {r : Option (Rs D)} {b : List Vm.St} (h : ev C.toCf e fr S = r) : Told C (.ret (.lst false [(.cst (.str ("told" : Str))), e]) :: b) fr S r :=
  ⟨fun q T hr => execs_rt (exec_ret (ev_lstF (evs_cons ev_cst (evs_cons (h.trans hr) evs_nil)))), fun c fs T hr => execs_ex (exec_retX (ev_lstX (evs_ex2 ev_cst (evs_ex (h.trans hr)))))⟩
theorem told_T {C : Cg} {t : Te} {a b r : List Vm.St} {fr : Fr} {S : Store} {x : Option (Rs D)} (ht : tst C.toCf t fr S = some (.ok true S)) (h : Told C a fr S x) : Told C (.ife t a b :: r) fr S x :=
  ⟨fun q T hr => execs_rt ((exec_ifT ht).trans (h.1 q T hr)), fun c fs T hr => execs_ex ((exec_ifT ht).trans (h.2 c fs T hr))⟩
theorem told_F {C : Cg} {t : Te} {a r : List Vm.St} {fr : Fr} {S : Store} {x : Option (Rs D)} (ht : tst C.toCf t fr S = some (.ok false S)) (h : Told C r fr S x) : Told C (.ife t a [] :: r) fr S x :=
  ⟨fun q T hr => (execs_nx ((exec_ifF ht).trans execs_nil)).trans (h.1 q T hr), fun c fs T hr => (execs_nx ((exec_ifF ht).trans execs_nil)).trans (h.2 c fs T hr)⟩
section
variable (k w : Nat) (S : Store) (a b c : D) (nb : Bool)
abbrev askF (w : Nat) (a b c : D) (nb : Bool) : Fr := [some (.int (w : Int)), some a, some b, some c, some (.bl nb), none]
theorem ask_w (j : Nat) : tst (cg k S.length).toCf (.cmp .Eq (.nm 0) (.cst (.int (j : Int)))) (askF w a b c nb) S = some (.ok (w == j) S) := tst_cmp (ev_nm rfl) ev_cst cmp_eqN
theorem ask_n : tst (cg k S.length).toCf (.v (.nm 4)) (askF w a b c nb) S = some (.ok nb S) := tst_vb (ev_nm rfl)
theorem ask_2 {g : Nat} {bx : Bool} : ev (cg k S.length).toCf (.ite (.v (.nm 4)) (.call g bx [(.nm 2), (.nm 1)] [1, 0]) (.call g bx [(.nm 1), (.nm 2)] [0, 1])) (askF w a b c nb) S = gcOut S.length bx (callR P k g [a, b] S) := by
  have tn := ask_n k w S a b c nb
  cases nb with
  | true =>
    rw [ev_iteT tn]
    refine ev_call (ds := [b, a]) (ds' := [a, b]) (evs_cons (ev_nm rfl) (evs_cons (ev_nm rfl) evs_nil)) rfl ?_
    rw [cg_call]
  | false =>
    rw [ev_iteF tn]
    refine ev_call (ds := [a, b]) (ds' := [a, b]) (evs_cons (ev_nm rfl) (evs_cons (ev_nm rfl) evs_nil)) rfl ?_
    rw [cg_call]
theorem ask_3 {g : Nat} {bx : Bool} : ev (cg k S.length).toCf (.ite (.v (.nm 4)) (.call g bx [(.nm 3), (.nm 2), (.nm 1)] [2, 1, 0]) (.call g bx [(.nm 1), (.nm 2), (.nm 3)] [0, 1, 2])) (askF w a b c nb) S = gcOut S.length bx (callR P k g [a, b, c] S) := by
  have tn := ask_n k w S a b c nb
  cases nb with
  | true =>
    rw [ev_iteT tn]
    refine ev_call (ds := [c, b, a]) (ds' := [a, b, c]) (evs_cons (ev_nm rfl) (evs_cons (ev_nm rfl) (evs_cons (ev_nm rfl) evs_nil))) rfl ?_
    rw [cg_call]
  | false =>
    rw [ev_iteF tn]
    refine ev_call (ds := [a, b, c]) (ds' := [a, b, c]) (evs_cons (ev_nm rfl) (evs_cons (ev_nm rfl) (evs_cons (ev_nm rfl) evs_nil))) rfl ?_
    rw [cg_call]
end
theorem ask_told (k w : Nat) (S : Store) (a b c : D) (nb : Bool) (hw : w ≤ 3) : Told (cg k S.length) askB (askF w a b c nb) S (askR k S w a b c) := by
  have t0 := ask_w k w S a b c nb 0
  have t1 := ask_w k w S a b c nb 1
  have t2 := ask_w k w S a b c nb 2
  have h : w = 0 ∨ w = 1 ∨ w = 2 ∨ w = 3 := by omega
  rcases h with rfl | rfl | rfl | rfl
  · exact told_T t0 (told_of (ask_2 k 0 S a b c nb))
  · exact told_F t0 (told_T t1 (told_of (ask_2 k 1 S a b c nb)))
  · exact told_F t0 (told_F t1 (told_T t2 (told_of (ask_3 k 2 S a b c nb))))
  · exact told_F t0 (told_F t1 (told_F t2 (told_of (ask_2 k 3 S a b c nb))))
theorem asked_run (k w : Nat) {S T : Store} {a b c q : D} (nb : Bool) (hw : w ≤ 3) (h : askR k S w a b c = some (.ok q T)) : callR P (k + 1) 30 [.int (w : Int), a, b, c, .bl nb] S = some (.ok (.lst [told, q]) T) := by
  refine run_def fd30 rfl ?_
  show Vm.execs (cg k S.length) b30 (askF w a b c nb) S = _
  rw [b30]
  exact execs_rt (exec_tryR ((ask_told k w S a b c nb hw).1 q T h))
theorem asked_ok (k w : Nat) {S : Store} {a b c q : D} (nb : Bool) (hw : w ≤ 3) (h : askR k S w a b c = some (.ok q S)) (hr : refsLt S.length q = true) : gcOut S.length false (callR P (k + 1) 30 [.int (w : Int), a, b, c, .bl nb] S) = some (.ok (.lst [told, q]) S) := by
  rw [asked_run k w nb hw h, gc_same (by simp [refsLt, refsLts, told, hr])]
def askW : Nat → Str
  | 1 => ("number" : Str)
  | 3 => ("sayings" : Str)
  | 2 => ("saying" : Str)
  | _ => ("world" : Str)
theorem asked_ex (k w : Nat) {S : Store} {a b c y : D} (nb : Bool) (e : Nat) (hw : w ≤ 3) (hc : 1 ≤ e ∧ e ≤ 4) (h : askR k S w a b c = some (.ex e [y] S)) (hr : refsLt S.length y = true) : gcOut S.length false (callR P (k + 1) 30 [.int (w : Int), a, b, c, .bl nb] S) = some (.ok (.lst [.str (askW e), y]) S) := by
  refine pc_def fd30 rfl ?_ (by simp [refsLt, refsLts, hr])
  show Vm.execs (cg k S.length) b30 (askF w a b c nb) S = _
  rw [b30]
  refine execs_rt ?_
  rw [exec_tryX ((ask_told k w S a b c nb hw).2 e [y] S h)]
  have : e = 1 ∨ e = 2 ∨ e = 3 ∨ e = 4 := by omega
  rcases this with rfl | rfl | rfl | rfl <;> rfl
end K55

/-! k55: drawn sayings -/
namespace K55
open PySem Vm
theorem fd25 : P.fd 25 = some ⟨3, 5, b25⟩ := rfl
theorem gc_set {S : Store} {n : Nat} {d x : D} (h : refsLt S.length d = true) : gcOut S.length false (some (.ok d (S.set n x))) = some (.ok d (S.set n x)) := by
  rw [gc_plain' h, set_take]
theorem ris_N : ∀ l : List Nat, l.Pairwise (· < ·) → risL (iN l) = true
  | [], _ => rfl
  | [a], _ => rfl
  | a :: b :: r, h => by
    have h' := List.pairwise_cons.mp h
    have h2 := h'.1 b List.mem_cons_self
    show (decide ((a : Int) < (b : Int)) && risL (iN (b :: r))) = true
    rw [ris_N (b :: r) h'.2, decide_eq_true (by omega)]; rfl
/-- draws of a saying -/
def sB : Nat → Int
  | 0 => 12
  | d + 1 => 2 + 2 * sB d
theorem sB_ge : ∀ d, 12 ≤ sB d
  | 0 => Int.le_refl _
  | d + 1 => by have := sB_ge d; rw [sB]; omega
theorem sB_mono : ∀ {d e : Nat}, d ≤ e → sB d ≤ sB e := by
  intro d e h
  obtain ⟨j, rfl⟩ := Nat.exists_eq_add_of_le h
  clear h
  induction j with
  | zero => exact Int.le_refl _
  | succ j ih => have := sB_ge (d + j); rw [← Nat.add_assoc, sB]; omega
theorem sB_5 {d : Nat} (h : d ≤ 5) : sB d ≤ 446 := by
  have := sB_mono h
  have e : sB 5 = 446 := by decide
  omega
abbrev sf (n m deep : Nat) (x3 x4 : Option D) : Fr := [some (.ref n), some (.int (m : Int)), some (.int (deep : Int)), x3, x4]
abbrev ctL : Ex := .lc false (.nm 4) [4] (.rng1 (.nm 1)) [(.cmp .Eq (.call 23 false [(.nm 0), (.cst (.int 2))] [0, 1]) (.cst (.int 0)))] (.nm 4)
theorem ct_draw (k mm n m deep : Nat) (T : Store) (d : D) (N : Int) (x3 x4 : Option D) (g : T[n]? = some d) (hB : Bok N d) (hN : N ≤ 900000000) (hm : m ≤ 8) :
    ∃ ps d', ev (cg (k + 1) mm).toCf ctL (sf n m deep x3 x4) T = some (.ok (.lst (iN ps)) (T.set n d')) ∧ ps.Sublist (List.range m) ∧ Bok (N + 8) d' := by
  let C := cg (k + 1) mm
  have it : evIt C.toCf (.rng1 (.nm 1)) (sf n m deep x3 x4) T = some (.ok ⟨iN (List.range m), none⟩ T) := by
    have := evIt_rng1 (C := C.toCf) (fr := sf n m deep x3 x4) (S := T) (e := .nm 1) (j := (m : Int)) (ev_nm rfl) (by simp only [big62, Bool.and_eq_true, decide_eq_true_eq]; omega)
    rwa [Int.toNat_natCast, rngL0] at this
  obtain ⟨out, T', e, pre, post, ps, d', h1, h2, h3, h4, h5, h6⟩ := ev_lcJ (C := C.toCf) (bx := false) (tg := .nm 4) (own := [4]) (ifs := [(.cmp .Eq (.call 23 false [(.nm 0), (.cst (.int 2))] [0, 1]) (.cst (.int 0)))]) (elt := .nm 4)
    (fun rest acc T1 => ∃ pre post ps d', List.range m = pre ++ post ∧ rest = iN post ∧ acc = iN ps ∧ T1 = T.set n d' ∧ Bok (N + pre.length) d' ∧ ps.Sublist pre) it (by rw [iN_len, List.length_range]; omega) rfl
    ⟨[], List.range m, [], d, rfl, rfl, rfl, (set_self g).symm, by simpa using hB, List.Sublist.slnil⟩
    fun x r acc T1 ⟨pre, post, ps, d1, h1, h2, h3, h4, h5, h6⟩ => by
      subst h3 h4
      cases post with
      | nil => simp [iN] at h2
      | cons p post =>
        obtain ⟨rfl, rfl⟩ : x = .int (p : Int) ∧ r = iN post := by simpa [iN] using h2
        have hlen : (pre ++ p :: post).length = m := by rw [← h1, List.length_range]
        rw [List.length_append, List.length_cons] at hlen
        let f : Fr := sf n m deep x3 (some (.int (p : Int)))
        obtain ⟨v, d2, E, v1, v2, hB2⟩ := take_ev k mm (.cst (.int 2)) f (T.set n d1) (T.set n d1) n _ 2 rfl ev_cst ⟨d1, set_get g d1, h5⟩ (by omega) (by omega) (by omega)
        rw [List.set_set] at E
        have t := tsts_1 (tst_cmp (op := .Eq) E (ev_cst (d := .int 0)) cmp_eqI)
        have hb : Bok (N + ((pre ++ [p]).length : Int)) d2 := hB2.mono (by rw [List.length_append, List.length_singleton]; push_cast; omega)
        have hr : List.range m = (pre ++ [p]) ++ post := by rw [h1, List.append_assoc]; rfl
        refine ⟨f, rfl, ?_⟩
        cases hv : (v == 0) with
        | false =>
          rw [hv] at t
          exact .inl ⟨_, t, rfl, pre ++ [p], post, ps, d2, hr, rfl, rfl, rfl, hb, List.Sublist.trans h6 (List.sublist_append_left _ _)⟩
        | true =>
          rw [hv] at t
          exact .inr ⟨_, _, _, t, ev_nm rfl, rfl, pre ++ [p], post, ps ++ [p], d2, hr, rfl, by simp [iN], rfl, hb, h6.append (List.Sublist.refl _)⟩
  have hpn : post = [] := by cases post with
    | nil => rfl
    | cons _ _ => simp [iN] at h2
  subst hpn
  rw [List.append_nil] at h1
  subst h3 h4
  refine ⟨ps, d', ?_, h1 ▸ h6, h5.mono ?_⟩
  · rw [e]; rfl
  · rw [← h1, List.length_range]; omega
theorem ct_ok {m nn : Nat} {ps : List Nat} (h : ps.Sublist (List.range m)) (hm : m ≤ 8) (hn : nn ≤ 8) : okS m (.ct nn ps) := by
  have hl := h.length_le
  rw [List.length_range] at hl
  exact ⟨hn, by omega, fun p hp => List.mem_range.mp (h.subset hp), ris_N ps (List.pairwise_lt_range.sublist h)⟩
theorem saying_call : ∀ (j k n m : Nat) (S : Store) (d : D) (N : Int), S[n]? = some d → Bok N d → N ≤ 800000000 - sB (j + 1) → 1 ≤ m → m ≤ 8 →
    ∃ s d', gcOut S.length false (callR P (k + j + 2) 25 [.ref n, .int (m : Int), .int ((j + 1 : Nat) : Int)] S) = some (.ok (sD s) (S.set n d')) ∧ okS m s ∧ dp s ≤ j + 1 ∧ Bok (N + sB (j + 1)) d' := by
  intro j
  induction j with
  | zero =>
    intro k n m S d N g hB hN h1 h8
    have hb : sB 1 = 26 := by decide
    rw [hb] at hN ⊢
    let C := cg (k + 1) S.length
    obtain ⟨v, d1, E1, v1, v2, hB1⟩ := take_ev k S.length (.cst (.int 8)) (sf n m 1 none none) S S n N 8 rfl ev_cst ⟨d, g, hB⟩ (by omega) (by omega) (by omega)
    have g1 := set_get g d1
    let f := sf n m 1 (some (.int v)) none
    obtain ⟨u, d2, E2, u1, u2, hB2⟩ := take_ev k S.length (.cst (.int 2)) f (S.set n d1) (S.set n d1) n _ 2 rfl ev_cst ⟨d1, g1, hB1⟩ (by omega) (by omega) (by omega)
    rw [List.set_set] at E2
    have g2 := set_get g d2
    obtain ⟨p, d3, E3, p1, p2, hB3⟩ := take_ev k S.length (.nm 1) f (S.set n d2) (S.set n d2) n _ (m : Int) rfl (ev_nm rfl) ⟨d2, g2, hB2⟩ (by omega) (by omega) (by omega)
    rw [List.set_set] at E3
    have tt : tst C.toCf (.disj [(.cmp .Lt (.nm 2) (.cst (.int 2))), (.cmp .Lt (.nm 3) (.cst (.int 2)))]) f (S.set n d1) = some (.ok true (S.set n d1)) := tst_disj.trans (tsDisj_T (tst_cmp (ev_nm rfl) ev_cst rfl))
    have el : ev C.toCf (.lst false [(.cst (.str ("knight" : Str))), (.cst (.str ("liar" : Str)))]) f (S.set n d1) = some (.ok (.lst [.str wKn, .str wLi]) (S.set n d1)) := ev_lstF (evs_cons ev_cst (evs_cons ev_cst evs_nil))
    have key : ∃ s, ev C.toCf (.tup [(.sub (.lst false [(.cst (.str ("knight" : Str))), (.cst (.str ("liar" : Str)))]) (.call 23 false [(.nm 0), (.cst (.int 2))] [0, 1])), (.call 23 false [(.nm 0), (.nm 1)] [0, 1])]) f (S.set n d1) = some (.ok (sD s) (S.set n d3)) ∧ okS m s ∧ dp s ≤ 1 := by
      have hp : ((p.toNat : Nat) : Int) = p := Int.toNat_of_nonneg p1
      have hu : u = 0 ∨ u = 1 := by omega
      rcases hu with rfl | rfl
      · refine ⟨.kn p.toNat, ?_, by show p.toNat < m; omega, Nat.le_refl _⟩
        show _ = some (Rs.ok (D.tup [.str wKn, .int ((p.toNat : Nat) : Int)]) _)
        rw [hp]; exact ev_tup (evs_cons (ev_sub el E2 rfl) (evs_cons E3 evs_nil))
      · refine ⟨.li p.toNat, ?_, by show p.toNat < m; omega, Nat.le_refl _⟩
        show _ = some (Rs.ok (D.tup [.str wLi, .int ((p.toNat : Nat) : Int)]) _)
        rw [hp]; exact ev_tup (evs_cons (ev_sub el E2 rfl) (evs_cons E3 evs_nil))
    obtain ⟨s, ek, ho, hd⟩ := key
    refine ⟨s, d3, ?_, ho, hd, hB3.mono (by omega)⟩
    have run : callR P (k + 2) 25 [.ref n, .int (m : Int), .int ((1 : Nat) : Int)] S = some (.ok (sD s) (S.set n d3)) := by
      refine run_def fd25 rfl ?_
      show Vm.execs C b25 (sf n m 1 none none) S = _
      rw [b25]
      exact (execs_nx (exec_asg (fr' := f) E1 rfl)).trans (execs_rt ((exec_ifT tt).trans (execs_rt (exec_ret ek))))
    show gcOut S.length false (callR P (k + 2) 25 [.ref n, .int (m : Int), .int ((1 : Nat) : Int)] S) = _
    rw [run, gc_set (sd_refs (sD_sd s ho))]
  | succ j ih =>
    intro k n m S d N g hB hN h1 h8
    have hge := sB_ge (j + 1)
    have hb : sB (j + 1 + 1) = 2 + 2 * sB (j + 1) := rfl
    rw [hb] at hN ⊢
    let C := cg (k + j + 2) S.length
    let dep : Nat := j + 2
    obtain ⟨v, d1, E1, v1, v2, hB1⟩ := take_ev (k + j + 1) S.length (.cst (.int 8)) (sf n m dep none none) S S n N 8 rfl ev_cst ⟨d, g, hB⟩ (by omega) (by omega) (by omega)
    have g1 := set_get g d1
    let S1 := S.set n d1
    let f := sf n m dep (some (.int v)) none
    have el : ev C.toCf (.lst false [(.cst (.str ("knight" : Str))), (.cst (.str ("liar" : Str)))]) f S1 = some (.ok (.lst [.str wKn, .str wLi]) S1) := ev_lstF (evs_cons ev_cst (evs_cons ev_cst evs_nil))
    have t1 : tst C.toCf (.disj [(.cmp .Lt (.nm 2) (.cst (.int 2))), (.cmp .Lt (.nm 3) (.cst (.int 2)))]) f S1 = some (.ok (decide (v < 2)) S1) := by
      have a : tst C.toCf (.cmp .Lt (.nm 2) (.cst (.int 2))) f S1 = some (.ok false S1) := tst_cmp (x := .int ((j + 2 : Nat) : Int)) (ev_nm rfl) ev_cst (by show some (decide (((j + 2 : Nat) : Int) < 2)) = _; rw [decide_eq_false (by omega)])
      have b : tst C.toCf (.cmp .Lt (.nm 3) (.cst (.int 2))) f S1 = some (.ok (decide (v < 2)) S1) := tst_cmp (ev_nm rfl) ev_cst rfl
      have := tst_disj_c (tsDisj_c a (tsDisj_c b tsDisj_nil))
      rwa [Bool.false_or, Bool.or_false] at this
    have t2 : tst C.toCf (.cmp .Eq (.nm 3) (.cst (.int 2))) f S1 = some (.ok (v == 2) S1) := tst_cmp (ev_nm rfl) ev_cst cmp_eqI
    have t3 : tst C.toCf (.cmp .Eq (.nm 3) (.cst (.int 3))) f S1 = some (.ok (v == 3) S1) := tst_cmp (ev_nm rfl) ev_cst cmp_eqI
    have fin : ∀ s d', Vm.execs C (b25.drop 1) f S1 = some (.ok (.ret (sD s)) (S.set n d')) → okS m s → gcOut S.length false (callR P (k + (j + 1) + 2) 25 [.ref n, .int (m : Int), .int ((j + 1 + 1 : Nat) : Int)] S) = some (.ok (sD s) (S.set n d')) := fun s d' e ho => by
      have run : callR P (k + j + 2 + 1) 25 [.ref n, .int (m : Int), .int ((j + 1 + 1 : Nat) : Int)] S = some (.ok (sD s) (S.set n d')) := by
        refine run_def fd25 rfl ?_
        show Vm.execs C b25 (sf n m dep none none) S = _
        exact (execs_nx (exec_asg (fr' := f) E1 rfl)).trans e
      show gcOut S.length false (callR P (k + (j + 1) + 2) 25 [.ref n, .int (m : Int), .int ((j + 1 + 1 : Nat) : Int)] S) = _
      rw [show k + (j + 1) + 2 = k + j + 2 + 1 by omega, run, gc_set (sd_refs (sD_sd s ho))]
    have sub : ∀ (T : Store) (d0 : D) (M : Int), T[n]? = some d0 → Bok M d0 → M ≤ 800000000 - sB (j + 1) → ∃ s d', ev C.toCf (.call 25 false [(.nm 0), (.nm 1), (.bin .Sub false (.nm 2) (.cst (.int 1)))] [0, 1, 2]) f T = some (.ok (sD s) (T.set n d')) ∧ okS m s ∧ dp s ≤ j + 1 ∧ Bok (M + sB (j + 1)) d' := fun T d0 M gT hT hM => by
      obtain ⟨s, d', e, ho, hd, hb⟩ := ih k n m T d0 M gT hT hM h1 h8
      refine ⟨s, d', ?_, ho, hd, hb⟩
      have e2 : ev C.toCf (.bin .Sub false (.nm 2) (.cst (.int 1))) f T = some (.ok (.int ((j + 1 : Nat) : Int)) T) := ev_bin (x := .int ((j + 2 : Nat) : Int)) (ev_nm rfl) ev_cst (by rw [subI]; congr 3; omega)
      refine ev_c3 (x := .ref n) (y := .int (m : Int)) (z := .int ((j + 1 : Nat) : Int)) (S1 := T) (S2 := T) (S3 := T) (ev_nm rfl) (ev_nm rfl) e2 ?_
      rw [show C.toCf.call = callR P (k + j + 2) from rfl]
      exact e
    have hv : v < 2 ∨ v = 2 ∨ v = 3 ∨ 4 ≤ v := by omega
    rcases hv with hv | rfl | rfl | hv
    · rw [decide_eq_true hv] at t1
      obtain ⟨u, d2, E2, u1, u2, hB2⟩ := take_ev (k + j + 1) S.length (.cst (.int 2)) f S1 S1 n _ 2 rfl ev_cst ⟨d1, g1, hB1⟩ (by omega) (by omega) (by omega)
      rw [List.set_set] at E2
      have g2 := set_get g d2
      obtain ⟨p, d3, E3, p1, p2, hB3⟩ := take_ev (k + j + 1) S.length (.nm 1) f (S.set n d2) (S.set n d2) n _ (m : Int) rfl (ev_nm rfl) ⟨d2, g2, hB2⟩ (by omega) (by omega) (by omega)
      rw [List.set_set] at E3
      have hp : ((p.toNat : Nat) : Int) = p := Int.toNat_of_nonneg p1
      have hu : u = 0 ∨ u = 1 := by omega
      rcases hu with rfl | rfl
      · have ho : okS m (.kn p.toNat) := by show p.toNat < m; omega
        refine ⟨.kn p.toNat, d3, fin _ _ ?_ ho, ho, by show 1 ≤ _; omega, hB3.mono (by omega)⟩
        refine execs_rt ((exec_ifT t1).trans (execs_rt (exec_ret ?_)))
        show _ = some (Rs.ok (D.tup [.str wKn, .int ((p.toNat : Nat) : Int)]) _)
        rw [hp]; exact ev_tup (evs_cons (ev_sub el E2 rfl) (evs_cons E3 evs_nil))
      · have ho : okS m (.li p.toNat) := by show p.toNat < m; omega
        refine ⟨.li p.toNat, d3, fin _ _ ?_ ho, ho, by show 1 ≤ _; omega, hB3.mono (by omega)⟩
        refine execs_rt ((exec_ifT t1).trans (execs_rt (exec_ret ?_)))
        show _ = some (Rs.ok (D.tup [.str wLi, .int ((p.toNat : Nat) : Int)]) _)
        rw [hp]; exact ev_tup (evs_cons (ev_sub el E2 rfl) (evs_cons E3 evs_nil))
    · obtain ⟨u, d2, E2, u1, u2, hB2⟩ := take_ev (k + j + 1) S.length (.bin .Add false (.nm 1) (.cst (.int 2))) f S1 S1 n _ ((m + 2 : Nat) : Int) rfl (ev_bin (ev_nm rfl) (ev_cst (d := .int ((2 : Nat) : Int))) addD) ⟨d1, g1, hB1⟩ (by omega) (by omega) (by omega)
      rw [List.set_set] at E2
      have g2 := set_get g d2
      obtain ⟨ps, d3, E3, hps, hB3⟩ := ct_draw (k + j + 1) S.length n m dep (S.set n d2) d2 _ (some (.int 2)) none g2 hB2 (by omega) h8
      rw [List.set_set] at E3
      let nn : Nat := (if u < 8 then u else 8).toNat
      have hnn : ((nn : Nat) : Int) = if u < 8 then u else 8 := Int.toNat_of_nonneg (by split <;> omega)
      have hn8 : nn ≤ 8 := by have : ((nn : Nat) : Int) ≤ 8 := by rw [hnn]; split <;> omega
                              omega
      have ho : okS m (.ct nn ps) := ct_ok hps h8 hn8
      refine ⟨.ct nn ps, d3, fin _ _ ?_ ho, ho, by show 1 ≤ _; omega, hB3.mono (by omega)⟩
      refine (execs_nx ((exec_ifF t1).trans execs_nil)).trans (execs_rt ((exec_ifT t2).trans (execs_rt (exec_ret ?_))))
      show _ = some (Rs.ok (D.tup [.str wCt, .int ((nn : Nat) : Int), .tup (iN ps)]) _)
      rw [hnn]
      exact ev_tup (evs_cons ev_cst (evs_cons (ev_blt (evs_cons (ev_cst (d := .int 8)) (evs_cons E2 evs_nil)) rfl) (evs_cons (ev_blt (evs_cons E3 evs_nil) rfl) evs_nil)))
    · obtain ⟨s, d2, E2, ho, hd, hB2⟩ := sub S1 d1 _ g1 hB1 (by omega)
      rw [List.set_set] at E2
      have ho' : okS m (.nt s) := ho
      refine ⟨.nt s, d2, fin _ _ ?_ ho', ho', by show dp s + 1 ≤ _; omega, hB2.mono (by omega)⟩
      exact (execs_nx ((exec_ifF t1).trans execs_nil)).trans ((execs_nx ((exec_ifF t2).trans execs_nil)).trans (execs_rt ((exec_ifT t3).trans (execs_rt (exec_ret (ev_tup (evs_cons ev_cst (evs_cons E2 evs_nil))))))))
    · rw [decide_eq_false (by omega)] at t1
      rw [show (v == 2) = false from beq_eq_false_iff_ne.mpr (by omega)] at t2
      rw [show (v == 3) = false from beq_eq_false_iff_ne.mpr (by omega)] at t3
      obtain ⟨u, d2, E2, u1, u2, hB2⟩ := take_ev (k + j + 1) S.length (.cst (.int 3)) f S1 S1 n _ 3 rfl ev_cst ⟨d1, g1, hB1⟩ (by omega) (by omega) (by omega)
      rw [List.set_set] at E2
      have g2 := set_get g d2
      obtain ⟨a, d3, E3, hoa, hda, hB3⟩ := sub (S.set n d2) d2 _ g2 hB2 (by omega)
      rw [List.set_set] at E3
      have g3 := set_get g d3
      obtain ⟨b, d4, E4, hob, hdb, hB4⟩ := sub (S.set n d3) d3 _ g3 hB3 (by omega)
      rw [List.set_set] at E4
      have e3 : ev C.toCf (.lst false [(.cst (.str ("and" : Str))), (.cst (.str ("or" : Str))), (.cst (.str ("same" : Str)))]) f S1 = some (.ok (.lst [.str wAn, .str wOr, .str wSm]) S1) := ev_lstF (evs_cons ev_cst (evs_cons ev_cst (evs_cons ev_cst evs_nil)))
      have hB4' : Bok (N + (2 + 2 * sB (j + 1))) d4 := hB4.mono (by omega)
      have hmx : max (dp a) (dp b) + 1 ≤ j + 1 + 1 := by omega
      have go : ∀ {w : Str}, L2.atI [D.str wAn, .str wOr, .str wSm] u = some (.str w) → Vm.execs C (b25.drop 1) f S1 = some (.ok (.ret (.tup [.str w, sD a, sD b])) (S.set n d4)) := fun {w} hw =>
        (execs_nx ((exec_ifF t1).trans execs_nil)).trans ((execs_nx ((exec_ifF t2).trans execs_nil)).trans ((execs_nx ((exec_ifF t3).trans execs_nil)).trans (execs_rt (exec_ret (ev_tup (evs_cons (ev_sub e3 E2 hw) (evs_cons E3 (evs_cons E4 evs_nil))))))))
      have hu : u = 0 ∨ u = 1 ∨ u = 2 := by omega
      rcases hu with rfl | rfl | rfl
      · exact ⟨.an a b, d4, fin (.an a b) _ (go rfl) ⟨hoa, hob⟩, ⟨hoa, hob⟩, hmx, hB4'⟩
      · exact ⟨.og a b, d4, fin (.og a b) _ (go rfl) ⟨hoa, hob⟩, ⟨hoa, hob⟩, hmx, hB4'⟩
      · exact ⟨.sm a b, d4, fin (.sm a b) _ (go rfl) ⟨hoa, hob⟩, ⟨hoa, hob⟩, hmx, hB4'⟩
end K55

/-! k55: a drawn talk -/
namespace K55
open PySem Vm
section
variable {S J : Store} {n : Nat} {d x y : D}
theorem st_n (hn : n < S.length) : (S.set n d ++ J)[n]? = some d := by
  rw [List.getElem?_append_left (by rw [List.length_set]; exact hn), List.getElem?_set_self hn]
theorem st_set (hn : n < S.length) (d' : D) : (S.set n d ++ J).set n d' = S.set n d' ++ J := by
  rw [List.set_append_left _ _ (by rw [List.length_set]; exact hn), List.set_set]
theorem st_L : (S.set n d ++ [x])[S.length]? = some x := by
  have : (S.set n d).length = S.length := List.length_set ..
  rw [← this]; exact get_last
theorem st_setL : (S.set n d ++ [x]).set S.length y = S.set n d ++ [y] := by
  have : (S.set n d).length = S.length := List.length_set ..
  rw [← this]; exact set_last
end
theorem saying_lv (K j n m : Nat) (S : Store) (d : D) (N : Int) (hK : j + 2 ≤ K) (hj : j ≤ 4) (g : S[n]? = some d) (hB : Bok N d) (hN : N ≤ 700000000) (h1 : 1 ≤ m) (h8 : m ≤ 8) :
    ∃ s d', gcOut S.length false (callR P K 25 [.ref n, .int (m : Int), .int ((j + 1 : Nat) : Int)] S) = some (.ok (sD s) (S.set n d')) ∧ okS m s ∧ dp s ≤ j + 1 ∧ Bok (N + 446) d' := by
  have := sB_5 (d := j + 1) (by omega)
  obtain ⟨s, d', e, h2, h3, h4⟩ := saying_call j (K - j - 2) n m S d N g hB (by omega) h1 h8
  rw [show K - j - 2 + j + 2 = K by omega] at e
  exact ⟨s, d', e, h2, h3, h4.mono (by omega)⟩
/-- call 25 with a drawn depth -/
theorem saying_ev (K m0 n m many : Nat) (fr : Fr) (T : Store) (d : D) (N : Int) (em : Ex) (h0 : getFr fr 0 = some (.ref n)) (he : ∀ T, ev (cg (K + 1) m0).toCf em fr T = some (.ok (.int (m : Int)) T)) (hm : 1 ≤ many ∧ many ≤ 5) (hK : 6 ≤ K) (g : T[n]? = some d) (hB : Bok N d) (hN : N ≤ 600000000) (h1 : 1 ≤ m) (h8 : m ≤ 8) :
    ∃ s d', ev (cg (K + 1) m0).toCf (.call 25 false [(.nm 0), em, (.bin .Add false (.cst (.int 1)) (.call 23 false [(.nm 0), (.cst (.int (many : Int)))] [0, 1]))] [0, 1, 2]) fr T = some (.ok (sD s) (T.set n d')) ∧ okS m s ∧ dp s ≤ many ∧ Bok (N + 447) d' := by
  obtain ⟨v, d1, E1, v1, v2, hB1⟩ := take_ev K m0 (.cst (.int (many : Int))) fr T T n N (many : Int) h0 ev_cst ⟨d, g, hB⟩ (by omega) (by omega) (by omega)
  have hv : ((v.toNat : Nat) : Int) = v := Int.toNat_of_nonneg v1
  obtain ⟨s, d2, e, ho, hd, hB2⟩ := saying_lv (K + 1) v.toNat n m (T.set n d1) d1 _ (by omega) (by omega) (set_get g d1) hB1 (by omega) h1 h8
  rw [List.set_set] at e
  refine ⟨s, d2, ?_, ho, by omega, hB2.mono (by omega)⟩
  have eb : ev (cg (K + 1) m0).toCf (.bin .Add false (.cst (.int 1)) (.call 23 false [(.nm 0), (.cst (.int (many : Int)))] [0, 1])) fr T = some (.ok (.int ((v.toNat + 1 : Nat) : Int)) (T.set n d1)) := ev_bin (ev_cst (d := .int 1)) E1 (by show some (Ou.v (.int (1 + v))) = _; congr 3; omega)
  refine ev_c3 (x := .ref n) (y := .int (m : Int)) (z := .int ((v.toNat + 1 : Nat) : Int)) (S1 := T) (S2 := T) (S3 := T.set n d1) (ev_nm h0) (he T) eb ?_
  rw [cg_call]; exact e
/-- a drawn world -/
theorem wd_draw (k mm n m i : Nat) (fr : Fr) (T : Store) (d : D) (N : Int) (em : Ex) (h0 : getFr fr 0 = some (.ref n)) (he : ev (cg (k + 1) mm).toCf em fr T = some (.ok (.int (m : Int)) T)) (hi : 0 < i) (hil : i < fr.length) (g : T[n]? = some d) (hB : Bok N d) (hN : N ≤ 900000000) (hm : m ≤ 8) :
    ∃ (w : W) (d' : D), ev (cg (k + 1) mm).toCf (.lc false (.nm i) [i] (.rng1 em) [] (.cmp .Eq (.call 23 false [(.nm 0), (.cst (.int 2))] [0, 1]) (.cst (.int 0)))) fr T = some (.ok (.lst (w.map .bl)) (T.set n d')) ∧ w.length = m ∧ Bok (N + 8) d' := by
  let C := cg (k + 1) mm
  have it : evIt C.toCf (.rng1 em) fr T = some (.ok ⟨iN (List.range m), none⟩ T) := by
    have := evIt_rng1 (C := C.toCf) (fr := fr) (S := T) (e := em) (j := (m : Int)) he (by simp only [big62, Bool.and_eq_true, decide_eq_true_eq]; omega)
    rwa [Int.toNat_natCast, rngL0] at this
  obtain ⟨out, T', e, w, d', h2, h3, h4, h5⟩ := ev_lcJ (C := C.toCf) (bx := false) (tg := .nm i) (own := [i]) (ifs := []) (elt := (.cmp .Eq (.call 23 false [(.nm 0), (.cst (.int 2))] [0, 1]) (.cst (.int 0))))
    (fun rest acc T1 => ∃ (w : List Bool) (d' : D), rest.length + w.length = m ∧ acc = w.map .bl ∧ T1 = T.set n d' ∧ Bok (N + w.length) d') it (by rw [iN_len, List.length_range]; omega) rfl
    ⟨[], d, by rw [iN_len, List.length_range]; rfl, rfl, (set_self g).symm, by simpa using hB⟩
    fun x r acc T1 ⟨w, d1, h2, h3, h4, h5⟩ => by
      subst h3 h4
      rw [List.length_cons] at h2
      let f : Fr := (fr.set i none).set i (some x)
      have hf0 : getFr f 0 = some (.ref n) := by
        show (((fr.set i none).set i (some x))[0]?).join = _
        rw [List.getElem?_set_ne (by omega), List.getElem?_set_ne (by omega)]
        exact h0
      obtain ⟨v, d2, E, v1, v2, hB2⟩ := take_ev k mm (.cst (.int 2)) f (T.set n d1) (T.set n d1) n _ 2 hf0 ev_cst ⟨d1, set_get g d1, h5⟩ (by omega) (by omega) (by omega)
      rw [List.set_set] at E
      refine ⟨f, ?_, .inr ⟨T.set n d1, .bl (v == 0), T.set n d2, tsts_nil, ev_cmp E (ev_cst (d := .int 0)) cmp_eqI, rfl, w ++ [v == 0], d2, by rw [List.length_append, List.length_singleton]; omega, by rw [List.map_append]; rfl, rfl, hB2.mono (by rw [List.length_append, List.length_singleton]; push_cast; omega)⟩⟩
      show (if i < (fr.set i none).length then some ((fr.set i none).set i (some x)) else none) = _
      rw [if_pos (by rw [List.length_set]; exact hil)]
  subst h3 h4
  have hwl : w.length = m := by simpa using h2
  refine ⟨w, d', ?_, hwl, h5.mono (by omega)⟩
  rw [e]; rfl
theorem fd29 : P.fd 29 = some ⟨1, 9, b29⟩ := rfl
/-- the frame of _law_talk -/
abbrev tf (n m : Nat) (way : Int) (w : W) (L : Nat) (x1 x6 x7 x8 : Option D) : Fr := [some (.ref n), x1, some (.int (m : Int)), some (.int way), some (wD w), some (.ref L), x6, x7, x8]
abbrev tkB : List Vm.St := [(.asg (.tup [(.nm 6), (.nm 7)]) (.tup [(.call 23 false [(.nm 0), (.nm 2)] [0, 1]), (.call 25 false [(.nm 0), (.nm 2), (.bin .Add false (.cst (.int 1)) (.call 23 false [(.nm 0), (.cst (.int 4))] [0, 1]))] [0, 1, 2])])), (.ife (.conj [(.cmp .Gt (.nm 3) (.cst (.int 0))), (.cmp .NotEq (.call 26 false [(.nm 4), (.nm 7)] [0, 1]) (.sub (.nm 4) (.nm 6)))]) [(.asg (.nm 7) (.tup [(.cst (.str ("not" : Str))), (.nm 7)]))] []), (.expr (.met .append (.nm 5) [(.tup [(.nm 6), (.nm 7)])]))]
theorem app_ps {S : Store} {n m : Nat} {d : D} {ps : List Sp} {q : Sp} (hm : m ≤ S.length) (hl : ps.length ≤ 100) : mtD m .append (.ref S.length) [pD q] (S.set n d ++ [.lst (ps.map pD)]) = some (.ok .non (S.set n d ++ [.lst ((ps ++ [q]).map pD)])) := by
  have hf : fits (ps.map pD).length = true := by rw [List.length_map]; simp only [fits, decide_eq_true_eq]; omega
  simp only [mtD, st_L, hf, barr, hm, decide_true, Bool.true_or, Bool.and_self, if_true, st_setL]
  simp
theorem tk_turn (k n m : Nat) (S : Store) (way : Int) (w : W) (d : D) (N : Int) (ps : List Sp) (x1 x6 x7 x8 : Option D) (hn : n < S.length) (hB : Bok N d) (hN : N ≤ 500000000) (h1 : 1 ≤ m) (h5 : m ≤ 5) (hw : w.length = m) (hl : ps.length ≤ 10) :
    ∃ q d' z6 z7, Vm.execs (cg (k + 9) S.length) tkB (tf n m way w S.length x1 x6 x7 x8) (S.set n d ++ [.lst (ps.map pD)]) = some (.ok (.nx (tf n m way w S.length x1 z6 z7 x8)) (S.set n d' ++ [.lst ((ps ++ [q]).map pD)])) ∧ okP m q ∧ dp q.2 ≤ 5 ∧ Bok (N + 500) d' := by
  let C := cg (k + 9) S.length
  let X : D := .lst (ps.map pD)
  let f := tf n m way w S.length x1 x6 x7 x8
  obtain ⟨p, d1, E1, p1, p2, hB1⟩ := take_ev (k + 8) S.length (.nm 2) f (S.set n d ++ [X]) (S.set n d ++ [X]) n N (m : Int) rfl (ev_nm rfl) ⟨d, st_n hn, hB⟩ (by omega) (by omega) (by omega)
  rw [st_set hn] at E1
  have hp : ((p.toNat : Nat) : Int) = p := Int.toNat_of_nonneg p1
  obtain ⟨s, d2, E2, ho, hd, hB2⟩ := saying_ev (k + 8) S.length n m 4 f (S.set n d1 ++ [X]) d1 _ (.nm 2) rfl (fun T => ev_nm rfl) (by omega) (by omega) (st_n hn) hB1 (by omega) h1 (by omega)
  rw [st_set hn] at E2
  let T2 := S.set n d2 ++ [X]
  let f2 := tf n m way w S.length x1 (some (.int p)) (some (sD s)) x8
  have e1 : Vm.exec C (.asg (.tup [(.nm 6), (.nm 7)]) (.tup [(.call 23 false [(.nm 0), (.nm 2)] [0, 1]), (.call 25 false [(.nm 0), (.nm 2), (.bin .Add false (.cst (.int 1)) (.call 23 false [(.nm 0), (.cst (.int 4))] [0, 1]))] [0, 1, 2])])) f (S.set n d ++ [X]) = some (.ok (.nx f2) T2) := exec_asg (d := .tup [.int p, sD s]) (ev_tup (evs_cons E1 (evs_cons E2 evs_nil))) rfl
  have ec : ev C.toCf (.call 26 false [(.nm 4), (.nm 7)] [0, 1]) f2 T2 = some (.ok (.bl (tr w s)) T2) := by
    refine ev_c2 (x := wD w) (y := sD s) (S1 := T2) (S2 := T2) (ev_nm rfl) (ev_nm rfl) ?_
    rw [show C.toCf.call = callR P (k + 9) from rfl]
    exact lt_call w s (k + 9) T2 (by rw [hw]; exact ho) (by omega)
  have ea : subD T2 (wD w) (.int p) = some (.bl (at_ w p.toNat)) := by
    have := at_get (S := T2) (w := w) (p := p.toNat) (by omega)
    rwa [hp] at this
  have t1 : tst C.toCf (.cmp .Gt (.nm 3) (.cst (.int 0))) f2 T2 = some (.ok (decide (0 < way)) T2) := tst_cmp (ev_nm rfl) ev_cst rfl
  have t2 : tst C.toCf (.cmp .NotEq (.call 26 false [(.nm 4), (.nm 7)] [0, 1]) (.sub (.nm 4) (.nm 6))) f2 T2 = some (.ok (!(tr w s == at_ w p.toNat)) T2) := tst_cmp ec (ev_sub (ev_nm rfl) (ev_nm rfl) ea) cmp_neb
  have tt := tst_conj_c (tsConj_c t1 (tsConj_c t2 tsConj_nil))
  have fin : ∀ s', okS m s' → dp s' ≤ 5 → Vm.exec C (.expr (.met .append (.nm 5) [(.tup [(.nm 6), (.nm 7)])])) (tf n m way w S.length x1 (some (.int p)) (some (sD s')) x8) T2 = some (.ok (.nx (tf n m way w S.length x1 (some (.int p)) (some (sD s')) x8)) (S.set n d2 ++ [.lst ((ps ++ [(p.toNat, s')]).map pD)])) := fun s' _ _ => by
    refine exec_expr (d := .non) (ev_met (n := S.length) (ev_nm rfl) st_L (evs_cons (ev_tup (evs_cons (ev_nm rfl) (evs_cons (ev_nm rfl) evs_nil))) evs_nil) ?_)
    have e := app_ps (S := S) (n := n) (m := S.length) (d := d2) (ps := ps) (q := (p.toNat, s')) (Nat.le_refl _) (by omega)
    unfold pD at e
    simp only [hp] at e
    exact e
  cases hc : (decide (0 < way) && (!(tr w s == at_ w p.toNat) && true)) with
  | true =>
    rw [hc] at tt
    have hq : okP m (p.toNat, .nt s) := ⟨by show p.toNat < m; omega, ho, by show dp s + 1 ≤ 6; omega⟩
    refine ⟨(p.toNat, .nt s), d2, some (.int p), some (sD (.nt s)), ?_, hq, by show dp s + 1 ≤ 5; omega, hB2.mono (by omega)⟩
    have e2 : Vm.exec C (.asg (.nm 7) (.tup [(.cst (.str ("not" : Str))), (.nm 7)])) f2 T2 = some (.ok (.nx (tf n m way w S.length x1 (some (.int p)) (some (sD (.nt s))) x8)) T2) := exec_asg (ev_tup (evs_cons ev_cst (evs_cons (ev_nm rfl) evs_nil))) rfl
    exact (execs_nx e1).trans ((execs_nx ((exec_ifT tt).trans ((execs_nx e2).trans execs_nil))).trans ((execs_nx (fin (.nt s) ho (by show dp s + 1 ≤ 5; omega))).trans execs_nil))
  | false =>
    rw [hc] at tt
    have hq : okP m (p.toNat, s) := ⟨by show p.toNat < m; omega, ho, by show dp s ≤ 6; omega⟩
    refine ⟨(p.toNat, s), d2, some (.int p), some (sD s), ?_, hq, by show dp s ≤ 5; omega, hB2.mono (by omega)⟩
    exact (execs_nx e1).trans ((execs_nx ((exec_ifF tt).trans execs_nil)).trans ((execs_nx (fin s ho (by omega))).trans execs_nil))
abbrev tk1 : Vm.St := (.asg (.tup [(.nm 2), (.nm 3)]) (.tup [(.sub (.lst false [(.cst (.int 2)), (.cst (.int 3)), (.cst (.int 4)), (.cst (.int 1)), (.cst (.int 5)), (.cst (.int 3))]) (.call 23 false [(.nm 0), (.cst (.int 6))] [0, 1])), (.call 23 false [(.nm 0), (.cst (.int 4))] [0, 1])]))
abbrev tk2 : Vm.St := (.asg (.tup [(.nm 4), (.nm 5)]) (.tup [(.blt .tuple false [(.lc false (.nm 8) [8] (.rng1 (.nm 2)) [] (.cmp .Eq (.call 23 false [(.nm 0), (.cst (.int 2))] [0, 1]) (.cst (.int 0))))]), (.lst true [])]))
abbrev tk4 : Vm.St := (.ife (.conj [(.cmp .Eq (.nm 3) (.cst (.int 3))), (.cmp .Eq (.call 23 false [(.nm 0), (.cst (.int 2))] [0, 1]) (.cst (.int 0)))]) [(.asg (.nm 6) (.call 23 false [(.nm 0), (.nm 2)] [0, 1])), (.expr (.met .append (.nm 5) [(.tup [(.nm 6), (.tup [(.cst (.str ("liar" : Str))), (.nm 6)])])]))] [])
theorem tk4_ex (k n m : Nat) (S : Store) (way : Int) (w : W) (d : D) (N : Int) (ps : List Sp) (x1 x6 x7 x8 : Option D) (hn : n < S.length) (hB : Bok N d) (hN : N ≤ 500000000) (h1 : 1 ≤ m) (h5 : m ≤ 5) (hl : ps.length ≤ 10) :
    ∃ qs d' z6, Vm.exec (cg (k + 9) S.length) tk4 (tf n m way w S.length x1 x6 x7 x8) (S.set n d ++ [.lst (ps.map pD)]) = some (.ok (.nx (tf n m way w S.length x1 z6 x7 x8)) (S.set n d' ++ [.lst ((ps ++ qs).map pD)])) ∧ (∀ q ∈ qs, okP m q) ∧ qs.length ≤ 1 ∧ Bok (N + 2) d' := by
  let C := cg (k + 9) S.length
  let X : D := .lst (ps.map pD)
  let f := tf n m way w S.length x1 x6 x7 x8
  let T := S.set n d ++ [X]
  have t1 : tst C.toCf (.cmp .Eq (.nm 3) (.cst (.int 3))) f T = some (.ok (way == 3) T) := tst_cmp (ev_nm rfl) ev_cst cmp_eqI
  cases hw : (way == 3) with
  | false =>
    rw [hw] at t1
    refine ⟨[], d, x6, ?_, fun q hq => absurd hq List.not_mem_nil, by simp, hB.mono (by omega)⟩
    rw [List.append_nil]
    exact (exec_ifF (tst_conj.trans (tsConj_F t1))).trans execs_nil
  | true =>
    rw [hw] at t1
    obtain ⟨v, d1, E1, v1, v2, hB1⟩ := take_ev (k + 8) S.length (.cst (.int 2)) f T T n N 2 rfl ev_cst ⟨d, st_n hn, hB⟩ (by omega) (by omega) (by omega)
    rw [show T.set n d1 = S.set n d1 ++ [X] from st_set hn d1] at E1
    have t2 : tst C.toCf (.cmp .Eq (.call 23 false [(.nm 0), (.cst (.int 2))] [0, 1]) (.cst (.int 0))) f T = some (.ok (v == 0) (S.set n d1 ++ [X])) := tst_cmp E1 ev_cst cmp_eqI
    cases hv : (v == 0) with
    | false =>
      rw [hv] at t2
      refine ⟨[], d1, x6, ?_, fun q hq => absurd hq List.not_mem_nil, by simp, hB1.mono (by omega)⟩
      rw [List.append_nil]
      exact (exec_ifF (tst_conj.trans ((tsConj_T t1).trans (tsConj_F t2)))).trans execs_nil
    | true =>
      rw [hv] at t2
      obtain ⟨p, d2, E2, p1, p2, hB2⟩ := take_ev (k + 8) S.length (.nm 2) f (S.set n d1 ++ [X]) (S.set n d1 ++ [X]) n _ (m : Int) rfl (ev_nm rfl) ⟨d1, st_n hn, hB1⟩ (by omega) (by omega) (by omega)
      rw [st_set hn] at E2
      have hp : ((p.toNat : Nat) : Int) = p := Int.toNat_of_nonneg p1
      let f2 := tf n m way w S.length x1 (some (.int p)) x7 x8
      let q : Sp := (p.toNat, .li p.toNat)
      have em : Vm.exec C (.expr (.met .append (.nm 5) [(.tup [(.nm 6), (.tup [(.cst (.str ("liar" : Str))), (.nm 6)])])])) f2 (S.set n d2 ++ [X]) = some (.ok (.nx f2) (S.set n d2 ++ [.lst ((ps ++ [q]).map pD)])) := by
        refine exec_expr (d := .non) (ev_met (n := S.length) (ev_nm rfl) st_L (evs_cons (ev_tup (evs_cons (ev_nm rfl) (evs_cons (ev_tup (evs_cons ev_cst (evs_cons (ev_nm rfl) evs_nil))) evs_nil))) evs_nil) ?_)
        have e := app_ps (S := S) (n := n) (m := S.length) (d := d2) (ps := ps) (q := q) (Nat.le_refl _) (by omega)
        have hq : pD q = .tup [.int p, .tup [.str wLi, .int p]] := by
          show D.tup [.int ((p.toNat : Nat) : Int), .tup [.str wLi, .int ((p.toNat : Nat) : Int)]] = _
          rw [hp]
        rw [hq] at e
        exact e
      refine ⟨[q], d2, some (.int p), ?_, fun q' hq => ?_, by simp, hB2.mono (by omega)⟩
      · exact (exec_ifT (tst_conj.trans ((tsConj_T t1).trans ((tsConj_T t2).trans tsConj_nil)))).trans ((execs_nx (exec_asg (fr' := f2) E2 rfl)).trans ((execs_nx em).trans execs_nil))
      · rw [List.mem_singleton.mp hq]
        exact ⟨by show p.toNat < m; omega, by show p.toNat < m; omega, by show 1 ≤ 6; omega⟩
theorem talk_call (k n : Nat) (S : Store) (d : D) (N : Int) (g : S[n]? = some d) (hB : Bok N d) (hN : N ≤ 400000000) :
    ∃ (m : Nat) (ps : List Sp) (d' : D), gcOut S.length false (callR P (k + 10) 29 [.ref n] S) = some (.ok (.lst [.int (m : Int), psD ps]) (S.set n d')) ∧ 1 ≤ m ∧ m ≤ 5 ∧ (∀ q ∈ ps, okP m q) ∧ ps.length ≤ 12 ∧ Bok (N + 4000) d' := by
  have hn : n < S.length := (List.getElem?_eq_some_iff.mp g).1
  let C := cg (k + 9) S.length
  let f0 (x2 x3 x4 x5 : Option D) : Fr := [some (.ref n), none, x2, x3, x4, x5, none, none, none]
  obtain ⟨v, d1, E1, v1, v2, hB1⟩ := take_ev (k + 8) S.length (.cst (.int 6)) (f0 none none none none) S S n N 6 rfl ev_cst ⟨d, g, hB⟩ (by omega) (by omega) (by omega)
  obtain ⟨way, d2, E2, w1, w2, hB2⟩ := take_ev (k + 8) S.length (.cst (.int 4)) (f0 none none none none) (S.set n d1) (S.set n d1) n _ 4 rfl ev_cst ⟨d1, set_get g d1, hB1⟩ (by omega) (by omega) (by omega)
  rw [List.set_set] at E2
  have el : ev C.toCf (.lst false [(.cst (.int 2)), (.cst (.int 3)), (.cst (.int 4)), (.cst (.int 1)), (.cst (.int 5)), (.cst (.int 3))]) (f0 none none none none) S = some (.ok (.lst [.int 2, .int 3, .int 4, .int 1, .int 5, .int 3]) S) := ev_lstF (evs_cons ev_cst (evs_cons ev_cst (evs_cons ev_cst (evs_cons ev_cst (evs_cons ev_cst (evs_cons ev_cst evs_nil))))))
  have em : ∃ m : Nat, L2.atI [D.int 2, .int 3, .int 4, .int 1, .int 5, .int 3] v = some (.int (m : Int)) ∧ 1 ≤ m ∧ m ≤ 5 := by
    have hv : v = 0 ∨ v = 1 ∨ v = 2 ∨ v = 3 ∨ v = 4 ∨ v = 5 := by omega
    rcases hv with rfl | rfl | rfl | rfl | rfl | rfl
    · exact ⟨2, rfl, by omega, by omega⟩
    · exact ⟨3, rfl, by omega, by omega⟩
    · exact ⟨4, rfl, by omega, by omega⟩
    · exact ⟨1, rfl, by omega, by omega⟩
    · exact ⟨5, rfl, by omega, by omega⟩
    · exact ⟨3, rfl, by omega, by omega⟩
  obtain ⟨m, em, m1, m5⟩ := em
  have x1 : Vm.exec C tk1 (f0 none none none none) S = some (.ok (.nx (f0 (some (.int (m : Int))) (some (.int way)) none none)) (S.set n d2)) := exec_asg (d := .tup [.int (m : Int), .int way]) (ev_tup (evs_cons (ev_sub el E1 em) (evs_cons E2 evs_nil))) rfl
  have g2 := set_get g d2
  obtain ⟨w, d3, E3, hw, hB3⟩ := wd_draw (k + 8) S.length n m 8 (f0 (some (.int (m : Int))) (some (.int way)) none none) (S.set n d2) d2 _ (.nm 2) rfl (ev_nm rfl) (by omega) (by show 8 < 9; omega) g2 hB2 (by omega) (by omega)
  rw [List.set_set] at E3
  let f := tf n m way w S.length
  have hlen : (S.set n d3).length = S.length := List.length_set ..
  have x2 : Vm.exec C tk2 (f0 (some (.int (m : Int))) (some (.int way)) none none) (S.set n d2) = some (.ok (.nx (f none none none none)) (S.set n d3 ++ [.lst []])) := by
    refine exec_asg (d := .tup [wD w, .ref (S.set n d3).length]) (ev_tup (evs_cons (ev_blt (evs_cons E3 evs_nil) rfl) (evs_cons (ev_lstT evs_nil) evs_nil))) ?_
    rw [hlen]; rfl
  let X : D := .lst []
  obtain ⟨c, d4, E4, c1, c2, hB4⟩ := take_ev (k + 8) S.length (.cst (.int 6)) (f none none none none) (S.set n d3 ++ [.lst []]) (S.set n d3 ++ [.lst []]) n _ 6 rfl ev_cst ⟨d3, st_n hn, hB3⟩ (by omega) (by omega) (by omega)
  rw [st_set hn] at E4
  have it : evIt C.toCf (.rng1 (.call 23 false [(.nm 0), (.cst (.int 6))] [0, 1])) (f none none none none) (S.set n d3 ++ [.lst []]) = some (.ok ⟨rngL 0 c.toNat, none⟩ (S.set n d4 ++ [.lst []])) := evIt_rng1 E4 (by simp only [big62, Bool.and_eq_true, decide_eq_true_eq]; omega)
  obtain ⟨fr', T', e3, ps, d5, y1, y6, y7, j, rfl, rfl, hj, hps, hpl, hB5⟩ := forGo_inv (f := fun d fr T => gcFl false T.length (bnd (lift (asgT (.nm 1) d fr) T) fun fr' S' => Vm.execs (C.up false T) tkB fr' S')) (st := (Its.mk (rngL 0 c.toNat) none).still)
    (fun rest fr0 T1 => ∃ (ps : List Sp) (d5 : D) (y1 y6 y7 : Option D) (j : Nat), fr0 = f y1 y6 y7 none ∧ T1 = S.set n d5 ++ [.lst (ps.map pD)] ∧ rest.length + j = c.toNat ∧ (∀ q ∈ ps, okP m q) ∧ ps.length = j ∧ Bok (N + 11 + 500 * j) d5) (rngL 0 c.toNat) (f none none none none) (S.set n d4 ++ [.lst []])
    ⟨[], d4, none, none, none, 0, rfl, rfl, by simp [rngL], fun q hq => absurd hq List.not_mem_nil, rfl, hB4.mono (by omega)⟩
    fun x r fr0 T1 ⟨ps, d5, y1, y6, y7, j, ef, eT, hj, hps, hpl, hB5⟩ => by
      subst ef eT
      rw [List.length_cons] at hj
      obtain ⟨q, d6, z6, z7, ee, hq, _, hB6⟩ := tk_turn k n m S way w d5 _ ps (some x) y6 y7 none hn hB5 (by omega) m1 m5 hw (by omega)
      refine ⟨f (some x) z6 z7 none, _, .inl ee, rfl, ps ++ [q], d6, some x, z6, z7, j + 1, rfl, rfl, by omega, fun q' hq' => ?_, by simp [hpl], hB6.mono (by push_cast; omega)⟩
      rcases List.mem_append.mp hq' with h | h
      · exact hps q' h
      · rw [List.mem_singleton.mp h]; exact hq
  have hjc : j = c.toNat := by simpa using hj
  obtain ⟨qs, d6, z6, E6, hqs, hql, hB6⟩ := tk4_ex k n m S way w d5 _ ps y1 y6 y7 none hn hB5 (by omega) m1 m5 (by omega)
  have E7 : ev C.toCf (.lst false [(.nm 2), (.blt .tuple false [(.nm 5)])]) (f y1 z6 y7 none) (S.set n d6 ++ [.lst ((ps ++ qs).map pD)]) = some (.ok (.lst [.int (m : Int), psD (ps ++ qs)]) (S.set n d6 ++ [.lst ((ps ++ qs).map pD)])) := by
    refine ev_lstF (evs_cons (ev_nm rfl) (evs_cons (ev_blt (evs_cons (ev_nm rfl) evs_nil) ?_) evs_nil))
    simp [btD, seqOf, st_L, psD]
  have hall : ∀ q ∈ ps ++ qs, okP m q := fun q hq => by
    rcases List.mem_append.mp hq with h | h
    · exact hps q h
    · exact hqs q h
  have hlen12 : (ps ++ qs).length ≤ 12 := by rw [List.length_append]; omega
  refine ⟨m, ps ++ qs, d6, ?_, m1, m5, hall, hlen12, hB6.mono (by omega)⟩
  have run : callR P (k + 10) 29 [.ref n] S = some (.ok (.lst [.int (m : Int), psD (ps ++ qs)]) (S.set n d6 ++ [.lst ((ps ++ qs).map pD)])) := by
    refine run_def fd29 rfl ?_
    show Vm.execs C b29 (f0 none none none none) S = _
    rw [b29]
    exact (execs_nx x1).trans ((execs_nx x2).trans ((execs_nx ((exec_for it rfl).trans e3)).trans ((execs_nx E6).trans (execs_rt (exec_ret E7)))))
  rw [run, gc_plain' (by simp [refsLt, refsLts, sd_refs (psD_sd hall hlen12)])]
  rw [show S.length = (S.set n d6).length by rw [List.length_set], List.take_left]
end K55

/-! k55: right: the worlds, the sole world -/
namespace K55
open PySem Vm
theorem for_turns {C : Cg} {it : It} {b : List Vm.St} {fr : Fr} {T : Store} {ds : List D} {n i : Nat} {d : D} {N w : Int} (F : Fr → Prop) (hw : 0 ≤ w) (hit : evIt C.toCf it fr T = some (.ok ⟨ds, none⟩ T)) (hF : F fr) (g : T[n]? = some d) (hB : Bok N d)
    (step : ∀ q ∈ ds, ∀ fr T d M, F fr → T[n]? = some d → Bok M d → M ≤ N + w * (ds.length : Nat) → ∃ fr1 fr' d', asgT (.nm i) q fr = some fr1 ∧ Vm.execs C b fr1 T = some (.ok (.nx fr') (T.set n d')) ∧ F fr' ∧ Bok (M + w) d') :
    ∃ fr' d', Vm.exec C (.for_ false (.nm i) it b) fr T = some (.ok (.nx fr') (T.set n d')) ∧ F fr' ∧ Bok (N + w * (ds.length : Nat)) d' := by
  obtain ⟨fr', T9, el, _, hl, d', rfl, hB', hF'⟩ := forGo_inv (f := fun d fr T => gcFl false T.length (bnd (lift (asgT (.nm i) d fr) T) fun fr' S' => Vm.execs (C.up false T) b fr' S')) (st := (Its.mk ds none).still)
    (fun rest fr0 T0 => (∀ x ∈ rest, x ∈ ds) ∧ rest.length ≤ ds.length ∧ ∃ d', T0 = T.set n d' ∧ Bok (N + w * ((ds.length - rest.length : Nat) : Int)) d' ∧ F fr0)
    ds fr T ⟨fun _ h => h, Nat.le_refl _, d, (set_self g).symm, hB.mono (by rw [Nat.sub_self]; omega), hF⟩
    fun q r fr0 T0 ⟨hm, hl, d0, e0, hB0, hF0⟩ => by
      subst e0
      rw [List.length_cons] at hl
      have h1 : w * ((ds.length - (q :: r).length : Nat) : Int) ≤ w * (ds.length : Nat) := Int.mul_le_mul_of_nonneg_left (by omega) hw
      obtain ⟨fr1, fr', d', ea, ee, hF1, hB1⟩ := step q (hm q (by simp)) fr0 _ d0 _ hF0 (set_get g d0) hB0 (by omega)
      rw [List.set_set] at ee
      refine ⟨fr', T.set n d', .inl ?_, rfl, fun x hx => hm x (by simp [hx]), by omega, d', rfl, hB1.mono ?_, hF1⟩
      · show gcFl false _ (bnd (lift (asgT (.nm i) q fr0) (T.set n d0)) fun fr' S' => Vm.execs C b fr' S') = _
        rw [ea]
        show gcFl false _ (Vm.execs C b fr1 (T.set n d0)) = _
        rw [ee]; rfl
      · rw [List.length_cons]
        have : ((ds.length - r.length : Nat) : Int) = ((ds.length - (r.length + 1) : Nat) : Int) + 1 := by omega
        rw [this, Int.mul_add, Int.mul_one, Int.add_assoc]; omega
  exact ⟨fr', d', (exec_for hit rfl).trans el, hF', hB'.mono (by simp)⟩
theorem told_sd (n : Nat) : sd n told = true := s_sd n (by decide +kernel)
theorem pair_sd {n : Nat} {a d : D} (ha : sd n a = true) (h : sd n d = true) : sd (n + 1) (.lst [a, d]) = true := by
  show (decide _ && [a, d].all (sd n)) = true
  simp only [List.all_cons, List.all_nil, ha, h]; rfl
theorem fd31 : P.fd 31 = some ⟨4, 14, b31⟩ := rfl
theorem wL_sd (n : Nat) {l : List W} (hw : ∀ w ∈ l, w.length ≤ 8) (hl : l.length ≤ 1000) : sd (n + 2) (.lst (wL l)) = true := by
  have : (wL l).all (sd (n + 1)) = true := by
    rw [List.all_eq_true]
    intro d hd
    obtain ⟨w, hwm, rfl⟩ := List.mem_map.mp hd
    exact wD_sd n (by have := hw w hwm; omega)
  rw [sd, this, decide_eq_true (by rw [wL_len]; exact hl)]; rfl
/-- the worlds told, boxed, beside the due ones -/
theorem same_due (k : Nat) (S : Store) (L : Nat) (l : List W) (hw : ∀ w ∈ l, w.length ≤ 8) (hl : l.length ≤ 1000) (hL : S[L]? = some (.lst (wL l))) :
    gcOut S.length false (callR P (k + 9) 24 [.lst [.lst [told, .ref L], .lst [told, soleD l]], .lst [.lst [told, .lst (wL l)], .lst [told, soleD l]]] S) = some (.ok (.bl true) S) := by
  have hs : sd 6 (soleD l) = true := sd_up (soleD_sd fun w h => by have := hw w h; omega) (by omega)
  refine same_gen (k + 8) (.lst [.lst [told, .ref L], .lst [told, soleD l]]) (.lst [.lst [told, .lst (wL l)], .lst [told, soleD l]]) [.lst [told, .ref L], .lst [told, soleD l]] [.lst [told, .lst (wL l)], .lst [told, soleD l]] S "list" rfl (.inl ⟨rfl, rfl⟩) rfl (fun i => rfl) rfl (by simp) fun i a b ha hb => ?_
  match i, ha, hb with
  | 0, ha, hb =>
    cases ha; cases hb
    refine same_gen (k + 7) (.lst [told, .ref L]) (.lst [told, .lst (wL l)]) [told, .ref L] [told, .lst (wL l)] S "list" rfl (.inl ⟨rfl, rfl⟩) rfl (fun i => rfl) rfl (by simp) fun i a b ha hb => ?_
    match i, ha, hb with
    | 0, ha, hb =>
      cases ha; cases hb
      exact same_call 6 k told S (told_sd 6)
    | 1, ha, hb =>
      cases ha; cases hb
      refine same_gen (k + 6) (.ref L) (.lst (wL l)) (wL l) (wL l) S "list" (by simp [tyName, hL]) (.inl ⟨rfl, rfl⟩) (by simp [lenD, hL]) (fun i => ?_) rfl (by rw [wL_len]; exact hl) fun j a b ha hb => ?_
      · show (match dctOf S (.ref L) with | some q => _ | none => _) = _
        have : dctOf S (.ref L) = none := by simp [dctOf, hL]
        rw [this]
        simp [seqOf, hL]
      · rw [ha] at hb
        cases hb
        obtain ⟨w, hwm, rfl⟩ := List.mem_map.mp (List.mem_of_getElem? ha)
        exact same_call 5 k (wD w) S (wD_sd 4 (by have := hw w hwm; omega))
    | i + 2, ha, hb => simp at ha
  | 1, ha, hb =>
    cases ha; cases hb
    exact same_call 7 k (.lst [told, soleD l]) S (pair_sd (told_sd 6) hs)
  | i + 2, ha, hb => simp at ha
abbrev rr (n m : Nat) (ps : List Sp) (bn : Bool) (l : List W) (x5 x6 x7 x8 x9 x10 x11 x12 x13 : Option D) : Fr := [some (.ref n), some (.int (m : Int)), some (psD ps), some (.bl bn), some (.lst (wL l)), x5, x6, x7, x8, x9, x10, x11, x12, x13]
abbrev rA : List Vm.St := [(.asg (.nm 7) (.lc false (.nm 13) [13] (.val (.tup [(.cst (.int 0)), (.cst (.int 1))])) [] (.call 30 true [(.nm 13), (.nm 1), (.nm 2), (.cst .non), (.nm 5)] [0, 1, 2, 3, 4]))), (.ife (.neg (.v (.call 24 false [(.nm 7), (.lst false [(.lst false [(.cst (.str ("told" : Str))), (.nm 4)]), (.lst false [(.cst (.str ("told" : Str))), (.ite (.cmp .Eq (.blt .len false [(.nm 4)]) (.cst (.int 1))) (.sub (.nm 4) (.cst (.int 0))) (.cst .non))])])] [0, 1]))) [(.ret (.cst (.bl false)))] []), (.expr (.met .append (.sub (.sub (.nm 7) (.cst (.int 0))) (.cst (.int 1))) [(.cst .non)]))]
abbrev aE : Ex := (.call 30 true [(.nm 13), (.nm 1), (.nm 2), (.cst .non), (.nm 5)] [0, 1, 2, 3, 4])
theorem a_ev {K m0 : Nat} {fr : Fr} {T : Store} {q1 q2 q5 : D} {w : Nat} {r : Option (Rs D)} (h13 : getFr fr 13 = some (.int (w : Int))) (h1 : getFr fr 1 = some q1) (h2 : getFr fr 2 = some q2) (h5 : getFr fr 5 = some q5) (hc : gcOut T.length true (callR P K 30 [.int (w : Int), q1, q2, .non, q5] T) = r) : ev (cg K m0).toCf aE fr T = r := by
  refine ev_call (ds' := [.int (w : Int), q1, q2, .non, q5]) (evs_cons (ev_nm h13) (evs_cons (ev_nm h1) (evs_cons (ev_nm h2) (evs_cons ev_cst (evs_cons (ev_nm h5) evs_nil))))) rfl ?_
  rw [cg_call]; exact hc
theorem a_turn (k m0 n m : Nat) (ps : List Sp) (bn nb : Bool) (T : Store) (x6 x7 x8 x9 x10 x11 x12 x13 : Option D) (h1 : 1 ≤ m) (h8 : m ≤ 8) (hps : ∀ q ∈ ps, okP m q) (hpl : ps.length ≤ 12) :
    ∃ z7, Vm.execs (cg (k + 12) m0) rA (rr n m ps bn (fw m ps) (some (.bl nb)) x6 x7 x8 x9 x10 x11 x12 x13) T = some (.ok (.nx (rr n m ps bn (fw m ps) (some (.bl nb)) x6 z7 x8 x9 x10 x11 x12 x13)) (T ++ [.lst (wL (fw m ps) ++ [.non])])) := by
  let l := fw m ps
  let C := cg (k + 12) m0
  let f (x7 x13 : Option D) : Fr := rr n m ps bn l (some (.bl nb)) x6 x7 x8 x9 x10 x11 x12 x13
  let T1 := T ++ [D.lst (wL l)]
  have hw : ∀ w ∈ l, w.length ≤ 8 := fun w h => by have := fw_mem h; omega
  have hl : l.length ≤ 256 := fw_len h8
  have hA : askR (k + 11) T 0 (.int (m : Int)) (psD ps) .non = some (.ok (.ref T.length) T1) := worlds_ok (k + 1) m T ps h1 h8 hps hpl
  have eA : ev C.toCf aE (f x7 (some (.int ((0 : Nat) : Int)))) T = some (.ok (.lst [told, .ref T.length]) T1) := by
    refine a_ev (w := 0) rfl rfl rfl rfl ?_
    rw [asked_run (k + 11) 0 nb (by omega) hA]
    have hr : refsLt T.length (.lst [told, .ref T.length]) = false := by simp [refsLt, refsLts, told]
    simp only [gcOut, if_true]
    rw [if_neg (by rw [hr]; exact Bool.false_ne_true)]
  have hsd : sd 2 (soleD l) = true := soleD_sd fun w h => by have := hw w h; omega
  have hB : askR (k + 11) T1 1 (.int (m : Int)) (psD ps) .non = some (.ok (soleD l) T1) := sole_ok (k + 1) m T1 ps h1 h8 hps hpl
  have eB : ev C.toCf aE (f x7 (some (.int ((1 : Nat) : Int)))) T1 = some (.ok (.lst [told, soleD l]) T1) := by
    refine a_ev (w := 1) rfl rfl rfl rfl ?_
    rw [asked_run (k + 11) 1 nb (by omega) hB]
    have hr : refsLt T1.length (.lst [told, soleD l]) = true := by simp [refsLt, refsLts, told, sd_refs hsd]
    simp only [gcOut, if_true]
    rw [if_pos hr, List.take_length]
  have e1 : ev C.toCf (.lc false (.nm 13) [13] (.val (.tup [(.cst (.int 0)), (.cst (.int 1))])) [] aE) (f x7 x13) T = some (.ok (.lst [.lst [told, .ref T.length], .lst [told, soleD l]]) T1) := by
    obtain ⟨out, T', e, h⟩ := ev_lcJ (C := C.toCf) (bx := false) (tg := .nm 13) (own := [13]) (ifs := []) (elt := aE) (fr := f x7 x13) (S := T) (S1 := T) (t := ⟨[.int 0, .int 1], none⟩) (it := .val (.tup [(.cst (.int 0)), (.cst (.int 1))]))
      (fun rest acc T2 => (rest = [.int 0, .int 1] ∧ acc = [] ∧ T2 = T) ∨ (rest = [.int 1] ∧ acc = [.lst [told, .ref T.length]] ∧ T2 = T1) ∨ (rest = [] ∧ acc = [.lst [told, .ref T.length], .lst [told, soleD l]] ∧ T2 = T1))
      (evIt_val (ev_tup (evs_cons ev_cst (evs_cons ev_cst evs_nil))) rfl) (by simp) rfl (.inl ⟨rfl, rfl, rfl⟩) fun x r acc T2 h => by
        rcases h with ⟨h1, rfl, rfl⟩ | ⟨h1, rfl, rfl⟩ | ⟨h1, _, _⟩
        · cases h1
          exact ⟨f x7 (some (.int 0)), rfl, .inr ⟨_, _, _, tsts_nil, eA, rfl, .inr (.inl ⟨rfl, rfl, rfl⟩)⟩⟩
        · cases h1
          exact ⟨f x7 (some (.int 1)), rfl, .inr ⟨_, _, _, tsts_nil, eB, rfl, .inr (.inr ⟨rfl, rfl, rfl⟩)⟩⟩
        · cases h1
    rcases h with ⟨h, _, _⟩ | ⟨h, _, _⟩ | ⟨_, rfl, rfl⟩
    · cases h
    · cases h
    · rw [e]; rfl
  let X : D := .lst [.lst [told, .ref T.length], .lst [told, soleD l]]
  let f1 := f (some X) x13
  have e2 : ev C.toCf (.call 24 false [(.nm 7), (.lst false [(.lst false [(.cst (.str ("told" : Str))), (.nm 4)]), (.lst false [(.cst (.str ("told" : Str))), (.ite (.cmp .Eq (.blt .len false [(.nm 4)]) (.cst (.int 1))) (.sub (.nm 4) (.cst (.int 0))) (.cst .non))])])] [0, 1]) f1 T1 = some (.ok (.bl true) T1) := by
    refine ev_c2 (x := X) (y := .lst [.lst [told, .lst (wL l)], .lst [told, soleD l]]) (S1 := T1) (S2 := T1) (ev_nm rfl) (ev_lstF (evs_cons (ev_lstF (evs_cons ev_cst (evs_cons (ev_nm rfl) evs_nil))) (evs_cons (ev_lstF (evs_cons ev_cst (evs_cons (sole_ev l rfl) evs_nil))) evs_nil))) ?_
    rw [show C.toCf.call = callR P (k + 12) from rfl]
    exact same_due (k + 3) T1 T.length l hw (by omega) get_last
  have e3 : ev C.toCf (.met .append (.sub (.sub (.nm 7) (.cst (.int 0))) (.cst (.int 1))) [(.cst .non)]) f1 T1 = some (.ok .non (T ++ [.lst (wL l ++ [.non])])) := by
    refine ev_met (n := T.length) (xs := wL l) (ev_sub (x := .lst [told, .ref T.length]) (ev_sub (x := X) (ev_nm rfl) ev_cst rfl) ev_cst rfl) get_last (evs_cons ev_cst evs_nil) ?_
    have hf : fits (wL l).length = true := by rw [wL_len]; simp only [fits, decide_eq_true_eq]; omega
    have hb : barr m0 T.length [D.non] = true := by simp [barr, refsLts, refsLt]
    show mtD m0 .append (.ref T.length) [.non] T1 = _
    simp only [mtD, T1, get_last, hf, hb, Bool.and_self, if_true, set_last]
  exact ⟨some X, (execs_nx (exec_asg (fr' := f1) e1 rfl)).trans ((execs_nx ((exec_ifF (tst_neg (tst_vb e2))).trans execs_nil)).trans ((execs_nx (exec_expr e3)).trans execs_nil))⟩
/-- both ways -/
theorem a_loop (k m0 n m : Nat) (ps : List Sp) (bn : Bool) (T : Store) (h1 : 1 ≤ m) (h8 : m ≤ 8) (hps : ∀ q ∈ ps, okP m q) (hpl : ps.length ≤ 12) :
    ∃ z5 z7 J, Vm.exec (cg (k + 12) m0) (.for_ false (.nm 5) (.val (.tup [(.nm 3), (.notE (.v (.nm 3)))])) rA) (rr n m ps bn (fw m ps) none none none none none none none none none) T = some (.ok (.nx (rr n m ps bn (fw m ps) z5 none z7 none none none none none none)) (T ++ J)) := by
  let C := cg (k + 12) m0
  let f (x5 x7 : Option D) : Fr := rr n m ps bn (fw m ps) x5 none x7 none none none none none none
  have it : evIt C.toCf (.val (.tup [(.nm 3), (.notE (.v (.nm 3)))])) (f none none) T = some (.ok ⟨[.bl bn, .bl (!bn)], none⟩ T) := evIt_val (ev_tup (evs_cons (ev_nm rfl) (evs_cons (ev_notE (tst_vb (ev_nm rfl))) evs_nil))) rfl
  obtain ⟨fr', T', el, z5, z7, J, rfl, rfl, _⟩ := forGo_inv (f := fun d fr T => gcFl false T.length (bnd (lift (asgT (.nm 5) d fr) T) fun fr' S' => Vm.execs (C.up false T) rA fr' S')) (st := (Its.mk [.bl bn, .bl (!bn)] none).still)
    (fun rest fr0 T1 => ∃ z5 z7 J, fr0 = f z5 z7 ∧ T1 = T ++ J ∧ ∃ bs : List Bool, rest = bs.map .bl) [.bl bn, .bl (!bn)] (f none none) T ⟨none, none, [], rfl, by simp, [bn, !bn], rfl⟩
    fun d r fr0 T1 ⟨z5, z7, J, ef, eT, bs, eb⟩ => by
      subst ef eT
      cases bs with
      | nil => simp at eb
      | cons b bs =>
        obtain ⟨rfl, rfl⟩ : d = .bl b ∧ r = bs.map .bl := by simpa using eb
        obtain ⟨z, e⟩ := a_turn k m0 n m ps bn b (T ++ J) none z7 none none none none none none h1 h8 hps hpl
        exact ⟨f (some (.bl b)) z, _, .inl e, rfl, _, _, J ++ [.lst (wL (fw m ps) ++ [.non])], rfl, by rw [List.append_assoc], bs, rfl⟩
  exact ⟨z5, z7, J, (exec_for it rfl).trans el⟩
end K55

/-! k55: right: sayings -/
namespace K55
open PySem Vm
section
variable (k m0 n m : Nat) (ps : List Sp) (bn : Bool) (l : List W) (T : Store)
abbrev r2 : Vm.St := (.ife (.conj [(.cmp .Eq (.nm 6) (.cst (.int 4))), (.cmp .NotEq (.nm 4) (.lst false []))]) [(.asg (.nm 12) (.call 23 false [(.nm 0), (.nm 1)] [0, 1])), (.asg (.nm 8) (.tup [(.sub (.lst false [(.cst (.str ("or" : Str))), (.cst (.str ("and" : Str)))]) (.call 23 false [(.nm 0), (.cst (.int 2))] [0, 1])), (.tup [(.cst (.str ("knight" : Str))), (.nm 12)]), (.tup [(.cst (.str ("liar" : Str))), (.nm 12)])]))] [])
theorem wL_ok (hw : ∀ w ∈ l, w.length ≤ 8) : (wL l).all (okD 19) = true := List.all_eq_true.mpr fun d hd => by
  obtain ⟨w, hwm, rfl⟩ := List.mem_map.mp hd
  exact okD_up (sd_ok 1 (wD w) (wD_sd 0 (by have := hw w hwm; omega))) (by omega)
theorem r2_ex (s : Sy) (d : D) (N v : Int) (x5 x7 x9 x10 x11 x12 x13 : Option D) (g : T[n]? = some d) (hB : Bok N d) (hN : N ≤ 500000000) (h1 : 1 ≤ m) (h8 : m ≤ 8) (hw : ∀ w ∈ l, w.length ≤ 8) (hs : okS m s) (hd : dp s ≤ 5) :
    ∃ s' d' z12, Vm.exec (cg (k + 12) m0) r2 (rr n m ps bn l x5 (some (.int v)) x7 (some (sD s)) x9 x10 x11 x12 x13) T = some (.ok (.nx (rr n m ps bn l x5 (some (.int v)) x7 (some (sD s')) x9 x10 x11 z12 x13)) (T.set n d')) ∧ okS m s' ∧ dp s' ≤ 5 ∧ Bok (N + 2) d' := by
  let C := cg (k + 12) m0
  let f := rr n m ps bn l x5 (some (.int v)) x7 (some (sD s)) x9 x10 x11 x12 x13
  have t1 : tst C.toCf (.cmp .Eq (.nm 6) (.cst (.int 4))) f T = some (.ok (v == 4) T) := tst_cmp (ev_nm rfl) ev_cst cmp_eqI
  have t2 : tst C.toCf (.cmp .NotEq (.nm 4) (.lst false [])) f T = some (.ok (!(wL l).isEmpty) T) := by
    refine tst_cmp (ev_nm rfl) (ev_lstF evs_nil) ?_
    simp only [cmpD, eqS_lst0 (S := T) (wL_refs 0 l) (wL_ok l hw)]
    rfl
  have tt := tst_conj_c (tsConj_c t1 (tsConj_c t2 tsConj_nil))
  cases hc : ((v == 4) && (!(wL l).isEmpty && true)) with
  | false =>
    rw [hc] at tt
    exact ⟨s, d, x12, by rw [set_self g]; exact (exec_ifF tt).trans execs_nil, hs, hd, hB.mono (by omega)⟩
  | true =>
    rw [hc] at tt
    obtain ⟨p, d1, E1, p1, p2, hB1⟩ := take_ev (k + 11) m0 (.nm 1) f T T n N (m : Int) rfl (ev_nm rfl) ⟨d, g, hB⟩ (by omega) (by omega) (by omega)
    have hp : ((p.toNat : Nat) : Int) = p := Int.toNat_of_nonneg p1
    let f2 := rr n m ps bn l x5 (some (.int v)) x7 (some (sD s)) x9 x10 x11 (some (.int p)) x13
    obtain ⟨u, d2, E2, u1, u2, hB2⟩ := take_ev (k + 11) m0 (.cst (.int 2)) f2 (T.set n d1) (T.set n d1) n _ 2 rfl ev_cst ⟨d1, set_get g d1, hB1⟩ (by omega) (by omega) (by omega)
    rw [List.set_set] at E2
    have el : ev C.toCf (.lst false [(.cst (.str ("or" : Str))), (.cst (.str ("and" : Str)))]) f2 (T.set n d1) = some (.ok (.lst [.str wOr, .str wAn]) (T.set n d1)) := ev_lstF (evs_cons ev_cst (evs_cons ev_cst evs_nil))
    have hk : sD (.kn p.toNat) = .tup [.str wKn, .int p] := by show D.tup [.str wKn, .int ((p.toNat : Nat) : Int)] = _; rw [hp]
    have hl : sD (.li p.toNat) = .tup [.str wLi, .int p] := by show D.tup [.str wLi, .int ((p.toNat : Nat) : Int)] = _; rw [hp]
    have hpm : p.toNat < m := by omega
    have go : ∀ {w : Str}, L2.atI [D.str wOr, .str wAn] u = some (.str w) → Vm.exec C r2 f T = some (.ok (.nx (rr n m ps bn l x5 (some (.int v)) x7 (some (.tup [.str w, sD (.kn p.toNat), sD (.li p.toNat)])) x9 x10 x11 (some (.int p)) x13)) (T.set n d2)) := fun {w} hw => by
      rw [hk, hl]
      have e2 : ev C.toCf (.tup [(.sub (.lst false [(.cst (.str ("or" : Str))), (.cst (.str ("and" : Str)))]) (.call 23 false [(.nm 0), (.cst (.int 2))] [0, 1])), (.tup [(.cst (.str ("knight" : Str))), (.nm 12)]), (.tup [(.cst (.str ("liar" : Str))), (.nm 12)])]) f2 (T.set n d1) = some (.ok (.tup [.str w, .tup [.str wKn, .int p], .tup [.str wLi, .int p]]) (T.set n d2)) :=
        ev_tup (evs_cons (ev_sub el E2 hw) (evs_cons (ev_tup (evs_cons ev_cst (evs_cons (ev_nm rfl) evs_nil))) (evs_cons (ev_tup (evs_cons ev_cst (evs_cons (ev_nm rfl) evs_nil))) evs_nil)))
      exact (exec_ifT tt).trans ((execs_nx (exec_asg (fr' := f2) E1 rfl)).trans ((execs_nx (exec_asg e2 rfl)).trans execs_nil))
    have hu : u = 0 ∨ u = 1 := by omega
    rcases hu with rfl | rfl
    · exact ⟨.og (.kn p.toNat) (.li p.toNat), d2, _, go rfl, ⟨hpm, hpm⟩, by show max 1 1 + 1 ≤ 5; omega, hB2.mono (by omega)⟩
    · exact ⟨.an (.kn p.toNat) (.li p.toNat), d2, _, go rfl, ⟨hpm, hpm⟩, by show max 1 1 + 1 ≤ 5; omega, hB2.mono (by omega)⟩
theorem in_bl {S : Store} {b : Bool} {bs : List Bool} : cmpD S .In (.bl b) (.lst (bs.map .bl)) = some (bs.any (· == b)) := by
  show cmpD.inD S (.bl b) (.lst (bs.map .bl)) = _
  unfold cmpD.inD
  show ((flat S (.bl b)).bind _) = _
  have hr : refsLt 0 (.lst (bs.map D.bl)) = true := (bls_ok bs).1
  rw [flat_id rfl, flat_id hr]
  have o2 : okD okN (.lst (bs.map .bl)) = true := (bls_ok bs).2
  have o1 : okD okN (.bl b) = true := rfl
  simp only [Option.bind_some, o1, o2, Bool.and_true, if_true]
  rw [List.any_map]
  rfl
theorem any_t : ∀ bs : List Bool, bs.any (· == true) = bs.any id
  | [] => rfl
  | b :: bs => by rw [List.any_cons, List.any_cons, any_t bs]; cases b <;> rfl
theorem any_f : ∀ bs : List Bool, bs.any (· == false) = !bs.all id
  | [] => rfl
  | b :: bs => by rw [List.any_cons, List.all_cons, any_f bs]; cases b <;> rfl
abbrev srE : Ex := (.ite (.disj [(.cmp .Eq (.nm 9) (.lst false [])), (.conj [(.cmp .In (.cst (.bl true)) (.nm 9)), (.cmp .In (.cst (.bl false)) (.nm 9))])]) (.cst .non) (.sub (.nm 9) (.cst (.int 0))))
theorem sr_ev {C : Cf} {fr : Fr} {S : Store} (bs : List Bool) (hi : getFr fr 9 = some (.lst (bs.map .bl))) : ev C srE fr S = some (.ok (sureD bs) S) := by
  have t1 : tst C (.cmp .Eq (.nm 9) (.lst false [])) fr S = some (.ok bs.isEmpty S) := e_nil bs hi
  have t2 : tst C (.cmp .In (.cst (.bl true)) (.nm 9)) fr S = some (.ok (bs.any id) S) := tst_cmp ev_cst (ev_nm hi) (by rw [in_bl, any_t])
  have t3 : tst C (.cmp .In (.cst (.bl false)) (.nm 9)) fr S = some (.ok (!bs.all id) S) := tst_cmp ev_cst (ev_nm hi) (by rw [in_bl, any_f])
  have tt := tst_disj_c (tsDisj_c t1 (tsDisj_c (tst_conj_c (tsConj_c t2 (tsConj_c t3 tsConj_nil))) tsDisj_nil))
  rw [Bool.and_true, Bool.or_false] at tt
  show _ = some (Rs.ok (if (bs.isEmpty || (bs.any id && !bs.all id)) = true then D.non else .bl (bs.headD false)) S)
  cases hc : (bs.isEmpty || (bs.any id && !bs.all id)) with
  | true => rw [hc] at tt; rw [ev_iteT tt]; exact ev_cst
  | false =>
    rw [hc] at tt
    rw [ev_iteF tt]
    refine ev_sub (ev_nm hi) ev_cst ?_
    cases hb : bs with
    | nil => rw [hb] at hc; cases hc
    | cons b r => show L2.atI (D.bl b :: r.map .bl) ((0 : Nat) : Int) = _; rw [atI_get (by simp)]; rfl
/-- [x] * 2 -/
theorem two_ev {C : Cf} {fr : Fr} {S : Store} {e : Ex} {x : D} (h : ev C e fr S = some (.ok x S)) : ev C (.bin .Mult false (.lst false [(.lst false [(.cst (.str ("told" : Str))), e])]) (.cst (.int 2))) fr S = some (.ok (.lst [.lst [told, x], .lst [told, x]]) S) :=
  ev_binL (ev_lstF (evs_cons (ev_lstF (evs_cons ev_cst (evs_cons h evs_nil))) evs_nil)) ev_cst rfl
abbrev wyE (ew e1 e2 e3 : Ex) : Ex := .lc false (.nm 5) [5] (.val (.tup [(.nm 3), (.notE (.v (.nm 3)))])) [] (.call 30 false [ew, e1, e2, e3, (.nm 5)] [0, 1, 2, 3, 4])
/-- asked both ways, beside what is due -/
theorem ways_tst (K : Nat) (x5 x6 x7 x8 x9 x10 x11 x12 x13 : Option D) (ew e1 e2 e3 ed : Ex) (w : Nat) (a b c q : D)
    (hew : ∀ y, ev (cg (K + 1) m0).toCf ew (rr n m ps bn l y x6 x7 x8 x9 x10 x11 x12 x13) T = some (.ok (.int (w : Int)) T)) (he1 : ∀ y, ev (cg (K + 1) m0).toCf e1 (rr n m ps bn l y x6 x7 x8 x9 x10 x11 x12 x13) T = some (.ok a T)) (he2 : ∀ y, ev (cg (K + 1) m0).toCf e2 (rr n m ps bn l y x6 x7 x8 x9 x10 x11 x12 x13) T = some (.ok b T)) (he3 : ∀ y, ev (cg (K + 1) m0).toCf e3 (rr n m ps bn l y x6 x7 x8 x9 x10 x11 x12 x13) T = some (.ok c T))
    (hed : ev (cg (K + 1) m0).toCf ed (rr n m ps bn l x5 x6 x7 x8 x9 x10 x11 x12 x13) T = some (.ok q T)) (hw : w ≤ 3) (hK : 5 ≤ K) (hA : askR K T w a b c = some (.ok q T)) (hq : sd 2 q = true) :
    tst (cg (K + 1) m0).toCf (.neg (.v (.call 24 false [wyE ew e1 e2 e3, (.bin .Mult false (.lst false [(.lst false [(.cst (.str ("told" : Str))), ed])]) (.cst (.int 2)))] [0, 1]))) (rr n m ps bn l x5 x6 x7 x8 x9 x10 x11 x12 x13) T = some (.ok false T) := by
  let f (y : Option D) : Fr := rr n m ps bn l y x6 x7 x8 x9 x10 x11 x12 x13
  let C := cg (K + 1) m0
  have it : evIt C.toCf (.val (.tup [(.nm 3), (.notE (.v (.nm 3)))])) (f x5) T = some (.ok ⟨[bn, !bn].map .bl, none⟩ T) := evIt_val (ev_tup (evs_cons (ev_nm rfl) (evs_cons (ev_notE (tst_vb (ev_nm rfl))) evs_nil))) rfl
  have e : ev C.toCf (wyE ew e1 e2 e3) (f x5) T = some (.ok (.lst [.lst [told, q], .lst [told, q]]) T) := by
    rw [lc_map D.bl (fun _ => .lst [told, q]) [bn, !bn] it (by simp) fun nb _ => ⟨f (some (.bl nb)), rfl, ?_⟩]
    · rfl
    · refine ev_call (ds' := [.int (w : Int), a, b, c, .bl nb]) (evs_cons (hew _) (evs_cons (he1 _) (evs_cons (he2 _) (evs_cons (he3 _) (evs_cons (ev_nm rfl) evs_nil))))) rfl ?_
      rw [cg_call]
      exact asked_ok K w nb hw hA (sd_refs hq)
  refine tst_neg (k := true) (tst_vb (ev_c2 (x := .lst [.lst [told, q], .lst [told, q]]) (y := .lst [.lst [told, q], .lst [told, q]]) (S1 := T) (S2 := T) e (two_ev hed) ?_))
  rw [cg_call]
  obtain ⟨k, rfl⟩ : ∃ k, K = k + 5 := ⟨K - 5, by omega⟩
  have h3 := pair_sd (told_sd 2) hq
  exact same_call 4 (k + 1) _ T (pair_sd h3 h3)
end
abbrev rB : List Vm.St := [(.asg (.nm 8) (.call 25 false [(.nm 0), (.nm 1), (.bin .Add false (.cst (.int 1)) (.call 23 false [(.nm 0), (.cst (.int 5))] [0, 1]))] [0, 1, 2])), r2, (.asg (.nm 9) (.lc false (.nm 11) [11] (.val (.nm 4)) [] (.call 26 false [(.nm 11), (.nm 8)] [0, 1]))), (.asg (.nm 10) srE), (.ife (.neg (.v (.call 24 false [(.lc false (.nm 5) [5] (.val (.tup [(.nm 3), (.notE (.v (.nm 3)))])) [] (.call 30 false [(.cst (.int 2)), (.nm 1), (.nm 2), (.nm 8), (.nm 5)] [0, 1, 2, 3, 4])), (.bin .Mult false (.lst false [(.lst false [(.cst (.str ("told" : Str))), (.nm 10)])]) (.cst (.int 2)))] [0, 1]))) [(.ret (.cst (.bl false)))] []), (.asg (.nm 11) (.blt .tuple false [(.lc false (.nm 12) [12] (.rng1 (.nm 1)) [] (.cmp .Eq (.call 23 false [(.nm 0), (.cst (.int 2))] [0, 1]) (.cst (.int 0))))])), (.ife (.neg (.v (.call 24 false [(.lc false (.nm 5) [5] (.val (.tup [(.nm 3), (.notE (.v (.nm 3)))])) [] (.call 30 false [(.cst (.int 3)), (.nm 11), (.nm 8), (.cst .non), (.nm 5)] [0, 1, 2, 3, 4])), (.bin .Mult false (.lst false [(.lst false [(.cst (.str ("told" : Str))), (.call 26 false [(.nm 11), (.nm 8)] [0, 1])])]) (.cst (.int 2)))] [0, 1]))) [(.ret (.cst (.bl false)))] [])]
theorem b_turn (k m0 n m : Nat) (ps : List Sp) (bn : Bool) (T : Store) (d : D) (N v : Int) (x5 x7 x8 x9 x10 x11 x12 x13 : Option D) (g : T[n]? = some d) (hB : Bok N d) (hN : N ≤ 400000000) (h1 : 1 ≤ m) (h8 : m ≤ 8) (hps : ∀ q ∈ ps, okP m q) (hpl : ps.length ≤ 12) :
    ∃ z8 z9 z10 z11 z12 d', Vm.execs (cg (k + 12) m0) rB (rr n m ps bn (fw m ps) x5 (some (.int v)) x7 x8 x9 x10 x11 x12 x13) T = some (.ok (.nx (rr n m ps bn (fw m ps) x5 (some (.int v)) x7 z8 z9 z10 z11 z12 x13)) (T.set n d')) ∧ Bok (N + 500) d' := by
  let l := fw m ps
  let C := cg (k + 12) m0
  have hw : ∀ w ∈ l, w.length ≤ 8 := fun w h => by have := fw_mem h; omega
  have hl : l.length ≤ 256 := fw_len h8
  let f (x8 x9 x10 x11 x12 : Option D) : Fr := rr n m ps bn l x5 (some (.int v)) x7 x8 x9 x10 x11 x12 x13
  obtain ⟨s0, d1, E1, ho, hd, hB1⟩ := saying_ev (k + 11) m0 n m 5 (f x8 x9 x10 x11 x12) T d N (.nm 1) rfl (fun T => ev_nm rfl) (by omega) (by omega) g hB (by omega) h1 h8
  obtain ⟨s, d2, z12, E2, hs, hsd, hB2⟩ := r2_ex k m0 n m ps bn l (T.set n d1) s0 d1 _ v x5 x7 x9 x10 x11 x12 x13 (set_get g d1) hB1 (by omega) h1 h8 hw ho hd
  rw [List.set_set] at E2
  let T2 := T.set n d2
  let bs := l.map fun w => tr w s
  have E3 : ev C.toCf (.lc false (.nm 11) [11] (.val (.nm 4)) [] (.call 26 false [(.nm 11), (.nm 8)] [0, 1])) (f (some (sD s)) x9 x10 x11 z12) T2 = some (.ok (.lst (bs.map .bl)) T2) := by
    rw [lc_map wD (fun w => .bl (tr w s)) l (evIt_val (ev_nm (d := .lst (wL l)) rfl) rfl) (by omega) fun w hwm => ⟨f (some (sD s)) x9 x10 (some (wD w)) z12, rfl, ?_⟩, bl_map]
    refine ev_c2 (x := wD w) (y := sD s) (S1 := T2) (S2 := T2) (ev_nm rfl) (ev_nm rfl) ?_
    rw [show C.toCf.call = callR P (k + 12) from rfl]
    exact lt_call w s (k + 12) T2 (by rw [fw_mem hwm]; exact hs) (by omega)
  have E4 : ev C.toCf srE (f (some (sD s)) (some (.lst (bs.map .bl))) x10 x11 z12) T2 = some (.ok (sureD bs) T2) := sr_ev bs rfl
  have A2 : askR (k + 11) T2 2 (.int (m : Int)) (psD ps) (sD s) = some (.ok (sureD bs) T2) := sure_ok (k + 1) m T2 ps s hs (by omega) h1 h8 hps hpl
  have t5 := ways_tst m0 n m ps bn l T2 (k + 11) x5 (some (.int v)) x7 (some (sD s)) (some (.lst (bs.map .bl))) (some (sureD bs)) x11 z12 x13 (.cst (.int 2)) (.nm 1) (.nm 2) (.nm 8) (.nm 10) 2 (.int (m : Int)) (psD ps) (sD s) (sureD bs) (fun y => ev_cst) (fun y => ev_nm rfl) (fun y => ev_nm rfl) (fun y => ev_nm rfl) (ev_nm rfl) (by omega) (by omega) A2 (sureD_sd bs 2)
  obtain ⟨w, d3, E6, hwl, hB3⟩ := wd_draw (k + 11) m0 n m 12 (f (some (sD s)) (some (.lst (bs.map .bl))) (some (sureD bs)) x11 z12) T2 d2 _ (.nm 1) rfl (ev_nm rfl) (by omega) (by show 12 < 14; omega) (set_get g d2) hB2 (by omega) h8
  rw [show T2.set n d3 = T.set n d3 from List.set_set ..] at E6
  let T3 := T.set n d3
  have E7 : ev C.toCf (.blt .tuple false [(.lc false (.nm 12) [12] (.rng1 (.nm 1)) [] (.cmp .Eq (.call 23 false [(.nm 0), (.cst (.int 2))] [0, 1]) (.cst (.int 0))))]) (f (some (sD s)) (some (.lst (bs.map .bl))) (some (sureD bs)) x11 z12) T2 = some (.ok (wD w) T3) := ev_blt (evs_cons E6 evs_nil) rfl
  have A3 : askR (k + 11) T3 3 (wD w) (sD s) .non = some (.ok (.bl (tr w s)) T3) := holds_ok (k + 3) w s T3 (by omega) (by omega) (by rw [hwl]; exact hs) (by omega)
  have E8 : ev C.toCf (.call 26 false [(.nm 11), (.nm 8)] [0, 1]) (f (some (sD s)) (some (.lst (bs.map .bl))) (some (sureD bs)) (some (wD w)) z12) T3 = some (.ok (.bl (tr w s)) T3) := by
    refine ev_c2 (x := wD w) (y := sD s) (S1 := T3) (S2 := T3) (ev_nm rfl) (ev_nm rfl) ?_
    rw [show C.toCf.call = callR P (k + 12) from rfl]
    exact lt_call w s (k + 12) T3 (by rw [hwl]; exact hs) (by omega)
  have t7 := ways_tst m0 n m ps bn l T3 (k + 11) x5 (some (.int v)) x7 (some (sD s)) (some (.lst (bs.map .bl))) (some (sureD bs)) (some (wD w)) z12 x13 (.cst (.int 3)) (.nm 11) (.nm 8) (.cst .non) (.call 26 false [(.nm 11), (.nm 8)] [0, 1]) 3 (wD w) (sD s) .non (.bl (tr w s)) (fun y => ev_cst) (fun y => ev_nm rfl) (fun y => ev_nm rfl) (fun y => ev_cst) E8 (by omega) (by omega) A3 (bl_sd 2 _)
  exact ⟨some (sD s), some (.lst (bs.map .bl)), some (sureD bs), some (wD w), z12, d3, (execs_nx (exec_asg (fr' := f (some (sD s0)) x9 x10 x11 x12) E1 rfl)).trans ((execs_nx E2).trans ((execs_nx (exec_asg (fr' := f (some (sD s)) (some (.lst (bs.map .bl))) x10 x11 z12) E3 rfl)).trans ((execs_nx (exec_asg (fr' := f (some (sD s)) (some (.lst (bs.map .bl))) (some (sureD bs)) x11 z12) E4 rfl)).trans ((execs_nx ((exec_ifF t5).trans execs_nil)).trans ((execs_nx (exec_asg (fr' := f (some (sD s)) (some (.lst (bs.map .bl))) (some (sureD bs)) (some (wD w)) z12) E7 rfl)).trans ((execs_nx ((exec_ifF t7).trans execs_nil)).trans execs_nil)))))), hB3.mono (by omega)⟩
theorem right_call (k n m : Nat) (ps : List Sp) (bn : Bool) (S : Store) (d : D) (N : Int) (g : S[n]? = some d) (hB : Bok N d) (hN : N ≤ 300000000) (h1 : 1 ≤ m) (h8 : m ≤ 8) (hps : ∀ q ∈ ps, okP m q) (hpl : ps.length ≤ 12) :
    ∃ d', gcOut S.length false (callR P (k + 13) 31 [.ref n, .int (m : Int), psD ps, .bl bn] S) = some (.ok (.bl true) (S.set n d')) ∧ Bok (N + 2500) d' := by
  have hn : n < S.length := (List.getElem?_eq_some_iff.mp g).1
  let C := cg (k + 12) S.length
  let l := fw m ps
  have E0 : ev C.toCf (.call 28 false [(.nm 1), (.nm 2)] [0, 1]) [some (.ref n), some (.int (m : Int)), some (psD ps), some (.bl bn), none, none, none, none, none, none, none, none, none, none] S = some (.ok (.lst (wL l)) S) := by
    refine ev_c2 (x := .int (m : Int)) (y := psD ps) (S1 := S) (S2 := S) (ev_nm rfl) (ev_nm rfl) ?_
    rw [show C.toCf.call = callR P (k + 12) from rfl]
    exact lworlds_call (k + 5) m S ps h8 hps (by omega)
  obtain ⟨z5, z7, J, E1⟩ := a_loop k S.length n m ps bn S h1 h8 hps hpl
  have gJ : (S ++ J)[n]? = some d := get_old g
  have it : evIt C.toCf (.rng1 (.cst (.int 5))) (rr n m ps bn l z5 none z7 none none none none none none) (S ++ J) = some (.ok ⟨rngL 0 5, none⟩ (S ++ J)) := evIt_rng1 (j := 5) ev_cst rfl
  obtain ⟨fr', d', E2, _, hB2⟩ := for_turns (C := C) (b := rB) (i := 6) (w := 500) (fun f => ∃ x6 x8 x9 x10 x11 x12, f = rr n m ps bn l z5 x6 z7 x8 x9 x10 x11 x12 none) (by omega) it ⟨none, none, none, none, none, none, rfl⟩ gJ hB fun q hq fr0 T d M ⟨x6, x8, x9, x10, x11, x12, e0⟩ g hM hMl => by
    subst e0
    have hl5 : (rngL 0 5).length = 5 := rfl
    rw [hl5] at hMl
    obtain ⟨i, hi, rfl⟩ := rngL_mem.mp hq
    obtain ⟨y8, y9, y10, y11, y12, d', e, hb⟩ := b_turn k S.length n m ps bn T d M (0 + (i : Int)) z5 z7 x8 x9 x10 x11 x12 none g hM (by omega) h1 h8 hps hpl
    exact ⟨_, _, d', rfl, e, ⟨_, _, _, _, _, _, rfl⟩, hb⟩
  have hl5 : (rngL 0 5).length = 5 := rfl
  rw [hl5] at hB2
  refine ⟨d', ?_, hB2.mono (by omega)⟩
  have run : callR P (k + 13) 31 [.ref n, .int (m : Int), psD ps, .bl bn] S = some (.ok (.bl true) ((S ++ J).set n d')) := by
    refine run_def fd31 rfl ?_
    show Vm.execs C b31 [some (.ref n), some (.int (m : Int)), some (psD ps), some (.bl bn), none, none, none, none, none, none, none, none, none, none] S = _
    rw [b31]
    exact (execs_nx (exec_asg (fr' := rr n m ps bn l none none none none none none none none none) E0 rfl)).trans ((execs_nx E1).trans ((execs_nx E2).trans (execs_rt (exec_ret ev_cst))))
  rw [run, gc_plain' rfl, List.set_append_left _ _ hn]
  rw [show S.length = (S.set n d').length by rw [List.length_set], List.take_left]
end K55

/-! k55: wrong sayings; what is refused -/
namespace K55
open PySem Vm
abbrev I (i : Int) : D := .int i
abbrev kn (x : D) : D := .tup [.str wKn, x]
abbrev li (x : D) : D := .tup [.str wLi, x]
def ntn : Nat → D
  | 0 => kn (I 0)
  | j + 1 => .tup [.str wNt, ntn j]
def n1 (m : Nat) : List D := [.non, .tup [], .str wKn, .tup [.str wKn], kn (I m), kn (I (-1)), kn (.bl true), .tup [.str wKn, I 0, I 0], .lst [.str wKn, I 0], li (.str ("0" : Str)), .tup [.str ("Knight" : Str), I 0], .tup [.str wCt, I 1]]
def n2 : List D := [.tup [.str wCt, I 9, .tup [I 0]], .tup [.str wCt, I (-1), .tup [I 0]]]
def n3 (m : Nat) : List D := [.tup [.str wCt, .bl true, .tup [I 0]], .tup [.str wCt, I 0, .lst [I 0]], .tup [.str wCt, I 0, .tup [I 0, I 0]], .tup [.str wCt, I 0, .tup [I m]], .tup [.str wNt], .tup [.str wNt, kn (I m)], .tup [.str wNt, .non], .tup [.str wAn, kn (I 0)]]
def n4 : List D := [.tup [.str wOr, kn (I 0), .non], ntn 9]
def n5 : List D := [.tup [.str wSm, kn (I 0), kn (I 0), kn (I 0)], .tup [.str ("xor" : Str), kn (I 0), kn (I 0)], .tup [.str wNt, .lst [.str wKn, I 0]], I 5, kn .non]
def n6 (m : Nat) : List D := [.tup [.str wAn, li (I 0), li (I m)]]
def nosL (m : Nat) : List D := n1 m ++ n2 ++ n3 m ++ n4 ++ n5 ++ n6 m
theorem nos_menu : ([1, 2, 3, 4, 5] : List Nat).all (fun m => (nosL m).all fun x => !sayB m 6 [x] && sd 11 x) = true := by decide +kernel
theorem nos_bad {m : Nat} {x : D} (h1 : 1 ≤ m) (h5 : m ≤ 5) (hx : x ∈ nosL m) : sayB m 6 [x] = false ∧ sd 11 x = true := by
  have hm : m ∈ ([1, 2, 3, 4, 5] : List Nat) := by
    have : m = 1 ∨ m = 2 ∨ m = 3 ∨ m = 4 ∨ m = 5 := by omega
    simpa using this
  have := List.all_eq_true.mp (List.all_eq_true.mp nos_menu m hm) x hx
  simp only [Bool.and_eq_true, Bool.not_eq_true'] at this
  exact this
theorem fd32 : P.fd 32 = some ⟨2, 5, b32⟩ := rfl
abbrev nf (n m : Nat) (x2 x3 x4 : Option D) : Fr := [some (.ref n), some (.int (m : Int)), x2, x3, x4]
theorem add_ev {C : Cf} {a b : Ex} {fr : Fr} {T : Store} {xs ys : List D} (ha : ev C a fr T = some (.ok (.lst xs) T)) (hb : ev C b fr T = some (.ok (.lst ys) T)) (hf : xs.length + ys.length ≤ 1000) : ev C (.bin .Add false a b) fr T = some (.ok (.lst (xs ++ ys)) T) := by
  refine ev_binL ha hb ?_
  show (if fits (xs.length + ys.length) = true then some (Ou.l (xs ++ ys)) else none) = _
  rw [if_pos (by simp only [fits, decide_eq_true_eq]; omega)]
section
variable {C : Cf} {n m : Nat} {x3 x4 : Option D} {T : Store}
theorem n1_ev : ev C (.lst false [(.cst .non), (.tup []), (.cst (.str ("knight" : Str))), (.tup [(.cst (.str ("knight" : Str)))]), (.tup [(.cst (.str ("knight" : Str))), (.nm 1)]), (.tup [(.cst (.str ("knight" : Str))), (.una .USub (.cst (.int 1)))]), (.tup [(.cst (.str ("knight" : Str))), (.cst (.bl true))]), (.tup [(.cst (.str ("knight" : Str))), (.cst (.int 0)), (.cst (.int 0))]), (.lst false [(.cst (.str ("knight" : Str))), (.cst (.int 0))]), (.tup [(.cst (.str ("liar" : Str))), (.cst (.str ("0" : Str)))]), (.tup [(.cst (.str ("Knight" : Str))), (.cst (.int 0))]), (.tup [(.cst (.str ("count" : Str))), (.cst (.int 1))])]) (nf n m (some (ntn 9)) x3 x4) T = some (.ok (.lst (n1 m)) T) := by
  simp [ev, evs, M.bind, Vm.bnd, lift, unaD, mkL, n1, getFr]
theorem n2_ev : ev C (.lst false [(.tup [(.cst (.str ("count" : Str))), (.cst (.int 9)), (.tup [(.cst (.int 0))])]), (.tup [(.cst (.str ("count" : Str))), (.una .USub (.cst (.int 1))), (.tup [(.cst (.int 0))])])]) (nf n m (some (ntn 9)) x3 x4) T = some (.ok (.lst n2) T) := by
  simp [ev, evs, M.bind, Vm.bnd, lift, unaD, mkL, n2, getFr]
theorem n3_ev : ev C (.lst false [(.tup [(.cst (.str ("count" : Str))), (.cst (.bl true)), (.tup [(.cst (.int 0))])]), (.tup [(.cst (.str ("count" : Str))), (.cst (.int 0)), (.lst false [(.cst (.int 0))])]), (.tup [(.cst (.str ("count" : Str))), (.cst (.int 0)), (.tup [(.cst (.int 0)), (.cst (.int 0))])]), (.tup [(.cst (.str ("count" : Str))), (.cst (.int 0)), (.tup [(.nm 1)])]), (.tup [(.cst (.str ("not" : Str)))]), (.tup [(.cst (.str ("not" : Str))), (.tup [(.cst (.str ("knight" : Str))), (.nm 1)])]), (.tup [(.cst (.str ("not" : Str))), (.cst .non)]), (.tup [(.cst (.str ("and" : Str))), (.tup [(.cst (.str ("knight" : Str))), (.cst (.int 0))])])]) (nf n m (some (ntn 9)) x3 x4) T = some (.ok (.lst (n3 m)) T) := by
  simp [ev, evs, M.bind, Vm.bnd, lift, unaD, mkL, n3, getFr]
theorem n4_ev : ev C (.lst false [(.tup [(.cst (.str ("or" : Str))), (.tup [(.cst (.str ("knight" : Str))), (.cst (.int 0))]), (.cst .non)]), (.nm 2)]) (nf n m (some (ntn 9)) x3 x4) T = some (.ok (.lst n4) T) := by
  simp [ev, evs, M.bind, Vm.bnd, lift, unaD, mkL, n4, getFr]
theorem n5_ev : ev C (.lst false [(.tup [(.cst (.str ("same" : Str))), (.tup [(.cst (.str ("knight" : Str))), (.cst (.int 0))]), (.tup [(.cst (.str ("knight" : Str))), (.cst (.int 0))]), (.tup [(.cst (.str ("knight" : Str))), (.cst (.int 0))])]), (.tup [(.cst (.str ("xor" : Str))), (.tup [(.cst (.str ("knight" : Str))), (.cst (.int 0))]), (.tup [(.cst (.str ("knight" : Str))), (.cst (.int 0))])]), (.tup [(.cst (.str ("not" : Str))), (.lst false [(.cst (.str ("knight" : Str))), (.cst (.int 0))])]), (.cst (.int 5)), (.tup [(.cst (.str ("knight" : Str))), (.cst .non)])]) (nf n m (some (ntn 9)) x3 x4) T = some (.ok (.lst n5) T) := by
  simp [ev, evs, M.bind, Vm.bnd, lift, unaD, mkL, n5, getFr]
theorem n6_ev : ev C (.lst false [(.tup [(.cst (.str ("and" : Str))), (.tup [(.cst (.str ("liar" : Str))), (.cst (.int 0))]), (.tup [(.cst (.str ("liar" : Str))), (.nm 1)])])]) (nf n m (some (ntn 9)) x3 x4) T = some (.ok (.lst (n6 m)) T) := by
  simp [ev, evs, M.bind, Vm.bnd, lift, unaD, mkL, n6, getFr]
end
theorem nos_len (m : Nat) : (nosL m).length = 30 := rfl
theorem no_call (k n m : Nat) (S : Store) (d : D) (N : Int) (g : S[n]? = some d) (hB : Bok N d) (hN : N ≤ 800000000) (h1 : 1 ≤ m) (h5 : m ≤ 5) :
    ∃ x d', gcOut S.length false (callR P (k + 2) 32 [.ref n, .int (m : Int)] S) = some (.ok x (S.set n d')) ∧ x ∈ nosL m ∧ Bok (N + 1) d' := by
  let C := cg (k + 1) S.length
  let f := nf n m
  have e1 : Vm.exec C (.asg (.nm 2) (.tup [(.cst (.str ("knight" : Str))), (.cst (.int 0))])) (f none none none) S = some (.ok (.nx (f (some (ntn 0)) none none)) S) := exec_asg (ev_tup (evs_cons ev_cst (evs_cons ev_cst evs_nil))) rfl
  have it : evIt C.toCf (.rng1 (.cst (.int 9))) (f (some (ntn 0)) none none) S = some (.ok ⟨rngL 0 9, none⟩ S) := evIt_rng1 (j := 9) ev_cst rfl
  obtain ⟨fr', T', e2, j, x3, rfl, rfl, hj⟩ := forGo_inv (f := fun d fr T => gcFl false T.length (bnd (lift (asgT (.nm 3) d fr) T) fun fr' S' => Vm.execs (C.up false T) [(.asg (.nm 2) (.tup [(.cst (.str ("not" : Str))), (.nm 2)]))] fr' S')) (st := (Its.mk (rngL 0 9) none).still)
    (fun rest fr0 T1 => ∃ (j : Nat) (x3 : Option D), fr0 = f (some (ntn j)) x3 none ∧ S = T1 ∧ rest.length + j = 9) (rngL 0 9) (f (some (ntn 0)) none none) S ⟨0, none, rfl, rfl, rfl⟩
    fun x r fr0 T1 ⟨j, x3, ef, eT, hj⟩ => by
      subst ef eT
      rw [List.length_cons] at hj
      have e : Vm.exec C (.asg (.nm 2) (.tup [(.cst (.str ("not" : Str))), (.nm 2)])) (f (some (ntn j)) (some x) none) S = some (.ok (.nx (f (some (ntn (j + 1))) (some x) none)) S) := exec_asg (ev_tup (evs_cons ev_cst (evs_cons (ev_nm rfl) evs_nil))) rfl
      exact ⟨_, S, .inl ((execs_nx e).trans execs_nil), rfl, j + 1, some x, rfl, rfl, by omega⟩
  have hj9 : j = 9 := by simpa using hj
  subst hj9
  let f9 (x4 : Option D) : Fr := f (some (ntn 9)) x3 x4
  obtain ⟨v, d', E, v1, v2, hB1⟩ := take_ev k S.length (.cst (.int 30)) (f9 (some (.lst (nosL m)))) S S n N 30 rfl ev_cst ⟨d, g, hB⟩ (by omega) (by omega) (by omega)
  have hv : v.toNat < (nosL m).length := by rw [nos_len]; omega
  have eS : ev C.toCf (.sub (.nm 4) (.call 23 false [(.nm 0), (.cst (.int 30))] [0, 1])) (f9 (some (.lst (nosL m)))) S = some (.ok (nosL m)[v.toNat] (S.set n d')) := by
    refine ev_sub (x := .lst (nosL m)) (ev_nm rfl) E ?_
    show L2.atI (nosL m) v = _
    have := atI_get hv
    rwa [Int.toNat_of_nonneg v1] at this
  have hx : (nosL m)[v.toNat] ∈ nosL m := List.getElem_mem hv
  refine ⟨_, d', ?_, hx, hB1⟩
  have run : callR P (k + 2) 32 [.ref n, .int (m : Int)] S = some (.ok (nosL m)[v.toNat] (S.set n d')) := by
    refine run_def fd32 rfl ?_
    show Vm.execs C b32 (f none none none) S = _
    rw [b32]
    have a1 : (n1 m).length = 12 := rfl
    have a2 : (n1 m ++ n2).length = 14 := rfl
    have a3 : (n1 m ++ n2 ++ n3 m).length = 22 := rfl
    have a4 : (n1 m ++ n2 ++ n3 m ++ n4).length = 24 := rfl
    have a5 : (n1 m ++ n2 ++ n3 m ++ n4 ++ n5).length = 29 := rfl
    have c2 : n2.length = 2 := rfl
    have c3 : (n3 m).length = 8 := rfl
    have c4 : n4.length = 2 := rfl
    have c5 : n5.length = 5 := rfl
    have c6 : (n6 m).length = 1 := rfl
    refine (execs_nx e1).trans ((execs_nx ((exec_for it rfl).trans e2)).trans ?_)
    refine (execs_nx (exec_asg (fr' := f9 (some (.lst (n1 m)))) n1_ev rfl)).trans ?_
    refine (execs_nx (exec_asg (fr' := f9 (some (.lst (n1 m ++ n2)))) (add_ev (ev_nm rfl) n2_ev (by omega)) rfl)).trans ?_
    refine (execs_nx (exec_asg (fr' := f9 (some (.lst (n1 m ++ n2 ++ n3 m)))) (add_ev (ev_nm rfl) n3_ev (by omega)) rfl)).trans ?_
    refine (execs_nx (exec_asg (fr' := f9 (some (.lst (n1 m ++ n2 ++ n3 m ++ n4)))) (add_ev (ev_nm rfl) n4_ev (by omega)) rfl)).trans ?_
    refine (execs_nx (exec_asg (fr' := f9 (some (.lst (n1 m ++ n2 ++ n3 m ++ n4 ++ n5)))) (add_ev (ev_nm rfl) n5_ev (by omega)) rfl)).trans ?_
    refine (execs_nx (exec_asg (fr' := f9 (some (.lst (nosL m)))) (add_ev (xs := n1 m ++ n2 ++ n3 m ++ n4 ++ n5) (ys := n6 m) (ev_nm rfl) n6_ev (by omega)) rfl)).trans ?_
    exact execs_rt (exec_ret eS)
  rw [run, gc_set (sd_refs (nos_bad h1 h5 hx).2)]
/-! ### what is refused -/
theorem chk_err (k g np nN : Nat) (r : List Vm.St) (hfd : P.fd g = some ⟨np, nN, (.expr (.call 14 false [(.nm 0), (.nm 1)] [0, 1])) :: r⟩) (x y : D) (l : List D) (hl : (x :: y :: l).length = np) (S : Store) (bx : Bool) (c : Nat) (z : D) (hz : refsLt S.length z = true) (h : gcOut S.length false (callR P (k + 9) 14 [x, y] S) = some (.ex c [z] S)) :
    gcOut S.length bx (callR P (k + 10) g (x :: y :: l) S) = some (.ex c [z] S) := by
  refine ex_def hfd hl ?_ (by simp [refsLts, hz])
  refine execs_ex (exec_exprX ?_)
  refine ev_c2 (x := x) (y := y) (S1 := S) (S2 := S) (ev_nm rfl) (ev_nm rfl) ?_
  rw [cg_call]; exact h
theorem ask_chk (k w : Nat) (hw : w ≤ 2) (x y z : D) (S : Store) (c : Nat) (q : D) (hq : refsLt S.length q = true) (h : gcOut S.length false (callR P (k + 9) 14 [x, y] S) = some (.ex c [q] S)) : askR (k + 10) S w x y z = some (.ex c [q] S) := by
  have : w = 0 ∨ w = 1 ∨ w = 2 := by omega
  rcases this with rfl | rfl | rfl
  · exact chk_err k 18 2 2 _ fd18 x y [] rfl S true c q hq h
  · exact chk_err k 19 2 3 _ fd19 x y [] rfl S false c q hq h
  · exact chk_err k 20 3 5 _ fd20 x y [z] rfl S false c q hq h
theorem ask_say (k m : Nat) (ps : List Sp) (x : D) (S : Store) (h1 : 1 ≤ m) (h8 : m ≤ 8) (hps : ∀ q ∈ ps, okP m q) (hpl : ps.length ≤ 12) (hx : sd 11 x = true) (hb : sayB m 6 [x] = false) : askR (k + 10) S 2 (.int (m : Int)) (psD ps) x = some (.ex 2 [x] S) := by
  show gcOut S.length false (callR P (k + 10) 20 [.int (m : Int), psD ps, x] S) = _
  refine ex_def fd20 rfl ?_ (by simp [refsLts, sd_refs hx])
  let fr : Fr := [some (.int (m : Int)), some (psD ps), some x, none, none]
  show Vm.execs (cg (k + 9) S.length) b20 fr S = _
  have e2 : ev (cg (k + 9) S.length).toCf (.call 15 false [(.nm 0), (.nm 2)] [0, 1]) fr S = some (.ex 2 [x] S) := by
    refine ev_c2 (x := .int (m : Int)) (y := x) (S1 := S) (S2 := S) (ev_nm rfl) (ev_nm rfl) ?_
    rw [cg_call]
    rcases saying_tst (k + 1) m 11 x S hx (by omega) with ⟨e, _⟩ | ⟨_, e⟩
    · rw [hb] at e; cases e
    · exact e
  rw [b20]
  exact (execs_nx (exec_expr (ck_ev k m S ps fr rfl rfl h1 h8 hps hpl))).trans (execs_ex (exec_exprX e2))
end K55

/-! k55: refused -/
namespace K55
open PySem Vm
abbrev eNum : Ex := .lst false [(.cst .non), (.cst (.int 0)), (.cst (.int 9)), (.una .USub (.cst (.int 1))), (.cst (.bl true)), (.cst (.str ("2" : Str))), (.tup [(.cst (.int 2))]), (.bin .Pow false (.cst (.int 10)) (.cst (.int 20)))]
def mNum : List D := [.non, .int 0, .int 9, .int (-1), .bl true, .str ("2" : Str), .tup [.int 2], .int (10 ^ 20)]
theorem num_ev {C : Cf} {fr : Fr} {T : Store} : ev C eNum fr T = some (.ok (.lst mNum) T) := by
  refine ev_lstF (evs_cons ev_cst (evs_cons ev_cst (evs_cons ev_cst (evs_cons (ev_una ev_cst rfl) (evs_cons ev_cst (evs_cons ev_cst (evs_cons (ev_tup (evs_cons ev_cst evs_nil)) (evs_cons (ev_bin ev_cst ev_cst ?_) evs_nil))))))))
  rfl
theorem num_menu : mNum.all (fun d => !isIn 1 8 d && sd 2 d) = true := by decide +kernel
abbrev eWor : Ex := .lst false [(.cst .non), (.tup []), (.lst false [(.cst (.bl true))]), (.tup [(.cst (.int 1))]), (.tup [(.cst (.bl true)), (.cst .non)]), (.cst (.str ("11" : Str))), (.tup [(.cst (.int 0)), (.cst (.int 1))]), (.bin .Mult false (.tup [(.cst (.bl true))]) (.cst (.int 9))), (.cst (.int 5)), (.tup [(.cst (.bl true)), (.cst (.str ("False" : Str)))])]
def mWor : List D := [.non, .tup [], .lst [.bl true], .tup [.int 1], .tup [.bl true, .non], .str ("11" : Str), .tup [.int 0, .int 1], .tup (List.replicate 9 (.bl true)), .int 5, .tup [.bl true, .str ("False" : Str)]]
theorem wor_ev {C : Cf} {fr : Fr} {T : Store} : ev C eWor fr T = some (.ok (.lst mWor) T) := by
  refine ev_lstF (evs_cons ev_cst (evs_cons (ev_tup evs_nil) (evs_cons (ev_lstF (evs_cons ev_cst evs_nil)) (evs_cons (ev_tup (evs_cons ev_cst evs_nil)) (evs_cons (ev_tup (evs_cons ev_cst (evs_cons ev_cst evs_nil))) (evs_cons ev_cst (evs_cons (ev_tup (evs_cons ev_cst (evs_cons ev_cst evs_nil))) (evs_cons (ev_bin (ev_tup (evs_cons ev_cst evs_nil)) ev_cst ?_) (evs_cons ev_cst (evs_cons (ev_tup (evs_cons ev_cst (evs_cons ev_cst evs_nil))) evs_nil))))))))))
  rfl
theorem wor_menu : mWor.all (fun d => !worldB d && sd 2 d) = true := by decide +kernel
abbrev fitD : D := .tup [I 0, kn (I 0)]
def b1L (m : Nat) (ps : List Sp) (no : D) : List D := [.non, .lst (ps.map pD), .tup [.non], .tup [.tup [I 0]], .tup [.tup [I 0, no]], .tup [.tup [I m, kn (I 0)]], .tup [.tup [I (-1), kn (I 0)]], .tup [.tup [.bl true, kn (I 0)]], .tup [.lst [I 0, kn (I 0)]], .tup (List.replicate 13 fitD)]
def b2L (ps : List Sp) (no : D) : List D := [.str ("sayings" : Str), I 5, .tup ((ps.take 11).map pD ++ [.tup [I 0, no]]), .tup [.tup [I 0, kn (I 0), I 0]]]
def badL (m : Nat) (ps : List Sp) (no : D) : List D := b1L m ps no ++ b2L ps no
abbrev uf (n m : Nat) (ps : List Sp) (bn : Bool) (x4 x5 x6 x7 x8 x9 x10 x11 : Option D) : Fr := [some (.ref n), some (.int (m : Int)), some (psD ps), some (.bl bn), x4, x5, x6, x7, x8, x9, x10, x11]
abbrev eB1 : Ex := .lst false [(.cst .non), (.blt .list false [(.nm 2)]), (.tup [(.cst .non)]), (.tup [(.tup [(.cst (.int 0))])]), (.tup [(.tup [(.cst (.int 0)), (.nm 5)])]), (.tup [(.tup [(.nm 1), (.tup [(.cst (.str ("knight" : Str))), (.cst (.int 0))])])]), (.tup [(.tup [(.una .USub (.cst (.int 1))), (.tup [(.cst (.str ("knight" : Str))), (.cst (.int 0))])])]), (.tup [(.tup [(.cst (.bl true)), (.tup [(.cst (.str ("knight" : Str))), (.cst (.int 0))])])]), (.tup [(.lst false [(.cst (.int 0)), (.tup [(.cst (.str ("knight" : Str))), (.cst (.int 0))])])]), (.bin .Mult false (.tup [(.nm 6)]) (.cst (.int 13)))]
abbrev eB2 : Ex := .lst false [(.cst (.str ("sayings" : Str))), (.cst (.int 5)), (.bin .Add false (.slc false (.nm 2) .no (.yes (.cst (.int 11)))) (.tup [(.tup [(.cst (.int 0)), (.nm 5)])])), (.tup [(.bin .Add false (.nm 6) (.tup [(.cst (.int 0))]))])]
section
variable {C : Cf} {n m : Nat} {ps : List Sp} {bn : Bool} {x4 x7 x8 x9 x10 x11 : Option D} {no : D} {T : Store}
theorem kn_ev {fr : Fr} : ev C (.tup [(.cst (.str ("knight" : Str))), (.cst (.int 0))]) fr T = some (.ok (kn (I 0)) T) := ev_tup (evs_cons ev_cst (evs_cons ev_cst evs_nil))
theorem b1_ev : ev C eB1 (uf n m ps bn x4 (some no) (some fitD) x7 x8 x9 x10 x11) T = some (.ok (.lst (b1L m ps no)) T) := by
  have et : ∀ {e s} {fr : Fr}, ev C e fr T = some (.ok s T) → ev C (.tup [e]) fr T = some (.ok (.tup [s]) T) := fun he => ev_tup (evs_cons he evs_nil)
  have et2 : ∀ {e s e' s'} {fr : Fr}, ev C e fr T = some (.ok s T) → ev C e' fr T = some (.ok s' T) → ev C (.tup [e, e']) fr T = some (.ok (.tup [s, s']) T) := fun he he' => ev_tup (evs_cons he (evs_cons he' evs_nil))
  refine ev_lstF (evs_cons ev_cst (evs_cons (ev_bltL (ds := [psD ps]) (evs_cons (ev_nm rfl) evs_nil) rfl) (evs_cons (et ev_cst) (evs_cons (et (et ev_cst)) (evs_cons (et (et2 ev_cst (ev_nm rfl))) (evs_cons (et (et2 (ev_nm rfl) kn_ev)) (evs_cons (et (et2 (ev_una ev_cst rfl) kn_ev)) (evs_cons (et (et2 ev_cst kn_ev)) (evs_cons (et (ev_lstF (evs_cons ev_cst (evs_cons kn_ev evs_nil)))) (evs_cons (ev_bin (x := .tup [fitD]) (et (ev_nm rfl)) ev_cst ?_) evs_nil))))))))))
  rfl
theorem cut_to {xs : List D} {hi : Nat} : cutL xs none (some (hi : Int)) = xs.take hi := by
  unfold cutL
  rw [HT.sIx_nat]
  show (xs.drop 0).take (min hi xs.length - 0) = _
  rw [List.drop_zero, Nat.sub_zero]
  by_cases h : hi ≤ xs.length
  · rw [Nat.min_eq_left h]
  · rw [Nat.min_eq_right (by omega), List.take_length, List.take_of_length_le (by omega)]
theorem b2_ev (hpl : ps.length ≤ 12) : ev C eB2 (uf n m ps bn x4 (some no) (some fitD) x7 x8 x9 x10 x11) T = some (.ok (.lst (b2L ps no)) T) := by
  have es : ev C (.slc false (.nm 2) .no (.yes (.cst (.int 11)))) (uf n m ps bn x4 (some no) (some fitD) x7 x8 x9 x10 x11) T = some (.ok (.tup ((ps.take 11).map pD)) T) := by
    refine ev_slc (x := psD ps) (ev_nm rfl) evO_no (evO_yes ev_cst) ?_
    show some (Ou.v (.tup (cutL (ps.map pD) none (some ((11 : Nat) : Int))))) = _
    rw [cut_to, List.map_take]
  have ea : ev C (.bin .Add false (.slc false (.nm 2) .no (.yes (.cst (.int 11)))) (.tup [(.tup [(.cst (.int 0)), (.nm 5)])])) (uf n m ps bn x4 (some no) (some fitD) x7 x8 x9 x10 x11) T = some (.ok (.tup ((ps.take 11).map pD ++ [.tup [I 0, no]])) T) := by
    refine ev_bin es (ev_tup (evs_cons (ev_tup (evs_cons ev_cst (evs_cons (ev_nm rfl) evs_nil))) evs_nil)) ?_
    have hf : fits (((ps.take 11).map pD).length + [D.tup [I 0, no]].length) = true := by
      simp only [fits, decide_eq_true_eq, List.length_map, List.length_take, List.length_singleton]; omega
    show (if Operator.Add = .Add ∧ fits (((ps.take 11).map pD).length + [D.tup [I 0, no]].length) = true then some (Ou.v (.tup ((ps.take 11).map pD ++ [.tup [I 0, no]]))) else none) = _
    rw [if_pos ⟨rfl, hf⟩]
  exact ev_lstF (evs_cons ev_cst (evs_cons ev_cst (evs_cons ea (evs_cons (ev_tup (evs_cons (ev_bin (x := fitD) (ev_nm rfl) (ev_tup (evs_cons ev_cst evs_nil)) rfl) evs_nil)) evs_nil))))
end
theorem kn0_sd (n : Nat) : sd (n + 1) (kn (I 0)) = true := two_tup (word_sd n (.kn 0)) (int_sd n 0)
theorem one_tup {n : Nat} {a : D} (h1 : sd n a = true) : sd (n + 1) (.tup [a]) = true := by
  show (decide _ && [a].all (sd n)) = true
  simp only [List.all_cons, List.all_nil, h1]; rfl
theorem bad_ok {m : Nat} {ps : List Sp} {no x : D} (hps : ∀ q ∈ ps, okP m q) (hpl : ps.length ≤ 12) (hno : sayB m 6 [no] = false) (hns : sd 11 no = true) (hx : x ∈ badL m ps no) : saysB m x = false ∧ sd 13 x = true := by
  have one : ∀ {y : D}, saidB m y = false → saysB m (.tup [y]) = false := fun {y} h => by
    simp only [saysB, List.all_cons, h, Bool.false_and, Bool.and_false]
  have sno : saidB m (.tup [I 0, no]) = false := by show (_ && sayB m 6 [no]) = false; rw [hno, Bool.and_false]
  have dno : sd 12 (.tup [I 0, no]) = true := two_tup (int_sd 11 0) hns
  have pd : ∀ {d : D}, d ∈ ps.map pD → sd 8 d = true := fun {d} hd => by
    obtain ⟨q, hq, rfl⟩ := List.mem_map.mp hd
    exact pD_sd (hps q hq)
  unfold badL b1L b2L at hx
  simp only [List.cons_append, List.nil_append, List.mem_cons, List.not_mem_nil, or_false] at hx
  rcases hx with rfl | rfl | rfl | rfl | rfl | rfl | rfl | rfl | rfl | rfl | rfl | rfl | rfl | rfl
  · exact ⟨rfl, rfl⟩
  · refine ⟨rfl, ?_⟩
    have : (ps.map pD).all (sd 12) = true := List.all_eq_true.mpr fun d hd => sd_up (pd hd) (by omega)
    rw [sd, this, decide_eq_true (by rw [List.length_map]; omega)]; rfl
  · exact ⟨one rfl, rfl⟩
  · exact ⟨one rfl, rfl⟩
  · exact ⟨one sno, one_tup dno⟩
  · refine ⟨one ?_, one_tup (two_tup (int_sd 11 _) (kn0_sd 10))⟩
    show (isIn 0 ((m : Int) - 1) (.int (m : Int)) && sayB m 6 [kn (I 0)]) = false
    have : isIn 0 ((m : Int) - 1) (.int (m : Int)) = false := by
      simp only [isIn, Bool.and_eq_false_iff, decide_eq_false_iff_not]; omega
    rw [this, Bool.false_and]
  · refine ⟨one ?_, one_tup (two_tup (int_sd 11 _) (kn0_sd 10))⟩
    show (isIn 0 ((m : Int) - 1) (.int (-1)) && sayB m 6 [kn (I 0)]) = false
    have : isIn 0 ((m : Int) - 1) (.int (-1)) = false := rfl
    rw [this, Bool.false_and]
  · exact ⟨one rfl, one_tup (two_tup (bl_sd 11 true) (kn0_sd 10))⟩
  · refine ⟨one rfl, one_tup ?_⟩
    show (decide _ && [I 0, kn (I 0)].all (sd 11)) = true
    simp only [List.all_cons, List.all_nil, int_sd, kn0_sd 10]; rfl
  · refine ⟨?_, ?_⟩
    · simp [saysB]
    · have : (List.replicate 13 fitD).all (sd 12) = true := List.all_eq_true.mpr fun d hd => by
        rw [List.eq_of_mem_replicate hd]; exact two_tup (int_sd 11 0) (kn0_sd 10)
      rw [sd, this, decide_eq_true (by rw [List.length_replicate]; omega)]; rfl
  · exact ⟨rfl, s_sd 13 (by decide +kernel)⟩
  · exact ⟨rfl, rfl⟩
  · refine ⟨?_, ?_⟩
    · show (_ && ((ps.take 11).map pD ++ [D.tup [I 0, no]]).all (saidB m)) = false
      rw [List.all_append, List.all_cons, sno, Bool.false_and, Bool.and_false, Bool.and_false]
    · have : ((ps.take 11).map pD ++ [D.tup [I 0, no]]).all (sd 12) = true := List.all_eq_true.mpr fun d hd => by
        rcases List.mem_append.mp hd with h | h
        · rw [List.map_take] at h
          exact sd_up (pd (List.mem_of_mem_take h)) (by omega)
        · rw [List.mem_singleton.mp h]; exact dno
      rw [sd, this, decide_eq_true (by rw [List.length_append, List.length_map, List.length_take, List.length_singleton]; omega)]; rfl
  · exact ⟨one rfl, one_tup (three_tup (int_sd 11 0) (kn0_sd 10) (int_sd 11 0))⟩
/-- a draw from a menu -/
theorem pick_ev (k m0 n many : Nat) (fr : Fr) (T : Store) (d : D) (N : Int) (xs : List D) (e : Ex) (h0 : getFr fr 0 = some (.ref n)) (he : ev (cg (k + 1) m0).toCf e fr T = some (.ok (.lst xs) T)) (hl : xs.length = many) (hm : 0 < many ∧ many < 1000) (g : T[n]? = some d) (hB : Bok N d) (hN : N ≤ 900000000) :
    ∃ x d', ev (cg (k + 1) m0).toCf (.sub e (.call 23 false [(.nm 0), (.cst (.int (many : Int)))] [0, 1])) fr T = some (.ok x (T.set n d')) ∧ x ∈ xs ∧ Bok (N + 1) d' := by
  obtain ⟨v, d', E, v1, v2, hB'⟩ := take_ev k m0 (.cst (.int (many : Int))) fr T T n N (many : Int) h0 ev_cst ⟨d, g, hB⟩ (by omega) (by omega) (by omega)
  have hv : v.toNat < xs.length := by omega
  refine ⟨xs[v.toNat], d', ev_sub he E ?_, List.getElem_mem hv, hB'⟩
  show L2.atI xs v = _
  have := atI_get hv
  rwa [Int.toNat_of_nonneg v1] at this
theorem rep_b {m : Nat} (h1 : 1 ≤ m) (h5 : m ≤ 5) {S : Store} : binD S .Mult (.tup [.bl true]) (.int (m : Int)) = some (.v (wD (List.replicate m true))) := by
  have : m = 1 ∨ m = 2 ∨ m = 3 ∨ m = 4 ∨ m = 5 := by omega
  rcases this with rfl | rfl | rfl | rfl | rfl <;> rfl
theorem fd33 : P.fd 33 = some ⟨4, 12, b33⟩ := rfl
/-- asked -/
theorem q_ev (K m0 n m : Nat) (ps : List Sp) (bn : Bool) (x4 x5 x6 x7 x8 x9 x10 x11 : Option D) (T : Store) (ew e1 e2 e3 eb : Ex) (w : Nat) (a b c q : D) (nb : Bool)
    (hew : ev (cg K m0).toCf ew (uf n m ps bn x4 x5 x6 x7 x8 x9 x10 x11) T = some (.ok (.int (w : Int)) T)) (he1 : ev (cg K m0).toCf e1 (uf n m ps bn x4 x5 x6 x7 x8 x9 x10 x11) T = some (.ok a T)) (he2 : ev (cg K m0).toCf e2 (uf n m ps bn x4 x5 x6 x7 x8 x9 x10 x11) T = some (.ok b T)) (he3 : ev (cg K m0).toCf e3 (uf n m ps bn x4 x5 x6 x7 x8 x9 x10 x11) T = some (.ok c T)) (heb : ev (cg K m0).toCf eb (uf n m ps bn x4 x5 x6 x7 x8 x9 x10 x11) T = some (.ok (.bl nb) T))
    (h : gcOut T.length false (callR P K 30 [.int (w : Int), a, b, c, .bl nb] T) = some (.ok q T)) : ev (cg K m0).toCf (.call 30 false [ew, e1, e2, e3, eb] [0, 1, 2, 3, 4]) (uf n m ps bn x4 x5 x6 x7 x8 x9 x10 x11) T = some (.ok q T) := by
  refine ev_call (ds' := [.int (w : Int), a, b, c, .bl nb]) (evs_cons hew (evs_cons he1 (evs_cons he2 (evs_cons he3 (evs_cons heb evs_nil))))) rfl ?_
  rw [cg_call]; exact h
theorem word2_sd (n : Nat) : sd n (.str ("number" : Str)) = true ∧ sd n (.str ("sayings" : Str)) = true ∧ sd n (.str ("saying" : Str)) = true ∧ sd n (.str ("world" : Str)) = true := ⟨s_sd n (by decide +kernel), s_sd n (by decide +kernel), s_sd n (by decide +kernel), s_sd n (by decide +kernel)⟩
abbrev uB : List Vm.St := [(.asg (.nm 11) (.lst false [(.call 30 false [(.nm 9), (.nm 4), (.nm 8), (.nm 5), (.nm 3)] [0, 1, 2, 3, 4]), (.call 30 false [(.nm 9), (.nm 1), (.nm 8), (.nm 5), (.notE (.v (.nm 3)))] [0, 1, 2, 3, 4])])), (.ife (.neg (.v (.call 24 false [(.nm 11), (.lst false [(.lst false [(.cst (.str ("number" : Str))), (.nm 4)]), (.lst false [(.cst (.str ("sayings" : Str))), (.nm 8)])])] [0, 1]))) [(.ret (.cst (.bl false)))] [])]
section
variable (k m0 n m : Nat) (ps : List Sp) (bn : Bool) (num no bad : D) (T : Store) (x6 x7 x10 : Option D)
theorem u_turn (w : Nat) (x11 : Option D) (hw : w ≤ 2) (h1 : 1 ≤ m) (h5 : m ≤ 5) (hnum : isIn 1 8 num = false) (hns : sd 2 num = true) (hb : saysB m bad = false) (hbs : sd 13 bad = true) :
    ∃ z, Vm.execs (cg (k + 20) m0) uB (uf n m ps bn (some num) (some no) x6 x7 (some bad) (some (.int (w : Int))) x10 x11) T = some (.ok (.nx (uf n m ps bn (some num) (some no) x6 x7 (some bad) (some (.int (w : Int))) x10 z)) T) := by
  let C := cg (k + 20) m0
  let f (y : Option D) : Fr := uf n m ps bn (some num) (some no) x6 x7 (some bad) (some (.int (w : Int))) x10 y
  have q1 : gcOut T.length false (callR P (k + 20) 30 [.int (w : Int), num, bad, no, .bl bn] T) = some (.ok (.lst [.str ("number" : Str), num]) T) :=
    asked_ex (k + 19) w bn 1 (by omega) (by omega) (ask_chk (k + 9) w hw num bad no T 1 num (sd_refs hns) (says_num (k + 14) 2 num bad T hns hnum)) (sd_refs hns)
  have q2 : gcOut T.length false (callR P (k + 20) 30 [.int (w : Int), .int (m : Int), bad, no, .bl (!bn)] T) = some (.ok (.lst [.str ("sayings" : Str), bad]) T) := by
    refine asked_ex (k + 19) w (!bn) 3 (by omega) (by omega) (ask_chk (k + 9) w hw (.int (m : Int)) bad no T 3 bad (sd_refs hbs) ?_) (sd_refs hbs)
    rcases says_tst (k + 9) m 13 bad T h1 (by omega) hbs (by omega) with ⟨e, _⟩ | ⟨_, e⟩
    · rw [hb] at e; cases e
    · exact e
  let Q : D := .lst [.lst [.str ("number" : Str), num], .lst [.str ("sayings" : Str), bad]]
  have e1 : ev C.toCf (.lst false [(.call 30 false [(.nm 9), (.nm 4), (.nm 8), (.nm 5), (.nm 3)] [0, 1, 2, 3, 4]), (.call 30 false [(.nm 9), (.nm 1), (.nm 8), (.nm 5), (.notE (.v (.nm 3)))] [0, 1, 2, 3, 4])]) (f x11) T = some (.ok Q T) :=
    ev_lstF (evs_cons (q_ev (k + 20) m0 n m ps bn _ _ _ _ _ _ _ _ T _ _ _ _ _ w num bad no _ bn (ev_nm rfl) (ev_nm rfl) (ev_nm rfl) (ev_nm rfl) (ev_nm rfl) q1) (evs_cons (q_ev (k + 20) m0 n m ps bn _ _ _ _ _ _ _ _ T _ _ _ _ _ w (.int (m : Int)) bad no _ (!bn) (ev_nm rfl) (ev_nm rfl) (ev_nm rfl) (ev_nm rfl) (ev_notE (tst_vb (ev_nm rfl))) q2) evs_nil))
  have hQ : sd 15 Q = true := pair_sd (pair_sd (word2_sd 13).1 (sd_up hns (by omega))) (pair_sd (word2_sd 13).2.1 hbs)
  have e2 : ev C.toCf (.call 24 false [(.nm 11), (.lst false [(.lst false [(.cst (.str ("number" : Str))), (.nm 4)]), (.lst false [(.cst (.str ("sayings" : Str))), (.nm 8)])])] [0, 1]) (f (some Q)) T = some (.ok (.bl true) T) := by
    refine ev_c2 (x := Q) (y := Q) (S1 := T) (S2 := T) (ev_nm rfl) (ev_lstF (evs_cons (ev_lstF (evs_cons ev_cst (evs_cons (ev_nm rfl) evs_nil))) (evs_cons (ev_lstF (evs_cons ev_cst (evs_cons (ev_nm rfl) evs_nil))) evs_nil))) ?_
    rw [show C.toCf.call = callR P (k + 20) from rfl]
    exact same_call 15 (k + 4) Q T hQ
  exact ⟨some Q, (execs_nx (exec_asg (fr' := f (some Q)) e1 rfl)).trans ((execs_nx ((exec_ifF (tst_neg (tst_vb e2))).trans execs_nil)).trans execs_nil)⟩
end
theorem u_loop (k m0 n m : Nat) (ps : List Sp) (bn : Bool) (num no bad : D) (T : Store) (x6 x7 x10 : Option D) (h1 : 1 ≤ m) (h5 : m ≤ 5) (hnum : isIn 1 8 num = false) (hns : sd 2 num = true) (hb : saysB m bad = false) (hbs : sd 13 bad = true) :
    ∃ z9 z11, Vm.exec (cg (k + 20) m0) (.for_ false (.nm 9) (.rng1 (.cst (.int 3))) uB) (uf n m ps bn (some num) (some no) x6 x7 (some bad) none x10 none) T = some (.ok (.nx (uf n m ps bn (some num) (some no) x6 x7 (some bad) z9 x10 z11)) T) := by
  let C := cg (k + 20) m0
  let f (x9 y : Option D) : Fr := uf n m ps bn (some num) (some no) x6 x7 (some bad) x9 x10 y
  have it : evIt C.toCf (.rng1 (.cst (.int 3))) (f none none) T = some (.ok ⟨iN (List.range 3), none⟩ T) := rfl
  obtain ⟨fr', T', el, z9, z11, rfl, rfl, _⟩ := forGo_inv (f := fun d fr T => gcFl false T.length (bnd (lift (asgT (.nm 9) d fr) T) fun fr' S' => Vm.execs (C.up false T) uB fr' S')) (st := (Its.mk (iN (List.range 3)) none).still)
    (fun rest fr0 T1 => ∃ z9 z11, fr0 = f z9 z11 ∧ T = T1 ∧ ∃ js : List Nat, rest = iN js ∧ ∀ j ∈ js, j ≤ 2) (iN (List.range 3)) (f none none) T ⟨none, none, rfl, rfl, List.range 3, rfl, fun j hj => by have := List.mem_range.mp hj; omega⟩
    fun x r fr0 T1 ⟨z9, z11, ef, eT, js, ej, hj⟩ => by
      subst ef eT
      cases js with
      | nil => simp [iN] at ej
      | cons j js =>
        obtain ⟨rfl, rfl⟩ : x = .int (j : Int) ∧ r = iN js := by simpa [iN] using ej
        obtain ⟨z, e⟩ := u_turn k m0 n m ps bn num no bad T x6 x7 x10 j z11 (hj j List.mem_cons_self) h1 h5 hnum hns hb hbs
        exact ⟨_, T, .inl e, rfl, some (.int (j : Int)), z, rfl, rfl, js, rfl, fun i hi => hj i (List.mem_cons_of_mem _ hi)⟩
  exact ⟨z9, z11, (exec_for it rfl).trans el⟩
end K55

/-! k55: refused, whole -/
namespace K55
open PySem Vm
theorem refused_call (k n m : Nat) (ps : List Sp) (bn : Bool) (S : Store) (d : D) (N : Int) (g : S[n]? = some d) (hB : Bok N d) (hN : N ≤ 500000000) (h1 : 1 ≤ m) (h5 : m ≤ 5) (hps : ∀ q ∈ ps, okP m q) (hpl : ps.length ≤ 12) :
    ∃ d', gcOut S.length false (callR P (k + 21) 33 [.ref n, .int (m : Int), psD ps, .bl bn] S) = some (.ok (.bl true) (S.set n d')) ∧ Bok (N + 10) d' := by
  let C := cg (k + 20) S.length
  let f := uf n m ps bn
  obtain ⟨num, d1, E1, hnum, hB1⟩ := pick_ev (k + 19) S.length n 8 (f none none none none none none none none) S d N mNum eNum rfl num_ev rfl (by omega) g hB (by omega)
  have hq := List.all_eq_true.mp num_menu num hnum
  simp only [Bool.and_eq_true, Bool.not_eq_true'] at hq
  obtain ⟨q1, q2⟩ := hq
  obtain ⟨no, d2, e2, hno, hB2⟩ := no_call (k + 18) n m (S.set n d1) d1 _ (set_get g d1) hB1 (by omega) h1 h5
  rw [List.set_set] at e2
  obtain ⟨no1, no2⟩ := nos_bad h1 h5 hno
  have E2 : ev C.toCf (.call 32 false [(.nm 0), (.nm 1)] [0, 1]) (f (some num) none none none none none none none) (S.set n d1) = some (.ok no (S.set n d2)) := by
    refine ev_c2 (x := .ref n) (y := .int (m : Int)) (S1 := S.set n d1) (S2 := S.set n d1) (ev_nm rfl) (ev_nm rfl) ?_
    rw [show C.toCf.call = callR P (k + 20) from rfl]
    exact e2
  let T2 := S.set n d2
  have E3 : ev C.toCf (.tup [(.cst (.int 0)), (.tup [(.cst (.str ("knight" : Str))), (.cst (.int 0))])]) (f (some num) (some no) none none none none none none) T2 = some (.ok fitD T2) := ev_tup (evs_cons ev_cst (evs_cons kn_ev evs_nil))
  have E5 : ev C.toCf (.bin .Add false (.nm 7) eB2) (f (some num) (some no) (some fitD) (some (.lst (b1L m ps no))) none none none none) T2 = some (.ok (.lst (badL m ps no)) T2) := add_ev (ev_nm rfl) (b2_ev hpl) (by show 10 + 4 ≤ 1000; omega)
  obtain ⟨bad, d3, E6, hbad, hB3⟩ := pick_ev (k + 19) S.length n 14 (f (some num) (some no) (some fitD) (some (.lst (badL m ps no))) none none none none) T2 d2 _ (badL m ps no) (.nm 7) rfl (ev_nm rfl) rfl (by omega) (set_get g d2) hB2 (by omega)
  rw [show T2.set n d3 = S.set n d3 from List.set_set ..] at E6
  obtain ⟨b1, b2⟩ := bad_ok hps hpl no1 no2 hbad
  let T3 := S.set n d3
  obtain ⟨z9, z11, E7⟩ := u_loop k S.length n m ps bn num no bad T3 (some fitD) (some (.lst (badL m ps no))) none h1 h5 q1 q2 b1 b2
  let f7 (x10 x11 : Option D) : Fr := f (some num) (some no) (some fitD) (some (.lst (badL m ps no))) (some bad) z9 x10 x11
  have a8 : ∀ T : Store, gcOut T.length false (callR P (k + 20) 30 [.int ((2 : Nat) : Int), .int (m : Int), psD ps, no, .bl bn] T) = some (.ok (.lst [.str ("saying" : Str), no]) T) := fun T => asked_ex (k + 19) 2 bn 2 (by omega) (by omega) (ask_say (k + 9) m ps no T h1 (by omega) hps hpl no2 no1) (sd_refs no2)
  have t8 : tst C.toCf (.neg (.v (.call 24 false [(.call 30 false [(.cst (.int 2)), (.nm 1), (.nm 2), (.nm 5), (.nm 3)] [0, 1, 2, 3, 4]), (.lst false [(.cst (.str ("saying" : Str))), (.nm 5)])] [0, 1]))) (f7 none z11) T3 = some (.ok false T3) := by
    refine tst_neg (k := true) (tst_vb (ev_c2 (x := .lst [.str ("saying" : Str), no]) (y := .lst [.str ("saying" : Str), no]) (S1 := T3) (S2 := T3) (q_ev (k + 20) S.length n m ps bn _ _ _ _ _ _ _ _ T3 _ _ _ _ _ 2 (.int (m : Int)) (psD ps) no _ bn ev_cst (ev_nm rfl) (ev_nm rfl) (ev_nm rfl) (ev_nm rfl) (a8 T3)) (ev_lstF (evs_cons ev_cst (evs_cons (ev_nm rfl) evs_nil))) ?_))
    rw [show C.toCf.call = callR P (k + 20) from rfl]
    exact same_call 12 (k + 7) _ T3 (pair_sd (word2_sd 11).2.2.1 no2)
  obtain ⟨wo, d4, E9, hwo, hB4⟩ := pick_ev (k + 19) S.length n 10 (f7 none z11) T3 d3 _ mWor eWor rfl wor_ev rfl (by omega) (set_get g d3) hB3 (by omega)
  rw [show T3.set n d4 = S.set n d4 from List.set_set ..] at E9
  have hwq := List.all_eq_true.mp wor_menu wo hwo
  simp only [Bool.and_eq_true, Bool.not_eq_true'] at hwq
  obtain ⟨w1, w2⟩ := hwq
  let T4 := S.set n d4
  let Q : D := .lst [.lst [.str ("world" : Str), wo], .lst [.str ("saying" : Str), no]]
  have aA : gcOut T4.length false (callR P (k + 20) 30 [.int ((3 : Nat) : Int), wo, no, .non, .bl bn] T4) = some (.ok (.lst [.str ("world" : Str), wo]) T4) := asked_ex (k + 19) 3 bn 4 (by omega) (by omega) (holds_w (k + 18) 2 wo no T4 w2 w1) (sd_refs w2)
  have aB : gcOut T4.length false (callR P (k + 20) 30 [.int ((3 : Nat) : Int), wD (List.replicate m true), no, .non, .bl (!bn)] T4) = some (.ok (.lst [.str ("saying" : Str), no]) T4) := by
    refine asked_ex (k + 19) 3 (!bn) 2 (by omega) (by omega) (holds_s (k + 11) 11 (List.replicate m true) no T4 (by rw [List.length_replicate]; exact h1) (by rw [List.length_replicate]; omega) no2 (by omega) ?_) (sd_refs no2)
    rw [List.length_replicate]; exact no1
  have E10 : ev C.toCf (.lst false [(.call 30 false [(.cst (.int 3)), (.nm 10), (.nm 5), (.cst .non), (.nm 3)] [0, 1, 2, 3, 4]), (.call 30 false [(.cst (.int 3)), (.bin .Mult false (.tup [(.cst (.bl true))]) (.nm 1)), (.nm 5), (.cst .non), (.notE (.v (.nm 3)))] [0, 1, 2, 3, 4])]) (f7 (some wo) z11) T4 = some (.ok Q T4) :=
    ev_lstF (evs_cons (q_ev (k + 20) S.length n m ps bn _ _ _ _ _ _ _ _ T4 _ _ _ _ _ 3 wo no .non _ bn ev_cst (ev_nm rfl) (ev_nm rfl) ev_cst (ev_nm rfl) aA) (evs_cons (q_ev (k + 20) S.length n m ps bn _ _ _ _ _ _ _ _ T4 _ _ _ _ _ 3 (wD (List.replicate m true)) no .non _ (!bn) ev_cst (ev_bin (ev_tup (evs_cons ev_cst evs_nil)) (ev_nm rfl) (rep_b h1 h5)) (ev_nm rfl) ev_cst (ev_notE (tst_vb (ev_nm rfl))) aB) evs_nil))
  have hQ : sd 13 Q = true := pair_sd (pair_sd (word2_sd 11).2.2.2 (sd_up w2 (by omega))) (pair_sd (word2_sd 11).2.2.1 no2)
  have E11 : ev C.toCf (.call 24 false [(.nm 11), (.lst false [(.lst false [(.cst (.str ("world" : Str))), (.nm 10)]), (.lst false [(.cst (.str ("saying" : Str))), (.nm 5)])])] [0, 1]) (f7 (some wo) (some Q)) T4 = some (.ok (.bl true) T4) := by
    refine ev_c2 (x := Q) (y := Q) (S1 := T4) (S2 := T4) (ev_nm rfl) (ev_lstF (evs_cons (ev_lstF (evs_cons ev_cst (evs_cons (ev_nm rfl) evs_nil))) (evs_cons (ev_lstF (evs_cons ev_cst (evs_cons (ev_nm rfl) evs_nil))) evs_nil))) ?_
    rw [show C.toCf.call = callR P (k + 20) from rfl]
    exact same_call 13 (k + 6) Q T4 hQ
  refine ⟨d4, ?_, hB4.mono (by omega)⟩
  have run : callR P (k + 21) 33 [.ref n, .int (m : Int), psD ps, .bl bn] S = some (.ok (.bl true) T4) := by
    refine run_def fd33 rfl ?_
    show Vm.execs C b33 (f none none none none none none none none) S = _
    rw [b33]
    refine (execs_nx (exec_asg (fr' := f (some num) none none none none none none none) E1 rfl)).trans ?_
    refine (execs_nx (exec_asg (fr' := f (some num) (some no) none none none none none none) E2 rfl)).trans ?_
    refine (execs_nx (exec_asg (fr' := f (some num) (some no) (some fitD) none none none none none) E3 rfl)).trans ?_
    refine (execs_nx (exec_asg (fr' := f (some num) (some no) (some fitD) (some (.lst (b1L m ps no))) none none none none) b1_ev rfl)).trans ?_
    refine (execs_nx (exec_asg (fr' := f (some num) (some no) (some fitD) (some (.lst (badL m ps no))) none none none none) E5 rfl)).trans ?_
    refine (execs_nx (exec_asg (fr' := f (some num) (some no) (some fitD) (some (.lst (badL m ps no))) (some bad) none none none) E6 rfl)).trans ?_
    refine (execs_nx E7).trans ?_
    refine (execs_nx ((exec_ifF t8).trans execs_nil)).trans ?_
    refine (execs_nx (exec_asg (fr' := f7 (some wo) z11) E9 rfl)).trans ?_
    refine (execs_nx (exec_asg (fr' := f7 (some wo) (some Q)) E10 rfl)).trans ?_
    exact execs_rt (exec_ret E11)
  rw [run, gc_set rfl]
end K55

/-! k55: the law's parts -/
namespace K55
open PySem Vm
/-! ### the law -/
theorem fd21 : P.fd 21 = some ⟨2, 2, b21⟩ := rfl
theorem fd34 : P.fd 34 = some ⟨1, 9, b34⟩ := rfl
theorem intsOf_iL : ∀ l : List Int, intsOf (iL l) = some l
  | [] => rfl
  | x :: l => by
    show (intsOf (iL l)).map _ = _
    rw [intsOf_iL l]; rfl
theorem cell_call (k j : Nat) (ns : List Int) (S : Store) : ∃ z, gcOut S.length false (callR P (k + 1) 21 [.scr ns, .int (j : Int)] S) = some (.ok (.int z) S) := by
  let fr : Fr := [some (.scr ns), some (.int (j : Int))]
  have t1 : tst (cg k S.length).toCf (.cmp .Lt (.nm 1) (.blt .len false [(.nm 0)])) fr S = some (.ok (decide (j < ns.length)) S) := by
    refine tst_cmp (ev_nm rfl) (ev_blt (z := .int ((ns.length : Nat) : Int)) (evs_cons (ev_nm rfl) evs_nil) (by simp [btD, lenD, seqOf])) ?_
    simp only [cmpD, Int.ofNat_lt]
  by_cases h : j < ns.length
  · refine ⟨ns[j], pc_def fd21 rfl ?_ rfl⟩
    show Vm.execs (cg k S.length) b21 fr S = _
    rw [b21]
    rw [decide_eq_true h] at t1
    refine execs_rt (exec_ret ((ev_iteT t1).trans (ev_sub (ev_nm rfl) (ev_nm rfl) ?_)))
    show L2.atI (iL ns) (j : Int) = _
    rw [atI_get (by rw [iL_len]; exact h)]
    simp [iL]
  · refine ⟨6007 * (j : Int) + ((cutL ns none (some 1)).sum).fmod 1000033, pc_def fd21 rfl ?_ rfl⟩
    show Vm.execs (cg k S.length) b21 fr S = _
    rw [b21]
    rw [decide_eq_false h] at t1
    have ecut : cutL (ns.map D.int) none (some 1) = iL (cutL ns none (some 1)) := by
      unfold cutL iL
      simp [List.map_take, List.map_drop]
    have cm : cmulB 6007 (j : Int) = true := by simp [cmulB]
    refine execs_rt (exec_ret ((ev_iteF t1).trans (ev_bin (ev_bin (z := .int (6007 * (j : Int))) ev_cst (ev_nm rfl) (by simp only [binD, binI, cm, if_true]; rfl)) (ev_bin (ev_blt (z := .int ((cutL ns none (some 1)).sum)) (evs_cons (ev_blt (z := .int ((cutL ns none (some 1)).sum)) (evs_cons (ev_slcL (ds := iL (cutL ns none (some 1))) (ev_nm rfl) evO_no (evO_yes ev_cst) ?_) evs_nil) ?_) evs_nil) rfl) ev_cst rfl) rfl)))
    · show some (Ou.l (cutL (ns.map D.int) none (some 1))) = _
      rw [ecut]
    · simp [btD, lstOf, intsOf_iL]
theorem box_bx (k : Nat) (z : Int) (S : Store) : ∃ d, gcOut S.length true (callR P (k + 1) 22 [.int z] S) = some (.ok (.ref S.length) (S ++ [d])) ∧ Bok 0 d := by
  obtain ⟨d, e, hB⟩ := box_run k z S
  refine ⟨d, ?_, hB⟩
  rw [e]
  simp only [gcOut, if_true, Nat.lt_irrefl, if_false, List.getElem?_concat_length, hB.refs, List.take_left]
abbrev lfr (ns : List Int) (x1 : Option D) (n : Nat) (x3 x4 x5 x6 x7 x8 : Option D) : Fr := [some (.scr ns), x1, some (.ref n), x3, x4, x5, x6, x7, x8]
abbrev tk (i : Int) : Ex := .call 23 false [(.nm 2), (.cst (.int i))] [0, 1]
/-- a draw from the box in the slot 2 -/
theorem tk_ev (k m n : Nat) (many : Int) (fr : Fr) (T : Store) (d : D) (N : Int) (h2 : getFr fr 2 = some (.ref n)) (g : T[n]? = some d) (hB : Bok N d) (hN : N ≤ 1000000000) (hm : 0 < many) (hm2 : many < 1000000) :
    ∃ (v : Nat) (d' : D), ev (cg (k + 1) m).toCf (tk many) fr T = some (.ok (.int (v : Int)) (T.set n d')) ∧ (v : Int) < many ∧ Bok (N + 1) d' := by
  obtain ⟨v, d', ec, h1, h2', h3⟩ := take_call k T n d N many g hB hN hm hm2
  obtain ⟨v, rfl⟩ : ∃ v0 : Nat, v = (v0 : Int) := ⟨v.toNat, by omega⟩
  refine ⟨v, d', ev_c2 (x := .ref n) (y := .int many) (S1 := T) (S2 := T) (ev_nm h2) ev_cst ?_, h2', h3⟩
  rw [cg_call]; exact ec
abbrev lwI : List Vm.St := [(.asg (.tup [(.nm 6), (.nm 7)]) (.call 29 false [(.nm 2)] [0])), (.ife (.disj [(.neg (.v (.call 31 false [(.nm 2), (.nm 6), (.nm 7), (.nm 3)] [0, 1, 2, 3]))), (.neg (.v (.call 33 false [(.nm 2), (.nm 6), (.nm 7), (.nm 3)] [0, 1, 2, 3])))]) [(.ret (.cst (.bl false)))] []), (.asg (.nm 3) (.notE (.v (.nm 3))))]
theorem lwt_turn (k m0 n : Nat) (ns : List Int) (b : Bool) (x1 x4 x5 x6 x7 x8 : Option D) (T : Store) (d : D) (N : Int) (g : T[n]? = some d) (hB : Bok N d) (hN : N ≤ 100000000) :
    ∃ z6 z7 d', Vm.execs (cg (k + 21) m0) lwI (lfr ns x1 n (some (.bl b)) x4 x5 x6 x7 x8) T = some (.ok (.nx (lfr ns x1 n (some (.bl (!b))) x4 x5 z6 z7 x8)) (T.set n d')) ∧ Bok (N + 7000) d' := by
  let C := cg (k + 21) m0
  obtain ⟨m, ps, d1, e1, m1, m5, hps, hpl, hB1⟩ := talk_call (k + 11) n T d N g hB (by omega)
  have E1 : ev C.toCf (.call 29 false [(.nm 2)] [0]) (lfr ns x1 n (some (.bl b)) x4 x5 x6 x7 x8) T = some (.ok (.lst [.int (m : Int), psD ps]) (T.set n d1)) := by
    refine ev_c1 (x := .ref n) (S1 := T) (ev_nm rfl) ?_
    rw [show C.toCf.call = callR P (k + 21) from rfl]
    exact e1
  let f := lfr ns x1 n (some (.bl b)) x4 x5 (some (.int (m : Int))) (some (psD ps)) x8
  obtain ⟨d2, e2, hB2⟩ := right_call (k + 8) n m ps b (T.set n d1) d1 _ (set_get g d1) hB1 (by omega) m1 (by omega) hps hpl
  rw [List.set_set] at e2
  have E2 : ev C.toCf (.call 31 false [(.nm 2), (.nm 6), (.nm 7), (.nm 3)] [0, 1, 2, 3]) f (T.set n d1) = some (.ok (.bl true) (T.set n d2)) := by
    refine ev_c4 (x := .ref n) (y := .int (m : Int)) (z := psD ps) (w := .bl b) (S1 := T.set n d1) (S2 := T.set n d1) (S3 := T.set n d1) (S4 := T.set n d1) (ev_nm rfl) (ev_nm rfl) (ev_nm rfl) (ev_nm rfl) ?_
    rw [show C.toCf.call = callR P (k + 21) from rfl]
    exact e2
  obtain ⟨d3, e3, hB3⟩ := refused_call k n m ps b (T.set n d2) d2 _ (set_get g d2) hB2 (by omega) m1 m5 hps hpl
  rw [List.set_set] at e3
  have E3 : ev C.toCf (.call 33 false [(.nm 2), (.nm 6), (.nm 7), (.nm 3)] [0, 1, 2, 3]) f (T.set n d2) = some (.ok (.bl true) (T.set n d3)) := by
    refine ev_c4 (x := .ref n) (y := .int (m : Int)) (z := psD ps) (w := .bl b) (S1 := T.set n d2) (S2 := T.set n d2) (S3 := T.set n d2) (S4 := T.set n d2) (ev_nm rfl) (ev_nm rfl) (ev_nm rfl) (ev_nm rfl) ?_
    rw [show C.toCf.call = callR P (k + 21) from rfl]
    exact e3
  have tt := tst_disj.trans ((tsDisj_F (tst_neg (tst_vb E2))).trans ((tsDisj_F (tst_neg (tst_vb E3))).trans tsDisj_nil))
  have E4 : ev C.toCf (.notE (.v (.nm 3))) f (T.set n d3) = some (.ok (.bl (!b)) (T.set n d3)) := ev_notE (tst_vb (ev_nm rfl))
  refine ⟨some (.int (m : Int)), some (psD ps), d3, ?_, hB3.mono (by omega)⟩
  refine (execs_nx (exec_asg (fr' := f) E1 rfl)).trans ?_
  refine (execs_nx ((exec_ifF tt).trans execs_nil)).trans ?_
  exact (execs_nx (exec_asg (fr' := lfr ns x1 n (some (.bl (!b))) x4 x5 (some (.int (m : Int))) (some (psD ps)) x8) E4 rfl)).trans execs_nil
end K55

/-! k55: the law -/
namespace K55
open PySem Vm
/-- the talk of eight -/
def manyL : List Sp := (List.range 12).map fun p => (p % 8, Sy.ct 4 (List.range 8))
theorem many_ok : (∀ q ∈ manyL, okP 8 q) ∧ manyL.length ≤ 12 := by
  refine ⟨fun q hq => ?_, by simp [manyL]⟩
  obtain ⟨p, hp, rfl⟩ := List.mem_map.mp hq
  refine ⟨Nat.mod_lt _ (by omega), ⟨by omega, by simp, fun p hp => List.mem_range.mp hp, by decide⟩, by show 1 ≤ 6; omega⟩
abbrev mnE : Ex := (.blt .tuple false [(.lc false (.nm 8) [8] (.rng1 (.cst (.int 12))) [] (.tup [(.bin .Mod false (.nm 8) (.cst (.int 8))), (.tup [(.cst (.str ("count" : Str))), (.cst (.int 4)), (.rng1 false true (.cst (.int 8)))])]))])
theorem mn_ev {C : Cf} {ns : List Int} {x1 x3 x4 x5 x6 x7 x8 : Option D} {n : Nat} {T : Store} : ev C mnE (lfr ns x1 n x3 x4 x5 x6 x7 x8) T = some (.ok (psD manyL) T) := by
  have it : evIt C (.rng1 (.cst (.int 12))) (lfr ns x1 n x3 x4 x5 x6 x7 x8) T = some (.ok ⟨(List.range 12).map fun (p : Nat) => .int (p : Int), none⟩ T) := by
    have := evIt_rng1 (C := C) (fr := lfr ns x1 n x3 x4 x5 x6 x7 x8) (S := T) (e := .cst (.int 12)) (j := 12) ev_cst rfl
    rw [this, show Int.toNat 12 = 12 from rfl, rngL0]; rfl
  have e : ev C (.lc false (.nm 8) [8] (.rng1 (.cst (.int 12))) [] (.tup [(.bin .Mod false (.nm 8) (.cst (.int 8))), (.tup [(.cst (.str ("count" : Str))), (.cst (.int 4)), (.rng1 false true (.cst (.int 8)))])])) (lfr ns x1 n x3 x4 x5 x6 x7 x8) T = some (.ok (.lst ((List.range 12).map fun p => pD (p % 8, Sy.ct 4 (List.range 8)))) T) := by
    refine lc_map (fun (p : Nat) => D.int (p : Int)) (fun p => pD (p % 8, Sy.ct 4 (List.range 8))) (List.range 12) it (by simp) fun p _ => ⟨lfr ns x1 n x3 x4 x5 x6 x7 (some (.int (p : Int))), rfl, ?_⟩
    have em : ev C (.bin .Mod false (.nm 8) (.cst (.int 8))) (lfr ns x1 n x3 x4 x5 x6 x7 (some (.int (p : Int)))) T = some (.ok (.int ((p % 8 : Nat) : Int)) T) := by
      refine ev_bin (ev_nm rfl) ev_cst ?_
      show (if (8 : Int) = 0 then none else some (Int.fmod (p : Int) 8)).map (fun k => Ou.v (.int k)) = _
      rw [if_neg (by omega)]
      show some (Ou.v (.int (Int.fmod (p : Int) ((8 : Nat) : Int)))) = _
      rw [Int.fmod_eq_emod_of_nonneg _ (by omega), ← Int.natCast_emod]
    have er : ev C (.rng1 false true (.cst (.int 8))) (lfr ns x1 n x3 x4 x5 x6 x7 (some (.int (p : Int)))) T = some (.ok (.tup (iN (List.range 8))) T) := by
      rw [ev]; rfl
    exact ev_tup (evs_cons em (evs_cons (ev_tup (evs_cons ev_cst (evs_cons ev_cst (evs_cons er evs_nil)))) evs_nil))
  refine ev_blt (evs_cons e evs_nil) ?_
  show some (Ou.v (.tup ((List.range 12).map fun p => pD (p % 8, Sy.ct 4 (List.range 8))))) = _
  unfold psD manyL
  rw [List.map_map]
  rfl
end K55

/-! k55: the law, whole -/
namespace K55
open PySem Vm
abbrev lwO : List Vm.St := [(.asg (.nm 2) (.call 22 true [(.call 21 false [(.nm 0), (.nm 1)] [0, 1])] [0])), (.asg (.nm 3) (.cmp .Eq (.call 23 false [(.nm 2), (.cst (.int 2))] [0, 1]) (.cst (.int 0)))), (.for_ false (.nm 4) (.rng1 (.cst (.int 2))) lwI), (.asg (.nm 5) mnE), (.ife (.conj [(.cmp .Eq (.call 23 false [(.nm 2), (.cst (.int 4))] [0, 1]) (.cst (.int 0))), (.neg (.v (.call 31 false [(.nm 2), (.cst (.int 8)), (.nm 5), (.nm 3)] [0, 1, 2, 3])))]) [(.ret (.cst (.bl false)))] [])]
theorem law_cell (k m j : Nat) (ns : List Int) (T : Store) (y2 y3 y4 y5 y6 y7 y8 : Option D) :
    ∃ z2 z3 z4 z5 z6 z7 T', Vm.execs (cg (k + 21) m) lwO [some (.scr ns), some (.int (j : Int)), y2, y3, y4, y5, y6, y7, y8] T = some (.ok (.nx [some (.scr ns), some (.int (j : Int)), z2, z3, z4, z5, z6, z7, y8]) T') := by
  let C := cg (k + 21) m
  obtain ⟨z, e1⟩ := cell_call (k + 20) j ns T
  obtain ⟨d, e2, hB⟩ := box_bx (k + 20) z T
  let n := T.length
  let fr (y3 y4 y5 y6 y7 : Option D) : Fr := lfr ns (some (.int (j : Int))) n y3 y4 y5 y6 y7 y8
  let T1 := T ++ [d]
  have g1 : T1[n]? = some d := List.getElem?_concat_length
  have E1 : ev C.toCf (.call 22 true [(.call 21 false [(.nm 0), (.nm 1)] [0, 1])] [0]) [some (.scr ns), some (.int (j : Int)), y2, y3, y4, y5, y6, y7, y8] T = some (.ok (.ref n) T1) := by
    have E0 : ev C.toCf (.call 21 false [(.nm 0), (.nm 1)] [0, 1]) [some (.scr ns), some (.int (j : Int)), y2, y3, y4, y5, y6, y7, y8] T = some (.ok (.int z) T) := by
      refine ev_c2 (x := .scr ns) (y := .int (j : Int)) (S1 := T) (S2 := T) (ev_nm rfl) (ev_nm rfl) ?_
      rw [cg_call]; exact e1
    refine ev_call (ds' := [.int z]) (evs_cons E0 evs_nil) rfl ?_
    rw [cg_call]; exact e2
  obtain ⟨v, d1, E2, _, hB1⟩ := tk_ev (k + 20) m n 2 (fr y3 y4 y5 y6 y7) T1 d 0 rfl g1 hB (by omega) (by omega) (by omega)
  have E2' : ev C.toCf (.cmp .Eq (tk 2) (.cst (.int 0))) (fr y3 y4 y5 y6 y7) T1 = some (.ok (.bl ((v : Int) == 0)) (T1.set n d1)) := ev_cmp E2 ev_cst cmp_eqI
  let b0 : Bool := (v : Int) == 0
  let T2 := T1.set n d1
  have h0 : evIt C.toCf (.rng1 (.cst (.int 2))) (fr (some (.bl b0)) y4 y5 y6 y7) T2 = some (.ok ⟨iN (List.range 2), none⟩ T2) := rfl
  obtain ⟨fr1, d2, E3, ⟨b, x4, x6, x7, rfl⟩, hB2⟩ := for_turns (C := C) (b := lwI) (i := 4) (w := 7000) (fun f => ∃ b x4 x6 x7, f = fr (some (.bl b)) x4 y5 x6 x7) (by omega) h0 ⟨b0, y4, y6, y7, rfl⟩ (set_get g1 d1) hB1 fun q hq fr0 T d M ⟨b, x4, x6, x7, e0⟩ g hM hMl => by
    subst e0
    have hl : (iN (List.range 2)).length = 2 := rfl
    rw [hl] at hMl
    obtain ⟨z6, z7, d', ee, hB'⟩ := lwt_turn k m n ns b (some (.int (j : Int))) (some q) y5 x6 x7 y8 T d M g hM (by omega)
    exact ⟨_, _, d', rfl, ee, ⟨!b, some q, z6, z7, rfl⟩, hB'⟩
  have hl : (iN (List.range 2)).length = 2 := rfl
  rw [hl] at hB2
  let T3 := T2.set n d2
  have g3 : T3[n]? = some d2 := set_get (set_get g1 d1) d2
  let f5 : Fr := fr (some (.bl b)) x4 (some (psD manyL)) x6 x7
  obtain ⟨u, d3, E5, _, hB3⟩ := tk_ev (k + 20) m n 4 f5 T3 d2 _ rfl g3 hB2 (by omega) (by omega) (by omega)
  have t5 : tst C.toCf (.cmp .Eq (tk 4) (.cst (.int 0))) f5 T3 = some (.ok ((u : Int) == 0) (T3.set n d3)) := tst_cmp E5 ev_cst cmp_eqI
  have go : ∃ T', tst C.toCf (.conj [(.cmp .Eq (tk 4) (.cst (.int 0))), (.neg (.v (.call 31 false [(.nm 2), (.cst (.int 8)), (.nm 5), (.nm 3)] [0, 1, 2, 3])))]) f5 T3 = some (.ok false T') := by
    cases hu : ((u : Int) == 0) with
    | false => rw [hu] at t5; exact ⟨_, tst_conj.trans (tsConj_F t5)⟩
    | true =>
      rw [hu] at t5
      obtain ⟨d4, e6, _⟩ := right_call (k + 8) n 8 manyL b (T3.set n d3) d3 _ (set_get g3 d3) hB3 (by omega) (by omega) (by omega) many_ok.1 many_ok.2
      have E6 : ev C.toCf (.call 31 false [(.nm 2), (.cst (.int 8)), (.nm 5), (.nm 3)] [0, 1, 2, 3]) f5 (T3.set n d3) = some (.ok (.bl true) ((T3.set n d3).set n d4)) := by
        refine ev_c4 (x := .ref n) (y := .int ((8 : Nat) : Int)) (z := psD manyL) (w := .bl b) (S1 := T3.set n d3) (S2 := T3.set n d3) (S3 := T3.set n d3) (S4 := T3.set n d3) (ev_nm rfl) ev_cst (ev_nm rfl) (ev_nm rfl) ?_
        rw [show C.toCf.call = callR P (k + 21) from rfl]
        exact e6
      exact ⟨_, tst_conj.trans ((tsConj_T t5).trans (tsConj_F (tst_neg (tst_vb E6))))⟩
  obtain ⟨T', tt⟩ := go
  refine ⟨some (.ref n), some (.bl b), x4, some (psD manyL), x6, x7, T', ?_⟩
  refine (execs_nx (exec_asg (fr' := fr y3 y4 y5 y6 y7) E1 rfl)).trans ?_
  refine (execs_nx (exec_asg (fr' := fr (some (.bl b0)) y4 y5 y6 y7) E2' rfl)).trans ?_
  refine (execs_nx E3).trans ?_
  refine (execs_nx (exec_asg (fr' := f5) mn_ev rfl)).trans ?_
  exact (execs_nx ((exec_ifF tt).trans execs_nil)).trans execs_nil
end K55

/-! k55: the law, whole -/
namespace K55
open PySem Vm
theorem law_run (k : Nat) (ns : List Int) : ∃ S', callR P (k + 22) 34 [.scr ns] [] = some (.ok (.bl true) S') := by
  let fr (y1 y2 y3 y4 y5 y6 y7 : Option D) : Fr := [some (.scr ns), y1, y2, y3, y4, y5, y6, y7, none]
  let f0 := fr none none none none none none none
  let C := cg (k + 21) 0
  obtain ⟨c, hc, hc2⟩ : ∃ c : Nat, c ≤ 5 ∧ ev C.toCf (.blt .max2 false [(.cst (.int 2)), (.blt .min2 false [(.cst (.int 5)), (.blt .len false [(.nm 0)])])]) f0 [] = some (.ok (.int (c : Int)) []) := by
    have el : ev C.toCf (.blt .len false [(.nm 0)]) f0 [] = some (.ok (.int ((ns.length : Nat) : Int)) []) := ev_blt (evs_cons (ev_nm rfl) evs_nil) (by simp [btD, lenD, seqOf])
    have em := ev_blt (C := C.toCf) (f := .min2) (bx := false) (z := .int (if ((ns.length : Nat) : Int) < 5 then ((ns.length : Nat) : Int) else 5)) (evs_cons (ev_cst (d := .int 5)) (evs_cons el evs_nil)) rfl
    have ex := ev_blt (C := C.toCf) (f := .max2) (bx := false) (z := .int (if (if ((ns.length : Nat) : Int) < 5 then ((ns.length : Nat) : Int) else 5) > 2 then (if ((ns.length : Nat) : Int) < 5 then ((ns.length : Nat) : Int) else 5) else 2)) (evs_cons (ev_cst (d := .int 2)) (evs_cons em evs_nil)) rfl
    refine ⟨(if (if ((ns.length : Nat) : Int) < 5 then ((ns.length : Nat) : Int) else 5) > 2 then (if ((ns.length : Nat) : Int) < 5 then ((ns.length : Nat) : Int) else 5) else 2).toNat, ?_, ?_⟩
    · split <;> split <;> omega
    · rw [ex, Int.toNat_of_nonneg]
      split <;> split <;> omega
  have ei : evIt C.toCf (.rng1 (.blt .max2 false [(.cst (.int 2)), (.blt .min2 false [(.cst (.int 5)), (.blt .len false [(.nm 0)])])])) f0 [] = some (.ok ⟨iN (List.range c), none⟩ []) := by
    have := evIt_rng1 hc2 (by simp only [big62, Bool.and_eq_true, decide_eq_true_eq]; omega)
    rwa [Int.toNat_natCast, rngL0] at this
  obtain ⟨fr', T', el, y1, y2, y3, y4, y5, y6, y7, rfl, _⟩ := forGo_inv (f := fun d fr T => gcFl false T.length (bnd (lift (asgT (.nm 1) d fr) T) fun fr' S' => Vm.execs (C.up false T) lwO fr' S')) (st := (Its.mk (iN (List.range c)) none).still)
    (fun rest fr0 T1 => ∃ y1 y2 y3 y4 y5 y6 y7, fr0 = fr y1 y2 y3 y4 y5 y6 y7 ∧ ∃ l, rest = iN l) (iN (List.range c)) f0 [] ⟨_, _, _, _, _, _, _, rfl, _, rfl⟩
    fun b r fr0 T1 ⟨y1, y2, y3, y4, y5, y6, y7, e0, l, er⟩ => by
      subst e0
      cases l with
      | nil => simp [iN] at er
      | cons j l =>
        obtain ⟨rfl, rfl⟩ : b = .int (j : Int) ∧ r = iN l := by simpa [iN] using er
        obtain ⟨z2, z3, z4, z5, z6, z7, T2, ee⟩ := law_cell k 0 j ns T1 y2 y3 y4 y5 y6 y7 none
        exact ⟨_, _, .inl ee, rfl, _, _, _, _, _, _, _, rfl, _, rfl⟩
  refine ⟨T', run_def fd34 rfl ?_⟩
  show Vm.execs C b34 f0 [] = _
  rw [b34]
  exact (execs_nx ((exec_for ei rfl).trans el)).trans (execs_rt (exec_ret ev_cst))
end K55

namespace K55
open PySem Vm
theorem plain : ∀ ns, Small ns → ∃ S', callR tb.P 60 34 [.scr ns] [] = some (.ok (.bl true) S') := fun ns _ => law_run 38 ns
end K55
open PySem PySem.W PyProof.Rows Vm
set_option maxRecDepth 100000 in
set_option maxHeartbeats 0 in
theorem PySem.Challenge.cw_puzzlebench_k55_speakers_holds : PySem.Challenge.rw_puzzlebench_k55_speakers.Holds := by
  w_on; o_law; k_head; (case hw => w_witness2)
  k_fill
  refine Vm.law_walk (t := K55.tb) (k := 60) (id := 34) (d := K55.d34) (x := "script") rfl rfl ⟨rfl, by decide, by decide⟩ (fun w h Y => PySem.W.kIn_of Y) K55.tb_ok rfl rfl rfl K55.plain ?W
  case W =>
    intro w h X
    refine' K55.W_mk ?w0 ?w1 ?w2 ?w3 ?w4 ?w5 ?w6 ?w7 ?w8 ?w9 ?w10 ?w11 ?w12 ?w13 ?w14 ?w15 ?w16 ?w17 ?w18 ?w19 ?w20 ?w21 ?w22 ?w23 ?w24 ?w25 ?w26 ?w27 ?w28 ?w29 ?w30 ?w31 ?w32 ?w33 ?w34 ?n0 ?n1 ?n2 ?n3 ?n4 ?n5 ?n6 ?n7 ?n8 ?n9 ?n10 ?n11 ?n12 ?n13 ?n14 ?n15 ?n16 ?n17 ?n18 ?q0 ?q1 ?q2 ?q3 ?q4 ?r1 ?r2 ?r3 ?r4 ?u0 ?u1 ?u2 ?u3 ?u4 ?u5 ?u6 ?u7 ?u8 ?u9 ?u10 ?u11 ?u12 ?u13 ?u14 ?u15 ?u16 ?u17 ?u18 ?u19 ?zg0 ?zg1 ?zg2 ?zg3
    case w0 =>
      refine' Vm.dw_mk ?a ?b ?c ?e
      (case a => k_is)
      (case b => k_is)
      (case c => k_is)
      (case e => k_is)
    case w1 =>
      refine' Vm.dw_mk ?a ?b ?c ?e
      (case a => k_is)
      (case b => k_is)
      (case c => k_is)
      (case e => k_is)
    case w2 =>
      refine' Vm.dw_mk ?a ?b ?c ?e
      (case a => k_is)
      (case b => k_is)
      (case c => k_is)
      (case e => k_is)
    case w3 =>
      refine' Vm.dw_mk ?a ?b ?c ?e
      (case a => k_is)
      (case b => k_is)
      (case c => k_is)
      (case e => k_is)
    case w4 =>
      refine' Vm.dw_mk ?a ?b ?c ?e
      (case a => k_is)
      (case b => k_is)
      (case c => k_is)
      (case e => k_is)
    case w5 =>
      refine' Vm.dw_mk ?a ?b ?c ?e
      (case a => k_is)
      (case b => k_is)
      (case c => k_is)
      (case e => k_is)
    case w6 =>
      refine' Vm.dw_mk ?a ?b ?c ?e
      (case a => k_is)
      (case b => k_is)
      (case c => k_is)
      (case e => k_is)
    case w7 =>
      refine' Vm.dw_mk ?a ?b ?c ?e
      (case a => k_is)
      (case b => k_is)
      (case c => k_is)
      (case e => k_is)
    case w8 =>
      refine' Vm.dw_mk ?a ?b ?c ?e
      (case a => k_is)
      (case b => k_is)
      (case c => k_is)
      (case e => k_is)
    case w9 =>
      refine' Vm.dw_mk ?a ?b ?c ?e
      (case a => k_is)
      (case b => k_is)
      (case c => k_is)
      (case e => k_is)
    case w10 =>
      refine' Vm.dw_mk ?a ?b ?c ?e
      (case a => k_is)
      (case b => k_is)
      (case c => k_is)
      (case e => k_is)
    case w11 =>
      refine' Vm.dw_mk ?a ?b ?c ?e
      (case a => k_is)
      (case b => k_is)
      (case c => k_is)
      (case e => k_is)
    case w12 =>
      refine' Vm.dw_mk ?a ?b ?c ?e
      (case a => k_is)
      (case b => k_is)
      (case c => k_is)
      (case e => k_is)
    case w13 =>
      refine' Vm.dw_mk ?a ?b ?c ?e
      (case a => k_is)
      (case b => k_is)
      (case c => k_is)
      (case e => k_is)
    case w14 =>
      refine' Vm.dw_mk ?a ?b ?c ?e
      (case a => k_is)
      (case b => k_is)
      (case c => k_is)
      (case e => k_is)
    case w15 =>
      refine' Vm.dw_mk ?a ?b ?c ?e
      (case a => k_is)
      (case b => k_is)
      (case c => k_is)
      (case e => k_is)
    case w16 =>
      refine' Vm.dw_mk ?a ?b ?c ?e
      (case a => k_is)
      (case b => k_is)
      (case c => k_is)
      (case e => k_is)
    case w17 =>
      refine' Vm.dw_mk ?a ?b ?c ?e
      (case a => k_is)
      (case b => k_is)
      (case c => k_is)
      (case e => k_is)
    case w18 =>
      refine' Vm.dw_mk ?a ?b ?c ?e
      (case a => k_is)
      (case b => k_is)
      (case c => k_is)
      (case e => k_is)
    case w19 =>
      refine' Vm.dw_mk ?a ?b ?c ?e
      (case a => k_is)
      (case b => k_is)
      (case c => k_is)
      (case e => k_is)
    case w20 =>
      refine' Vm.dw_mk ?a ?b ?c ?e
      (case a => k_is)
      (case b => k_is)
      (case c => k_is)
      (case e => k_is)
    case w21 =>
      refine' Vm.dw_mk ?a ?b ?c ?e
      (case a => k_is)
      (case b => k_is)
      (case c => k_is)
      (case e => k_is)
    case w22 =>
      refine' Vm.dw_mk ?a ?b ?c ?e
      (case a => k_is)
      (case b => k_is)
      (case c => k_is)
      (case e => k_is)
    case w23 =>
      refine' Vm.dw_mk ?a ?b ?c ?e
      (case a => k_is)
      (case b => k_is)
      (case c => k_is)
      (case e => k_is)
    case w24 =>
      refine' Vm.dw_mk ?a ?b ?c ?e
      (case a => k_is)
      (case b => k_is)
      (case c => k_is)
      (case e => k_is)
    case w25 =>
      refine' Vm.dw_mk ?a ?b ?c ?e
      (case a => k_is)
      (case b => k_is)
      (case c => k_is)
      (case e => k_is)
    case w26 =>
      refine' Vm.dw_mk ?a ?b ?c ?e
      (case a => k_is)
      (case b => k_is)
      (case c => k_is)
      (case e => k_is)
    case w27 =>
      refine' Vm.dw_mk ?a ?b ?c ?e
      (case a => k_is)
      (case b => k_is)
      (case c => k_is)
      (case e => k_is)
    case w28 =>
      refine' Vm.dw_mk ?a ?b ?c ?e
      (case a => k_is)
      (case b => k_is)
      (case c => k_is)
      (case e => k_is)
    case w29 =>
      refine' Vm.dw_mk ?a ?b ?c ?e
      (case a => k_is)
      (case b => k_is)
      (case c => k_is)
      (case e => k_is)
    case w30 =>
      refine' Vm.dw_mk ?a ?b ?c ?e
      (case a => k_is)
      (case b => k_is)
      (case c => k_is)
      (case e => k_is)
    case w31 =>
      refine' Vm.dw_mk ?a ?b ?c ?e
      (case a => k_is)
      (case b => k_is)
      (case c => k_is)
      (case e => k_is)
    case w32 =>
      refine' Vm.dw_mk ?a ?b ?c ?e
      (case a => k_is)
      (case b => k_is)
      (case c => k_is)
      (case e => k_is)
    case w33 =>
      refine' Vm.dw_mk ?a ?b ?c ?e
      (case a => k_is)
      (case b => k_is)
      (case c => k_is)
      (case e => k_is)
    case w34 =>
      refine' Vm.dw_mk ?a ?b ?c ?e
      (case a => k_is)
      (case b => k_is)
      (case c => k_is)
      (case e => k_is)
    (case n0 => k_is)
    (case n1 => k_is)
    (case n2 => k_is)
    (case n3 => k_is)
    (case n4 => k_is)
    (case n5 => k_is)
    (case n6 => k_is)
    (case n7 => k_is)
    (case n8 => k_is)
    (case n9 => k_is)
    (case n10 => k_is)
    (case n11 => k_is)
    (case n12 => k_is)
    (case n13 => k_is)
    (case n14 => k_is)
    (case n15 => k_is)
    (case n16 => k_is)
    (case n17 => k_is)
    (case n18 => k_is)
    case q0 =>
      refine' Vm.cw_mk ?a
      (case a => k_is)
    case q1 =>
      refine' Vm.cw_mk ?a
      (case a => k_is)
    case q2 =>
      refine' Vm.cw_mk ?a
      (case a => k_is)
    case q3 =>
      refine' Vm.cw_mk ?a
      (case a => k_is)
    case q4 =>
      refine' Vm.cw_mk ?a
      (case a => k_is)
    case r1 =>
      refine' Vm.ew_mk ?n ?xL ?rf ?sa ?ex ?ty ?kc ?ga ?gg ?hd ?ic ?ti ?l ?c ?k ?no
      (case n => k_is)
      (case xL => k_is)
      (case rf => rfl)
      (case sa => k_is)
      (case ex => k_is)
      (case ty => k_is)
      (case kc => k_is)
      (case ga => k_is)
      (case gg => k_is)
      (case hd => k_is)
      (case ic => k_is)
      (case ti => k_is)
      (case l => k_is)
      (case c => k_is)
      (case k => k_is)
      (case no => k_is)
    case r2 =>
      refine' Vm.ew_mk ?n ?xL ?rf ?sa ?ex ?ty ?kc ?ga ?gg ?hd ?ic ?ti ?l ?c ?k ?no
      (case n => k_is)
      (case xL => k_is)
      (case rf => rfl)
      (case sa => k_is)
      (case ex => k_is)
      (case ty => k_is)
      (case kc => k_is)
      (case ga => k_is)
      (case gg => k_is)
      (case hd => k_is)
      (case ic => k_is)
      (case ti => k_is)
      (case l => k_is)
      (case c => k_is)
      (case k => k_is)
      (case no => k_is)
    case r3 =>
      refine' Vm.ew_mk ?n ?xL ?rf ?sa ?ex ?ty ?kc ?ga ?gg ?hd ?ic ?ti ?l ?c ?k ?no
      (case n => k_is)
      (case xL => k_is)
      (case rf => rfl)
      (case sa => k_is)
      (case ex => k_is)
      (case ty => k_is)
      (case kc => k_is)
      (case ga => k_is)
      (case gg => k_is)
      (case hd => k_is)
      (case ic => k_is)
      (case ti => k_is)
      (case l => k_is)
      (case c => k_is)
      (case k => k_is)
      (case no => k_is)
    case r4 =>
      refine' Vm.ew_mk ?n ?xL ?rf ?sa ?ex ?ty ?kc ?ga ?gg ?hd ?ic ?ti ?l ?c ?k ?no
      (case n => k_is)
      (case xL => k_is)
      (case rf => rfl)
      (case sa => k_is)
      (case ex => k_is)
      (case ty => k_is)
      (case kc => k_is)
      (case ga => k_is)
      (case gg => k_is)
      (case hd => k_is)
      (case ic => k_is)
      (case ti => k_is)
      (case l => k_is)
      (case c => k_is)
      (case k => k_is)
      (case no => k_is)
    case u0 =>
      refine' Vm.sw_mk ?a ?b ?c ?e ?f ?g
      (case a => k_is)
      (case b => k_is)
      (case c => k_is)
      (case e => k_is)
      (case f => k_is)
      (case g => first | rfl | k_is)
    case u1 =>
      refine' Vm.sw_mk ?a ?b ?c ?e ?f ?g
      (case a => k_is)
      (case b => k_is)
      (case c => k_is)
      (case e => k_is)
      (case f => k_is)
      (case g => first | rfl | k_is)
    case u2 =>
      refine' Vm.sw_mk ?a ?b ?c ?e ?f ?g
      (case a => k_is)
      (case b => k_is)
      (case c => k_is)
      (case e => k_is)
      (case f => k_is)
      (case g => first | rfl | k_is)
    case u3 =>
      refine' Vm.sw_mk ?a ?b ?c ?e ?f ?g
      (case a => k_is)
      (case b => k_is)
      (case c => k_is)
      (case e => k_is)
      (case f => k_is)
      (case g => first | rfl | k_is)
    case u4 =>
      refine' Vm.sw_mk ?a ?b ?c ?e ?f ?g
      (case a => k_is)
      (case b => k_is)
      (case c => k_is)
      (case e => k_is)
      (case f => k_is)
      (case g => first | rfl | k_is)
    case u5 =>
      refine' Vm.sw_mk ?a ?b ?c ?e ?f ?g
      (case a => k_is)
      (case b => k_is)
      (case c => k_is)
      (case e => k_is)
      (case f => k_is)
      (case g => first | rfl | k_is)
    case u6 =>
      refine' Vm.sw_mk ?a ?b ?c ?e ?f ?g
      (case a => k_is)
      (case b => k_is)
      (case c => k_is)
      (case e => k_is)
      (case f => k_is)
      (case g => first | rfl | k_is)
    case u7 =>
      refine' Vm.sw_mk ?a ?b ?c ?e ?f ?g
      (case a => k_is)
      (case b => k_is)
      (case c => k_is)
      (case e => k_is)
      (case f => k_is)
      (case g => first | rfl | k_is)
    case u8 =>
      refine' Vm.sw_mk ?a ?b ?c ?e ?f ?g
      (case a => k_is)
      (case b => k_is)
      (case c => k_is)
      (case e => k_is)
      (case f => k_is)
      (case g => first | rfl | k_is)
    case u9 =>
      refine' Vm.sw_mk ?a ?b ?c ?e ?f ?g
      (case a => k_is)
      (case b => k_is)
      (case c => k_is)
      (case e => k_is)
      (case f => k_is)
      (case g => first | rfl | k_is)
    case u10 =>
      refine' Vm.sw_mk ?a ?b ?c ?e ?f ?g
      (case a => k_is)
      (case b => k_is)
      (case c => k_is)
      (case e => k_is)
      (case f => k_is)
      (case g => first | rfl | k_is)
    case u11 =>
      refine' Vm.sw_mk ?a ?b ?c ?e ?f ?g
      (case a => k_is)
      (case b => k_is)
      (case c => k_is)
      (case e => k_is)
      (case f => k_is)
      (case g => first | rfl | k_is)
    case u12 =>
      refine' Vm.sw_mk ?a ?b ?c ?e ?f ?g
      (case a => k_is)
      (case b => k_is)
      (case c => k_is)
      (case e => k_is)
      (case f => k_is)
      (case g => first | rfl | k_is)
    case u13 =>
      refine' Vm.sw_mk ?a ?b ?c ?e ?f ?g
      (case a => k_is)
      (case b => k_is)
      (case c => k_is)
      (case e => k_is)
      (case f => k_is)
      (case g => first | rfl | k_is)
    case u14 =>
      refine' Vm.sw_mk ?a ?b ?c ?e ?f ?g
      (case a => k_is)
      (case b => k_is)
      (case c => k_is)
      (case e => k_is)
      (case f => k_is)
      (case g => first | rfl | k_is)
    case u15 =>
      refine' Vm.sw_mk ?a ?b ?c ?e ?f ?g
      (case a => k_is)
      (case b => k_is)
      (case c => k_is)
      (case e => k_is)
      (case f => k_is)
      (case g => first | rfl | k_is)
    case u16 =>
      refine' Vm.sw_mk ?a ?b ?c ?e ?f ?g
      (case a => k_is)
      (case b => k_is)
      (case c => k_is)
      (case e => k_is)
      (case f => k_is)
      (case g => first | rfl | k_is)
    case u17 =>
      refine' Vm.sw_mk ?a ?b ?c ?e ?f ?g
      (case a => k_is)
      (case b => k_is)
      (case c => k_is)
      (case e => k_is)
      (case f => k_is)
      (case g => first | rfl | k_is)
    case u18 =>
      refine' Vm.sw_mk ?a ?b ?c ?e ?f ?g
      (case a => k_is)
      (case b => k_is)
      (case c => k_is)
      (case e => k_is)
      (case f => k_is)
      (case g => first | rfl | k_is)
    case u19 =>
      refine' Vm.sw_mk ?a ?b ?c ?e ?f ?g
      (case a => k_is)
      (case b => k_is)
      (case c => k_is)
      (case e => k_is)
      (case f => k_is)
      (case g => first | rfl | k_is)
    case zg0 =>
      refine' glb_int ?a
      (case a => k_is)
    case zg1 =>
      refine' glb_int ?a
      (case a => k_is)
    case zg2 =>
      refine' glb_int ?a
      (case a => k_is)
    case zg3 =>
      refine' glb_dct ?a ?b ?c ?e ?f ?g
      (case a => k_is)
      (case b => k_is)
      (case c => repeat (first | exact True.intro | refine And.intro ⟨_, _, rfl, rfl⟩ ?_))
      (case e => rfl)
      (case f => rfl)
      (case g => rfl)
