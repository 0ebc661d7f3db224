import PyProof.Rows.All
import PySem.Str
import Wide.All
import OpenK.AllK
import Wide.FinOn
import HandS.ForMost
import HandS.ForExc
import HandS.Deep
import HandS.Flow
import HandS.TryMany
import HandS.SortInts
import HandS.Zip
import HandS.TupAny
import HandS.Conv
import HandS.IsInst
import KE.KDictPairs
import KE.KSortedM
import HandS.More
import KE.GoesEnum
import HandS.ExcIs
import HandS.EndBits
import HandS.Style
import KE.KRevSl
import HandS.DictComp
import PySem.Challenge.RW_rowkeep_k17_whole_strikes_led_on
set_option Elab.async false
set_option linter.all false
set_option maxRecDepth 100000
set_option maxHeartbeats 4000000
/-! Mp: a small shallow language of Python data. D: values as trees; a store of mutable objects by number; computations. -/
namespace Mp
open PySem

/-- a value: lists here are never changed; what is changed stands in the store, by number -/
inductive D where
  | non | bl (b : Bool) | int (i : Int) | str (s : Str)
  | tup (ds : List D) | lst (ds : List D) | dct (ks vs : List D)
  /-- a list given from outside -/
  | kls (ds : List D)
  | ref (i : Nat)
  deriving Inhabited

/-- an object that may be changed; gone: it is none any more (frozen) -/
inductive O where
  | lst (ds : List D)
  | dct (lk : Bool) (kvs : List (D × D))
  /-- a dict by tuples -/
  | dtt (kvs : List (D × D))
  | ins (c : Nat) (fs : List (Str × D))
  | gone
  deriving Inhabited
/-- it may be changed: not frozen, not being walked -/
def O.live : O → Bool
  | .gone => false
  | .dct true _ => false
  | _ => true
abbrev Sto := List O
abbrev Env := List (Option D)

inductive R (α : Type) where
  | ok (a : α) (S : Sto)
  | ex (c : Nat) (S : Sto)
  | bad
inductive Out where
  | nx (ρ : Env) (S : Sto)
  | rt (d : D) (S : Sto)
  | bk (ρ : Env) (S : Sto)
  | ct (ρ : Env) (S : Sto)
  | ex (c : Nat) (ρ : Env) (S : Sto)
  | bad

abbrev Ev := Env → Sto → R D
abbrev Et := Env → Sto → R Bool
abbrev Ea := Env → Sto → R (List D)
abbrev Ex := Env → Sto → Out
abbrev Fn := List D → Sto → R D

def R.bind {α β : Type} (r : R α) (k : α → Sto → R β) : R β :=
  match r with
  | .ok a S => k a S
  | .ex c S => .ex c S
  | .bad => .bad
/-- an expression, then a statement's end -/
def R.then {α : Type} (r : R α) (ρ : Env) (k : α → Sto → Out) : Out :=
  match r with
  | .ok a S => k a S
  | .ex c S => .ex c ρ S
  | .bad => .bad

/-- the longest list of the model -/
abbrev line : Nat := 16777216

/-! ### expressions -/
def eVar (i : Nat) : Ev := fun ρ S => match ρ[i]? with
  | some (some d) => .ok d S
  | _ => .bad
def eC (d : D) : Ev := fun _ S => .ok d S
def aNil : Ea := fun _ S => .ok [] S
def aCons (a : Ev) (r : Ea) : Ea := fun ρ S => (a ρ S).bind fun d S1 => (r ρ S1).bind fun ds S2 => .ok (d :: ds) S2
def eTup (a : Ea) : Ev := fun ρ S => (a ρ S).bind fun ds S1 => if ds.length ≤ line then .ok (.tup ds) S1 else .bad
/-- a written list that is never changed -/
def eLst (a : Ea) : Ev := fun ρ S => (a ρ S).bind fun ds S1 => if ds.length ≤ line then .ok (.lst ds) S1 else .bad
/-- a written list that is changed later -/
def eLstM (a : Ea) : Ev := fun ρ S => (a ρ S).bind fun ds S1 => if ds.length ≤ line then .ok (.ref S1.length) (S1 ++ [.lst ds]) else .bad
/-- two values, then an operation -/
def eBin (g : D → D → Sto → R D) (a b : Ev) : Ev := fun ρ S => (a ρ S).bind fun x S1 => (b ρ S1).bind fun y S2 => g x y S2
def eUn (g : D → Sto → R D) (a : Ev) : Ev := fun ρ S => (a ρ S).bind fun x S1 => g x S1
/-- a call of a function of the text -/
def eCall (m : Fn) (a : Ea) : Ev := fun ρ S => (a ρ S).bind fun ds S1 => m ds S1
/-- a call of a built-in on its values -/
def eB (g : List D → Sto → R D) (a : Ea) : Ev := fun ρ S => (a ρ S).bind fun ds S1 => g ds S1

/-- a list of the store is never changed from here on -/
def eFrz (a : Ev) : Ev := fun ρ S => (a ρ S).bind fun x S1 => match x with
  | .ref i => match S1[i]? with
    | some (.lst ds) => .ok (.lst ds) (S1.set i .gone)
    | _ => .bad
  | _ => .bad

/-- the items that are to be read at a value -/
def items (d : D) (S : Sto) : Option (List D) :=
  match d with
  | .tup ds => some ds
  | .lst ds => some ds
  | .kls ds => some ds
  | .ref i => match S[i]? with
    | some (.lst ds) => some ds
    | _ => none
  | _ => none
/-- the items of a list -/
def litems (d : D) (S : Sto) : Option (List D) :=
  match d with
  | .lst ds => some ds
  | .ref i => match S[i]? with
    | some (.lst ds) => some ds
    | _ => none
  | _ => none
/-- a dict's pairs -/
def pairs (d : D) (S : Sto) : Option (List (D × D)) :=
  match d with
  | .dct ks vs => some (ks.zip vs)
  | .ref i => match S[i]? with
    | some (.dct _ kvs) => some kvs
    | _ => none
  | _ => none

/-! ### truth -/
def truth (d : D) (S : Sto) : Option Bool :=
  match d with
  | .non => some false
  | .bl b => some b
  | .int i => some (i != 0)
  | .str x => if x.length ≤ line then some ((x.length : Int) != 0) else none
  | .tup ds => some (!ds.isEmpty)
  | .lst ds => some (!ds.isEmpty)
  | .kls ds => some (!ds.isEmpty)
  | .dct _ _ => none
  | .ref i => match S[i]? with
    | some (.lst ds) => some (!ds.isEmpty)
    | some (.dct false kvs) => some (!kvs.isEmpty)
    | _ => none
def tTru (a : Ev) : Et := fun ρ S => (a ρ S).bind fun x S1 => match truth x S1 with
  | some b => .ok b S1
  | none => .bad
def tNot (t : Et) : Et := fun ρ S => (t ρ S).bind fun b S1 => .ok (!b) S1
def tAnd (t u : Et) : Et := fun ρ S => (t ρ S).bind fun b S1 => if b = true then u ρ S1 else .ok false S1
def tOr (t u : Et) : Et := fun ρ S => (t ρ S).bind fun b S1 => if b = true then .ok true S1 else u ρ S1
/-- a test as a value -/
def eT (t : Et) : Ev := fun ρ S => (t ρ S).bind fun b S1 => .ok (.bl b) S1
/-- x and y, x or y as values: by truth -/
def eAnd (a b : Ev) : Ev := fun ρ S => (a ρ S).bind fun x S1 => match truth x S1 with
  | some true => b ρ S1
  | some false => .ok x S1
  | none => .bad
def eOr (a b : Ev) : Ev := fun ρ S => (a ρ S).bind fun x S1 => match truth x S1 with
  | some true => .ok x S1
  | some false => b ρ S1
  | none => .bad
def eNot (a : Ev) : Ev := fun ρ S => (a ρ S).bind fun x S1 => match truth x S1 with
  | some b => .ok (.bl (!b)) S1
  | none => .bad
def eIf (t : Et) (a b : Ev) : Ev := fun ρ S => (t ρ S).bind fun c S1 => if c = true then a ρ S1 else b ρ S1

/-- a comparison in a test: its value is a truth -/
def tCmp (g : D → D → Sto → R D) (a b : Ev) : Et := fun ρ S => (eBin g a b ρ S).bind fun z S1 => match z with
  | .bl k => .ok k S1
  | _ => .bad
/-- a op b op' c -/
def eChain (g g' : D → D → Sto → R D) (a b c : Ev) : Ev := fun ρ S => (a ρ S).bind fun x S1 => (b ρ S1).bind fun y S2 => (g x y S2).bind fun z S3 => match z with
  | .bl true => (c ρ S3).bind fun w S4 => g' y w S4
  | .bl false => .ok (.bl false) S3
  | _ => .bad
/-- an expression whose value is a truth, as a test -/
def tVal (a : Ev) : Et := fun ρ S => (a ρ S).bind fun z S1 => match z with
  | .bl k => .ok k S1
  | _ => .bad

/-! ### == of data -/
mutual
/-- data that == tells of: its texts are of signs, nothing of the store is within -/
def D.plain : D → Bool
  | .non => true
  | .bl _ => true
  | .int _ => true
  | .str x => x.cps.all (· < 0x110000)
  | .tup ds => D.plains ds
  | .lst ds => D.plains ds
  | .dct _ _ => false
  | .kls _ => false
  | .ref _ => false
def D.plains : List D → Bool
  | [] => true
  | d :: ds => d.plain && D.plains ds
end
mutual
def D.dep : D → Nat
  | .tup ds => D.deps ds + 1
  | .lst ds => D.deps ds + 1
  | .non => 0
  | .bl _ => 0
  | .int _ => 0
  | .str _ => 0
  | .dct _ _ => 0
  | .kls _ => 0
  | .ref _ => 0
def D.deps : List D → Nat
  | [] => 0
  | d :: ds => max d.dep (D.deps ds)
end
mutual
def D.eqv : D → D → Bool
  | .non, .non => true
  | .bl a, .bl b => a == b
  | .bl a, .int j => (if a then 1 else 0) == j
  | .int i, .bl b => i == (if b then 1 else 0)
  | .int i, .int j => i == j
  | .str x, .str y => x == y
  | .lst xs, .lst ys => D.eqvs xs ys
  | .tup xs, .tup ys => D.eqvs xs ys
  | _, _ => false
def D.eqvs : List D → List D → Bool
  | [], [] => true
  | x :: xs, y :: ys => D.eqv x y && D.eqvs xs ys
  | _, _ => false
end
/-- a list of the store as it stands -/
def D.now (d : D) (S : Sto) : D :=
  match d with
  | .ref i => match S[i]? with
    | some (.lst ds) => .lst ds
    | _ => .ref i
  | d => d
def gEqB (a b : D) (S : Sto) : Option Bool := if (a.now S).plain = true ∧ (b.now S).plain = true ∧ min (a.now S).dep (b.now S).dep ≤ 60 then some ((a.now S).eqv (b.now S)) else none
def gEq (a b : D) (S : Sto) : R D := match gEqB a b S with
  | some c => .ok (.bl c) S
  | none => .bad
def gNe (a b : D) (S : Sto) : R D := match gEqB a b S with
  | some c => .ok (.bl (!c)) S
  | none => .bad
def D.isN : D → Bool
  | .non => true
  | _ => false
def gIsN (a b : D) (S : Sto) : R D := match b with
  | .non => .ok (.bl a.isN) S
  | _ => .bad
def gNotN (a b : D) (S : Sto) : R D := match b with
  | .non => .ok (.bl (!a.isN)) S
  | _ => .bad

/-! ### dicts: keys that are ints or texts -/
def D.isKey : D → Bool
  | .int _ => true
  | .str _ => true
  | _ => false
def D.keq : D → D → Bool
  | .int i, .int j => i == j
  | .str x, .str y => x == y
  | _, _ => false
def kget (kvs : List (D × D)) (k : D) : Option D := (kvs.find? fun p => p.1.keq k).map (·.2)
def khas (kvs : List (D × D)) (k : D) : Bool := kvs.any fun p => p.1.keq k
def kput (kvs : List (D × D)) (k v : D) : List (D × D) := if khas kvs k = true then kvs.map (fun p => if p.1.keq k = true then (p.1, v) else p) else kvs ++ [(k, v)]
def kdel (kvs : List (D × D)) (k : D) : List (D × D) := kvs.filter fun p => !p.1.keq k

/-! ### operators -/
def gAdd (a b : D) (S : Sto) : R D :=
  match a, b with
  | .int i, .int j => .ok (.int (i + j)) S
  | .str x, .str y => if x.length + y.length ≤ line then .ok (.str (x ++ y)) S else .bad
  | .tup xs, .tup ys => if xs.length + ys.length ≤ line then .ok (.tup (xs ++ ys)) S else .bad
  | a, b => match litems a S, litems b S with
    | some xs, some ys => if xs.length + ys.length ≤ line then .ok (.lst (xs ++ ys)) S else .bad
    | _, _ => .bad
def gSub (a b : D) (S : Sto) : R D :=
  match a, b with
  | .int i, .int j => .ok (.int (i - j)) S
  | _, _ => .bad
def gMul (a b : D) (S : Sto) : R D :=
  match a, b with
  | .int i, .int j => if (-(2 ^ 64) < i ∧ i < 2 ^ 64) ∨ (-(2 ^ 64) < j ∧ j < 2 ^ 64) then .ok (.int (i * j)) S else .bad
  | _, _ => .bad
def gDiv (a b : D) (S : Sto) : R D :=
  match a, b with
  | .int i, .int j => if 0 < j ∧ j < 1073741824 then .ok (.int (i / j)) S else .bad
  | _, _ => .bad
def gMod (a b : D) (S : Sto) : R D :=
  match a, b with
  | .int i, .int j => if 0 < j then .ok (.int (i % j)) S else .bad
  | _, _ => .bad
def gNeg (a : D) (S : Sto) : R D :=
  match a with
  | .int i => .ok (.int (-i)) S
  | _ => .bad
def gLt (a b : D) (S : Sto) : R D :=
  match a, b with
  | .int i, .int j => .ok (.bl (decide (i < j))) S
  | .str x, .str y => .ok (.bl (decide (x.cps.toList < y.cps.toList))) S
  | _, _ => .bad
def gLe (a b : D) (S : Sto) : R D :=
  match a, b with
  | .int i, .int j => .ok (.bl (decide (i ≤ j))) S
  | .str x, .str y => .ok (.bl (!decide (y.cps.toList < x.cps.toList))) S
  | _, _ => .bad
def gGt (a b : D) (S : Sto) : R D :=
  match a, b with
  | .int i, .int j => .ok (.bl (decide (j < i))) S
  | .str x, .str y => .ok (.bl (decide (y.cps.toList < x.cps.toList))) S
  | _, _ => .bad
def gGe (a b : D) (S : Sto) : R D :=
  match a, b with
  | .int i, .int j => .ok (.bl (decide (j ≤ i))) S
  | .str x, .str y => .ok (.bl (!decide (x.cps.toList < y.cps.toList))) S
  | _, _ => .bad
/-- a in b -/
def gInB (a b : D) (S : Sto) : Option Bool :=
  match b with
  | .str z => match a with
    | .str x => match x.cps.toList with
      | [c] => some (decide (c ∈ z.cps.toList))
      | _ => none
    | _ => none
  | b => match items b S with
    | some ds => if (a.now S).plain = true ∧ D.plains ds = true ∧ (a.now S).dep ≤ 60 then some (ds.any fun z => D.eqv z (a.now S)) else none
    | none => match pairs b S with
      | some kvs => if a.isKey = true then some (khas kvs a) else none
      | none => none
def gIn (a b : D) (S : Sto) : R D := match gInB a b S with
  | some c => .ok (.bl c) S
  | none => .bad
def gNotIn (a b : D) (S : Sto) : R D := match gInB a b S with
  | some c => .ok (.bl (!c)) S
  | none => .bad
/-- the place that an index tells -/
def place (n : Nat) (i : Int) : Option Nat := if 0 ≤ i then (if i < n then some i.toNat else none) else if -(n : Int) ≤ i then some (i + n).toNat else none
def gIx (a b : D) (S : Sto) : R D :=
  match items a S with
  | some ds => match b with
    | .int i => match (place ds.length i).bind (fun j => ds[j]?) with
      | some d => .ok d S
      | none => .bad
    | _ => .bad
  | none => match pairs a S with
    | some kvs => if b.isKey = true then (match kget kvs b with
      | some d => .ok d S
      | none => .bad) else .bad
    | none => .bad
/-! ### slices -/
def cutI (n d : Nat) : Option Int → Nat
  | none => d
  | some i => if i < 0 then (i + n).toNat else min i.toNat n
def cut (ds : List D) (lo hi : Option Int) : List D := (ds.drop (cutI ds.length 0 lo)).take (cutI ds.length ds.length hi - cutI ds.length 0 lo)
abbrev Eo := Env → Sto → R (Option Int)
def oNone : Eo := fun _ S => .ok none S
def oSome (a : Ev) : Eo := fun ρ S => (a ρ S).bind fun x S1 => match x with
  | .int i => .ok (some i) S1
  | _ => .bad
def gSl (a : D) (lo hi : Option Int) (S : Sto) : R D :=
  match a with
  | .tup ds => .ok (.tup (cut ds lo hi)) S
  | a => match litems a S with
    | some ds => .ok (.lst (cut ds lo hi)) S
    | none => .bad
def eSl (a : Ev) (lo hi : Eo) : Ev := fun ρ S => (a ρ S).bind fun x S1 => (lo ρ S1).bind fun l S2 => (hi ρ S2).bind fun h S3 => gSl x l h S3

/-! ### built-ins, methods -/
def bLen (xs : List D) (S : Sto) : R D :=
  match xs with
  | [.str z] => if z.length ≤ line then .ok (.int z.length) S else .bad
  | [a] => match items a S with
    | some ds => .ok (.int ds.length) S
    | none => match pairs a S with
      | some kvs => .ok (.int kvs.length) S
      | none => .bad
  | _ => .bad
/-- list(x), never changed; list(x), to be changed -/
def bList (xs : List D) (S : Sto) : R D :=
  match xs with
  | [a] => match items a S with
    | some ds => .ok (.lst ds) S
    | none => .bad
  | _ => .bad
def bListM (xs : List D) (S : Sto) : R D :=
  match xs with
  | [a] => match items a S with
    | some ds => .ok (.ref S.length) (S ++ [.lst ds])
    | none => .bad
  | _ => .bad
def bTuple (xs : List D) (S : Sto) : R D :=
  match xs with
  | [a] => match items a S with
    | some ds => .ok (.tup ds) S
    | none => .bad
  | _ => .bad
def blsOf : List D → Option (List Bool)
  | [] => some []
  | .bl b :: r => (blsOf r).map (b :: ·)
  | _ => none
def bAll (xs : List D) (S : Sto) : R D :=
  match xs with
  | [a] => match (litems a S).bind blsOf with
    | some bs => .ok (.bl (bs.all id)) S
    | none => .bad
  | _ => .bad
def bAny (xs : List D) (S : Sto) : R D :=
  match xs with
  | [a] => match (litems a S).bind blsOf with
    | some bs => .ok (.bl (bs.any id)) S
    | none => .bad
  | _ => .bad
/-- a method of a list: what it is called on is a list when it is looked up -/
def eML (g : D → List D → Sto → R D) (a : Ev) (args : Ea) : Ev := fun ρ S => (a ρ S).bind fun x S1 => match litems x S1 with
  | some _ => (args ρ S1).bind fun ds S2 => g x ds S2
  | none => .bad
/-- a method of a dict -/
def eMD (g : D → List D → Sto → R D) (a : Ev) (args : Ea) : Ev := fun ρ S => (a ρ S).bind fun x S1 => match pairs x S1 with
  | some _ => (args ρ S1).bind fun ds S2 => g x ds S2
  | none => .bad
def mAppend (a : D) (xs : List D) (S : Sto) : R D :=
  match a, xs with
  | .ref i, [d] => match S[i]? with
    | some (.lst ds) => if ds.length < line then .ok .non (S.set i (.lst (ds ++ [d]))) else .bad
    | _ => .bad
  | _, _ => .bad
def mPop0 (a : D) (xs : List D) (S : Sto) : R D :=
  match a, xs with
  | .ref i, [] => match S[i]? with
    | some (.lst ds) => match ds[ds.length - 1]? with
      | some d => .ok d (S.set i (.lst ds.dropLast))
      | none => .bad
    | _ => .bad
  | _, _ => .bad
def mPopAt (a : D) (xs : List D) (S : Sto) : R D :=
  match a, xs with
  | .ref i, [.int j] => match S[i]? with
    | some (.lst ds) => if -(2 ^ 63) ≤ j ∧ j < 2 ^ 63 then (match place ds.length j with
      | some n => match ds[n]? with
        | some d => .ok d (S.set i (.lst (ds.eraseIdx n)))
        | none => .bad
      | none => .bad) else .bad
    | _ => .bad
  | _, _ => .bad
/-- the first place of an equal one -/
def ixOf (ds : List D) (a : D) : Option Nat := ds.findIdx? fun z => D.eqv z a
def mIndex (a : D) (xs : List D) (S : Sto) : R D :=
  match xs with
  | [d] => match litems a S with
    | some ds => if D.plains ds = true ∧ D.deps ds ≤ 60 ∧ d.plain = true ∧ d.dep ≤ 60 then (match ixOf ds d with
      | some j => .ok (.int j) S
      | none => .bad) else .bad
    | none => .bad
  | _ => .bad
def mDPop (a : D) (xs : List D) (S : Sto) : R D :=
  match a, xs with
  | .ref i, [k] => match S[i]? with
    | some (.dct false kvs) => if k.isKey = true then (match kget kvs k with
      | some d => .ok d (S.set i (.dct false (kdel kvs k)))
      | none => .bad) else .bad
    | _ => .bad
  | _, _ => .bad
def mDPop2 (a : D) (xs : List D) (S : Sto) : R D :=
  match a, xs with
  | .ref i, [k, z] => match S[i]? with
    | some (.dct false kvs) => if k.isKey = true then (match kget kvs k with
      | some d => .ok d (S.set i (.dct false (kdel kvs k)))
      | none => .ok z S) else .bad
    | _ => .bad
  | _, _ => .bad
def mGet1 (a : D) (xs : List D) (S : Sto) : R D :=
  match xs with
  | [k] => match pairs a S with
    | some kvs => if k.isKey = true then .ok ((kget kvs k).getD .non) S else .bad
    | none => .bad
  | _ => .bad
def mGet2 (a : D) (xs : List D) (S : Sto) : R D :=
  match xs with
  | [k, z] => match pairs a S with
    | some kvs => if k.isKey = true then .ok ((kget kvs k).getD z) S else .bad
    | none => .bad
  | _ => .bad
/-! ### dicts made -/
def eDNew : Ev := fun _ S => .ok (.ref S.length) (S ++ [.dct false []])
def pairOf : D → Option (D × D)
  | .tup [k, v] => if k.isKey = true then some (k, v) else none
  | _ => none
def pairsOf : List D → Option (List (D × D))
  | [] => some []
  | d :: ds => match pairOf d, pairsOf ds with
    | some p, some r => some (p :: r)
    | _, _ => none
def kmerge (kvs more : List (D × D)) : List (D × D) := more.foldl (fun acc p => kput acc p.1 p.2) kvs
/-- dict(pairs), dict(a dict): to be changed -/
def bDictM (xs : List D) (S : Sto) : R D :=
  match xs with
  | [a] => match (items a S).bind pairsOf with
    | some ps => .ok (.ref S.length) (S ++ [.dct false (kmerge [] ps)])
    | none => .bad
  | _ => .bad
def bDictCM (xs : List D) (S : Sto) : R D :=
  match xs with
  | [a] => match pairs a S with
    | some kvs => .ok (.ref S.length) (S ++ [.dct false kvs])
    | none => .bad
  | _ => .bad
/-! ### sorted -/
def insI (x : Int) : List Int → List Int
  | [] => [x]
  | y :: r => if x ≤ y then x :: y :: r else y :: insI x r
def sortI : List Int → List Int
  | [] => []
  | x :: r => insI x (sortI r)
def intsOf : List D → Option (List Int)
  | [] => some []
  | .int i :: r => (intsOf r).map (i :: ·)
  | _ => none
def bSortedI (xs : List D) (S : Sto) : R D :=
  match xs with
  | [a] => match (litems a S).bind intsOf with
    | some ns => .ok (.lst ((sortI ns).map .int)) S
    | none => .bad
  | _ => .bad
def bSortedDI (xs : List D) (S : Sto) : R D :=
  match xs with
  | [a] => match pairs a S with
    | some kvs => match intsOf (kvs.map (·.1)) with
      | some ns => if ns.length < 64 then .ok (.lst ((sortI ns).map .int)) S else .bad
      | none => .bad
    | none => .bad
  | _ => .bad
/-! ### isinstance -/
inductive Ty where
  | bool | int | str | tuple | list | dict
  deriving DecidableEq
def isT (t : Ty) (d : D) (S : Sto) : Option Bool :=
  match d with
  | .non => some false
  | .bl _ => some (t == .bool || t == .int)
  | .int _ => some (t == .int)
  | .str _ => some (t == .str)
  | .tup _ => some (t == .tuple)
  | .lst _ => some (t == .list)
  | .dct _ _ => some (t == .dict)
  | .kls _ => none
  | .ref i => match S[i]? with
    | some (.lst _) => some (t == .list)
    | some (.dct _ _) => some (t == .dict)
    | _ => none
def gIsT (t : Ty) (d : D) (S : Sto) : R D := match isT t d S with
  | some b => .ok (.bl b) S
  | none => .bad
def bInt (xs : List D) (S : Sto) : R D :=
  match xs with
  | [.int i] => .ok (.int i) S
  | [.bl b] => .ok (.int (if b then 1 else 0)) S
  | _ => .bad
def bMax2 (xs : List D) (S : Sto) : R D :=
  match xs with
  | [.int i, .int j] => .ok (.int (if j > i then j else i)) S
  | _ => .bad
def bMin2 (xs : List D) (S : Sto) : R D :=
  match xs with
  | [.int i, .int j] => .ok (.int (if j < i then j else i)) S
  | _ => .bad

/-! ### targets -/
inductive Tg where
  | nm (i : Nat)
  | tp (ts : List Tg)
mutual
def Tg.asg : Tg → D → Sto → Env → Option Env
  | .nm i, d, _, ρ => some (ρ.set i (some d))
  | .tp ts, d, S, ρ => match items d S with
    | some ds => if ds.length = ts.length then Tg.asgs ts ds S ρ else none
    | none => none
def Tg.asgs : List Tg → List D → Sto → Env → Option Env
  | t :: ts, d :: ds, S, ρ => match t.asg d S ρ with
    | some ρ1 => Tg.asgs ts ds S ρ1
    | none => none
  | _, _, _, ρ => some ρ
end
mutual
def Tg.slots : Tg → List Nat
  | .nm i => [i]
  | .tp ts => Tg.slotss ts
def Tg.slotss : List Tg → List Nat
  | [] => []
  | t :: ts => t.slots ++ Tg.slotss ts
end

/-! ### what is walked -/
/-- the items that a for walks, and the check that the walked thing stands as it stood -/
structure Wk where
  ds : List D
  /-- lists of the store that must stand as they are -/
  at_ : List (Nat × List D)
abbrev Ei := Env → Sto → R Wk
def Wk.still (w : Wk) (S : Sto) : Prop := ∀ p, p ∈ w.at_ → S[p.1]? = some (.lst p.2)
/-- what walking a value asks of the store -/
def held : D → List D → List (Nat × List D)
  | .ref i, ds => [(i, ds)]
  | _, _ => []
/-- over a list or a tuple -/
def iSeq (a : Ev) : Ei := fun ρ S => (a ρ S).bind fun x S1 => match items x S1 with
  | some ds => .ok ⟨ds, held x ds⟩ S1
  | none => .bad
/-- over a text's signs -/
def iStr (a : Ev) : Ei := fun ρ S => (a ρ S).bind fun x S1 => match x with
  | .str z => .ok ⟨z.cps.toList.map fun c => .str ⟨#[c]⟩, []⟩ S1
  | _ => .bad
def upto (lo : Int) : Nat → List D
  | 0 => []
  | n + 1 => .int lo :: upto (lo + 1) n
def iRng1 (a : Ea) : Ei := fun ρ S => (a ρ S).bind fun ds S1 => match ds with
  | [.int j] => if -(2 ^ 62) ≤ j ∧ j < 2 ^ 62 then .ok ⟨upto 0 j.toNat, []⟩ S1 else .bad
  | _ => .bad
def iRng2 (a : Ea) : Ei := fun ρ S => (a ρ S).bind fun ds S1 => match ds with
  | [.int i, .int j] => if (-(2 ^ 62) ≤ i ∧ i < 2 ^ 62) ∧ -(2 ^ 62) ≤ j ∧ j < 2 ^ 62 then .ok ⟨upto i (j - i).toNat, []⟩ S1 else .bad
  | _ => .bad

/-- what can be walked -/
def witems (x : D) (S : Sto) : Option (List D) := match x with
  | .str z => some (z.cps.toList.map fun c => .str ⟨#[c]⟩)
  | x => items x S
def srcs : List D → Sto → Option (List (List D))
  | [], _ => some []
  | x :: r, S => match witems x S, srcs r S with
    | some a, some b => some (a :: b)
    | _, _ => none
def heldAll : List D → List (List D) → List (Nat × List D)
  | x :: r, ds :: rr => held x ds ++ heldAll r rr
  | _, _ => []
def minLen : List (List D) → Nat
  | [] => 0
  | [a] => a.length
  | a :: r => min a.length (minLen r)
def zipN (dss : List (List D)) : List D := (List.range (minLen dss)).map fun i => .tup (dss.map fun ds => ds.getD i .non)
def enumD : Int → List D → List D
  | _, [] => []
  | i, d :: ds => .tup [.int i, d] :: enumD (i + 1) ds
def iZip (n : Nat) (a : Ea) : Ei := fun ρ S => (a ρ S).bind fun xs S1 => match srcs xs S1 with
  | some dss => if xs.length = n then .ok ⟨zipN dss, heldAll xs dss⟩ S1 else .bad
  | none => .bad
def iEnum (a : Ea) : Ei := fun ρ S => (a ρ S).bind fun xs S1 => match xs with
  | [x] => match witems x S1 with
    | some ds => .ok ⟨enumD 0 ds, held x ds⟩ S1
    | none => .bad
  | _ => .bad

/-! ### comprehensions -/
def wipe (ρ : Env) (vs : List Nat) : Env := vs.foldl (fun r j => r.set j none) ρ
open Classical in
noncomputable def cLoop (tg : Tg) (t : Et) (e : Ev) (w : Wk) (ρ : Env) : List D → List D → Sto → R (List D)
  | [], acc, S => if w.still S then .ok acc S else .bad
  | d :: ds, acc, S => if w.still S then match tg.asg d S ρ with
    | none => .bad
    | some ρ1 => match t ρ1 S with
      | .ok false S1 => cLoop tg t e w ρ ds acc S1
      | .ok true S1 => match e ρ1 S1 with
        | .ok x S2 => if acc.length < line then cLoop tg t e w ρ ds (acc ++ [x]) S2 else .bad
        | _ => .bad
      | _ => .bad
    else .bad
def tYes : Et := fun _ S => .ok true S
/-- [e for tg in it if t], a list that is never changed -/
noncomputable def eComp (it : Ei) (tg : Tg) (t : Et) (e : Ev) (own : List Nat) : Ev := fun ρ S => (it ρ S).bind fun w S1 =>
  (cLoop tg t e w (wipe ρ own) w.ds [] S1).bind fun ys S2 => .ok (.lst ys) S2

/-! ### statements -/
def sNil : Ex := fun ρ S => .nx ρ S
def sSeq (a b : Ex) : Ex := fun ρ S => match a ρ S with
  | .nx ρ1 S1 => b ρ1 S1
  | o => o
def sSet (i : Nat) (e : Ev) : Ex := fun ρ S => (e ρ S).then ρ fun d S1 => .nx (ρ.set i (some d)) S1
/-- a, b = x, y at plain names: stored from the right -/
def sPar (i j : Nat) (a : Ea) : Ex := fun ρ S => (a ρ S).then ρ fun ds S1 => match ds with
  | [x, y] => .nx ((ρ.set i (some x)).set j (some y)) S1
  | _ => .bad
/-- o[i] = e : e first; a list, a dict of the store -/
def gSetL (o i v : D) (S : Sto) : Option Sto :=
  match o, i with
  | .ref n, .int j => match S[n]? with
    | some (.lst ds) => match place ds.length j with
      | some m => some (S.set n (.lst (ds.set m v)))
      | none => none
    | _ => none
  | _, _ => none
def gSetD (o i v : D) (S : Sto) : Option Sto :=
  match o with
  | .ref n => match S[n]? with
    | some (.dct false kvs) => if i.isKey = true ∧ kvs.length < line then some (S.set n (.dct false (kput kvs i v))) else none
    | _ => none
  | _ => none
def sSub (g : D → D → D → Sto → Option Sto) (o i e : Ev) : Ex := fun ρ S => (e ρ S).then ρ fun v S1 => (o ρ S1).then ρ fun x S2 => (i ρ S2).then ρ fun y S3 => match g x y v S3 with
  | some S4 => .nx ρ S4
  | none => .bad
def sAsg (tg : Tg) (e : Ev) : Ex := fun ρ S => (e ρ S).then ρ fun d S1 => match tg.asg d S1 ρ with
  | some ρ1 => .nx ρ1 S1
  | none => .bad
def sExpr (e : Ev) : Ex := fun ρ S => (e ρ S).then ρ fun _ S1 => .nx ρ S1
def sRet (e : Ev) : Ex := fun ρ S => (e ρ S).then ρ fun d S1 => .rt d S1
def sRaise (c : Nat) : Ex := fun ρ S => .ex c ρ S
def sIf (t : Et) (a b : Ex) : Ex := fun ρ S => (t ρ S).then ρ fun c S1 => if c = true then a ρ S1 else b ρ S1
def sBreak : Ex := fun ρ S => .bk ρ S
def sCont : Ex := fun ρ S => .ct ρ S
open Classical in
noncomputable def fLoop (tg : Tg) (b : Ex) (w : Wk) : List D → Env → Sto → Out
  | [], ρ, S => if w.still S then .nx ρ S else .bad
  | d :: ds, ρ, S => if w.still S then match tg.asg d S ρ with
      | none => .bad
      | some ρ1 => match b ρ1 S with
        | .nx ρ2 S2 => fLoop tg b w ds ρ2 S2
        | .ct ρ2 S2 => fLoop tg b w ds ρ2 S2
        | .bk ρ2 S2 => .nx ρ2 S2
        | .rt d S2 => .rt d S2
        | .ex c ρ2 S2 => .ex c ρ2 S2
        | .bad => .bad
    else .bad
noncomputable def sFor (it : Ei) (tg : Tg) (b : Ex) : Ex := fun ρ S => (it ρ S).then ρ fun w S1 => fLoop tg b w w.ds ρ S1
def wLoop (t : Et) (b : Ex) : Nat → Env → Sto → Out
  | 0, _, _ => .bad
  | n + 1, ρ, S => match t ρ S with
    | .ok false S1 => .nx ρ S1
    | .ok true S1 => match b ρ S1 with
      | .nx ρ2 S2 => wLoop t b n ρ2 S2
      | .ct ρ2 S2 => wLoop t b n ρ2 S2
      | .bk ρ2 S2 => .nx ρ2 S2
      | .rt d S2 => .rt d S2
      | .ex c ρ2 S2 => .ex c ρ2 S2
      | .bad => .bad
    | .ex c S1 => .ex c ρ S1
    | .bad => .bad
def sWhile (fuel : Nat) (t : Et) (b : Ex) : Ex := wLoop t b fuel

/-- try, with clauses: those classes that it takes, those that it does not, its suite -/
def tryH : List (List Nat × List Nat × Ex) → Nat → Ex
  | [], c => fun ρ S => .ex c ρ S
  | (yes, no, s) :: r, c => fun ρ S => if c ∈ yes then (match s ρ S with
      | .ex _ _ _ => .bad
      | o => o) else if c ∈ no then tryH r c ρ S else .bad
def sTry (b : Ex) (hs : List (List Nat × List Nat × Ex)) : Ex := fun ρ S => match b ρ S with
  | .ex c ρ1 S1 => tryH hs c ρ1 S1
  | o => o

/-! ### a def -/
def run (n : Nat) (b : Ex) : Fn := fun ds S => match b (ds.map some ++ List.replicate (n - ds.length) none) S with
  | .nx _ S1 => .ok .non S1
  | .rt d S1 => .ok d S1
  | .ex c _ S1 => .ex c S1
  | _ => .bad
end Mp

/-! MpZ: tuples laid with their very object (that has no dict of its own). -/
namespace Mp
open PySem PySem.Spec PyProof.Rows L2

/-- a tuple of the text's constants -/
def KTup (K : PySem.W.Frag) (a : Addr) (xs : List V) : Prop := ∃ (o : Obj) (its : Array Value) (n : Nat), K.lookup a = some o ∧ o.cls = .type "tuple" ∧ o.dict = none ∧ o.data = .seq its n ∧ its.size ≤ sizeLine ∧ Vals xs its.toList
/-- a tuple that has no dict of its own -/
def BareT (K : PySem.W.Frag) (H : Hp) (a : Addr) (xs : List V) : Prop := (∃ ob, H a = some (.frz ob (.tup xs)) ∧ ob.dict = none) ∨ KTup K a xs
/-- a new tuple -/
def NewT (H : Hp) (xs : List V) (Q : VK) : Prop := ∀ p ob, H p = none → ob.dict = none → Q (.ref p) (upd H p (.frz ob (.tup xs)))
section
variable {X : Cx}
theorem Inv.laidZ {pins : List (Addr × Obj)} {σ : L2.St} {H : Hp} {s : Shared} {xs : List V} {its : List Value} {t' : Nat} (I : Inv X pins σ H s) (r : Vals xs its) (z : xs.length ≤ sizeLine) :
    Inv X pins σ (upd H s.heap.objs.size (.frz { cls := .type "tuple", data := .seq its.toArray } (.tup xs))) { s with heap := s.heap.push { cls := .type "tuple", data := .seq its.toArray }, toks := t' } :=
  I.laid (o := .frz { cls := .type "tuple", data := .seq its.toArray } (.tup xs)) (fun b o e => Heap.get?_push_of_some _ e) (Nat.le_refl _) ⟨Heap.get?_push_size _ rfl, z, its, r, IsTup.new _ _⟩
def tTupZ (t : TA) : TE := fun σ H Q => t σ H fun xs H1 => xs.length ≤ sizeLine ∧ NewT H1 xs Q
theorem pe_tupZ {es : List Expr} {t : TA} {x1 pos} (h : PA X es t) : PE X (.Tuple es x1 pos) (tTupZ t) := by
  refine ⟨fun pins s σ H Q I hq => ?_⟩
  refine wpAny_Tuple_spliced (thn (h.run pos pins s σ H _ I hq) fun us s1 ⟨xs, H1, I1, r, z, q⟩ => ⟨by rw [← r.length]; exact z, ?_⟩)
  exact ⟨.ref s1.heap.objs.size, _, Inv.laidZ (t' := s1.toks) I1 r z, rfl, q _ _ (I1.hok.fresh (Nat.le_refl _)) rfl⟩
def rCatZ (K : PySem.W.Frag) : R2 := fun x y H Q => ∃ a b xs ys, x = .ref a ∧ y = .ref b ∧ SqT K H a xs ∧ SqT K H b ys ∧ xs.length + ys.length ≤ sizeLine ∧
  (xs = [] → Q (.ref b) H) ∧ (xs ≠ [] → ys = [] → Q (.ref a) H) ∧ (xs ≠ [] → ys ≠ [] → NewT H (xs ++ ys) Q)
theorem op_catZ : OpR X (binaryOp .Add) (rCatZ X.K) := by
  intro pins s σ H x y v u Q I rx ry h
  obtain ⟨a, b, xs, ys, rfl, rfl, ha, hb, hz, q0, q1, q2⟩ := h
  by_cases hx : xs = []
  · subst hx
    cases rx
    cases ry
    obtain ⟨its, r1, p1, _⟩ := I.tuple ha
    obtain ⟨its2, r2, p2, _⟩ := I.tuple hb
    cases r1
    exact cat_tup0 p1 p2 ⟨.ref b, H, I, rfl, q0 rfl⟩
  · cases rx
    cases ry
    obtain ⟨its, r1, p1, _⟩ := I.tuple ha
    obtain ⟨its2, r2, p2, _⟩ := I.tuple hb
    refine HT.cat_tup p1 p2 (fun z => hx (r1.nil_iff.mp z)) (fun z => ⟨.ref a, H, I, rfl, q1 hx (r2.nil_iff.mp z)⟩) (fun z => ?_) (by rw [← r1.length, ← r2.length]; exact hz)
    exact ⟨.ref s.heap.objs.size, _, Inv.laidZ (t' := s.toks) I (r1.append r2) (by rw [List.length_append]; exact hz), rfl, q2 hx (fun w => z (r2.nil_iff.mpr w)) _ _ (I.hok.fresh (Nat.le_refl _)) rfl⟩
def rSlZ (K : PySem.W.Frag) : V → Option Int → Option Int → Hp → VK → Prop := fun x lo hi H Q => ∃ a xs, x = .ref a ∧ SqT K H a xs ∧
  (HT.sIx xs.length 0 lo = 0 ∧ HT.sIx xs.length xs.length hi = xs.length → Q (.ref a) H) ∧ (¬ (HT.sIx xs.length 0 lo = 0 ∧ HT.sIx xs.length xs.length hi = xs.length) → NewT H (cutV xs lo hi) Q)
theorem sl_tupZ : SlR X (rSlZ X.K) := by
  intro pins s σ H x v vl vu lo hi sl Q I rx hs pl pu h
  obtain ⟨a, xs, rfl, hx, q1, q2⟩ := h
  cases rx
  obtain ⟨its, r, ht, hz⟩ := I.tuple hx
  have hlen : its.toArray.size = xs.length := by rw [List.size_toArray]; exact r.length.symm
  refine ⟨"tuple", _, PyProof.Rows.slot_tuple_getitem.lookup, ht.typeIs, ?_⟩
  by_cases hw : HT.sIx xs.length 0 lo = 0 ∧ HT.sIx xs.length xs.length hi = xs.length
  · exact getItem_tuple_whole ht hs pl pu (by rw [hlen]; exact hw) ⟨.ref a, H, I, rfl, q1 hw⟩
  · refine HT.getItem_tuple_cut ht hs pl pu (by rw [hlen]; exact hw) ?_ (by rw [hlen]; exact hz)
    rw [hlen]
    exact ⟨.ref s.heap.objs.size, _, Inv.laidZ (t' := s.toks) I ((r.drop (HT.sIx xs.length 0 lo)).take (HT.sIx xs.length xs.length hi - HT.sIx xs.length 0 lo)) (Nat.le_trans (cutV_length xs lo hi) hz), rfl, q2 hw _ _ (I.hok.fresh (Nat.le_refl _)) rfl⟩
theorem call_tupleZ : CallR X (.type "tuple") (fun xs H Q => ∃ p ys, xs = [.ref p] ∧ ((SqL X.K H p ys ∧ NewT H ys Q) ∨ (SqT X.K H p ys ∧ Q (.ref p) H))) := by
  intro pins s σ H xs us Q I r h
  obtain ⟨p, ys, rfl, h⟩ := h
  obtain ⟨u, rfl, rx⟩ := vals1 r
  cases rx
  rcases h with ⟨hq, q⟩ | ⟨hq, q⟩
  · obtain ⟨its, r', pl, hz⟩ := I.list hq
    have hlen := r'.length
    refine call_tuple_list pl.isList (fun h' kp => ?_) (by simp only [List.size_toArray] <;> omega)
    have I1 : Inv X pins σ H { s with heap := h' } := I.kept (t' := s.toks) kp
    exact ⟨.ref h'.objs.size, _, Inv.laidZ (t' := s.toks) I1 r' hz, rfl, q _ _ (I1.hok.fresh (Nat.le_refl _)) rfl⟩
  · obtain ⟨its, r', pl, hz⟩ := I.tuple hq
    exact call_tuple_same pl ⟨.ref p, H, I, rfl, q⟩
/-- dict(x), x a tuple of pairs that has no dict of its own -/
theorem call_dictT (hcalm : X.calm = true) : CallR X (.type "dict") (fun xs H Q => ∃ (a : Addr) (ps : List Addr) (kvs : List (Key × V)), xs = [.ref a] ∧ BareT X.K H a (ps.map V.ref) ∧ Paired (fun p kv => SqT X.K H p [kV kv.1, kv.2]) ps kvs ∧
    ∀ p, H p = none → Q (.ref p) (upd H p (.dK (mergeK [] kvs)))) := by
  intro pins s σ H xs us Q I r q
  obtain ⟨a, ps, kvs, ex, hq, hp, q⟩ := q
  subst ex
  obtain ⟨u, eu, rx⟩ := vals1 r
  subst eu
  cases rx
  obtain ⟨ob, its, n', hget, hc', hod, hd', rv, hz⟩ : ∃ (ob : Obj) (its : List Value) (n' : Nat), s.heap.get? a = some ob ∧ ob.cls = .type "tuple" ∧ ob.dict = none ∧ ob.data = .seq its.toArray n' ∧ Vals (ps.map V.ref) its ∧ (ps.map V.ref).length ≤ sizeLine := by
    rcases hq with ⟨ob, hq, hod⟩ | ⟨o, its, n, h1, h2, h3, h4, h5, h6⟩
    · obtain ⟨hget, hz, its, rv, o', ho', hc', n', hd'⟩ := (show ObjOk X.prog X.w H s.heap a (.frz ob (.tup (ps.map V.ref))) from I.hok a _ hq)
      rw [hget] at ho'
      cases ho'
      exact ⟨ob, its, n', hget, hc', hod, hd', rv, hz⟩
    · refine ⟨o, its.toList, n, I.kIn _ _ h1, h2, h3, by simpa using h4, h6, ?_⟩
      have := h6.length
      simp only [Array.length_toList] at this
      omega
  have ei := refs_at rv
  subst ei
  rw [List.length_map] at hz
  obtain ⟨prs, rel, hl, hpr⟩ := pairs_of I hp
  have hh : X.A.handled = none := I.ok.hd hcalm
  have hpr' : ∀ j, j < prs.length → ∃ (b : Addr) (u : Value), ps[j]? = some b ∧ IsTup s.heap b #[u, (prs.getD j (Sum.inl 0, .none)).2] ∧ keyIs (prs.getD j (Sum.inl 0, .none)).1 u = true := fun j hj => by
    obtain ⟨b, u, e1, e2, e3⟩ := hpr j _ (List.getElem?_eq_getElem hj)
    have eg : prs.getD j (Sum.inl 0, .none) = prs[j] := by rw [List.getD_eq_getElem?_getD, List.getElem?_eq_getElem hj]; rfl
    exact ⟨b, u, e1, by rw [eg]; exact e2, by rw [eg]; exact e3⟩
  -- the pairs as values
  have hex : ∃ pv : List (Value × Value), pv.length = ps.length ∧ ∀ (j : Nat) b k v, ps[j]? = some b → pv[j]? = some (k, v) → IsTup s.heap b #[k, v] ∧ ∃ key, prs[j]? = some (key, v) ∧ keyIs key k = true := by
    have : ∀ (ps : List Addr) (prs : List (Key × Value)), prs.length = ps.length → (∀ (j : Nat) (q : Key × Value), prs[j]? = some q → ∃ (b : Addr) (u : Value), ps[j]? = some b ∧ IsTup s.heap b #[u, q.2] ∧ keyIs q.1 u = true) →
        ∃ pv : List (Value × Value), pv.length = ps.length ∧ ∀ (j : Nat) b k v, ps[j]? = some b → pv[j]? = some (k, v) → IsTup s.heap b #[k, v] ∧ ∃ key, prs[j]? = some (key, v) ∧ keyIs key k = true := by
      intro ps
      induction ps with
      | nil => intro prs _ _; exact ⟨[], rfl, fun j b k v e _ => by simp at e⟩
      | cons p ps ih =>
        intro prs hl hp
        cases prs with
        | nil => simp at hl
        | cons q prs =>
          obtain ⟨pv, h1, h2⟩ := ih prs (by simpa using hl) fun j q e => by
            obtain ⟨b, u, e1, e2⟩ := hp (j + 1) q (by simpa using e)
            exact ⟨b, u, by simpa using e1, e2⟩
          obtain ⟨b, u, e1, e2, e3⟩ := hp 0 q rfl
          refine ⟨(u, q.2) :: pv, by simp [h1], fun j b' k v e e' => ?_⟩
          cases j with
          | zero =>
            simp at e e1 e'
            subst e; subst e1
            obtain ⟨rfl, rfl⟩ := e'
            exact ⟨e2, q.1, rfl, e3⟩
          | succ j =>
            obtain ⟨z1, key, z2, z3⟩ := h2 j b' k v (by simpa using e) (by simpa using e')
            exact ⟨z1, key, by simpa using z2, z3⟩
    exact this ps prs hl hpr
  obtain ⟨pv, hpl, hpv⟩ := hex
  refine PySem.call_dict_pairs (knd := mixKind X.prog X.w) (kvs := prs) (PairArg.tuple a (ps.map Value.ref).toArray (fun j => ps.getD j 0) pv) hh ⟨⟨ob, n', hget, hc', hod, hd'⟩, by simp [hpl], fun j k v hj => ?_⟩ ⟨by rw [hl, hpl], fun j k v hj => ?_⟩ (by rw [hpl]; exact hz) fun h' tk hdd hk => ?_
  · have hjl : j < ps.length := by rw [← hpl]; exact (List.getElem?_eq_some_iff.mp hj).1
    have eb : ps[j]? = some (ps.getD j 0) := by rw [List.getD_eq_getElem?_getD, List.getElem?_eq_getElem hjl]; rfl
    obtain ⟨z1, _⟩ := hpv j _ k v eb hj
    refine ⟨?_, .inl z1⟩
    have e3 : (ps.map Value.ref)[j]? = some (Value.ref (ps.getD j 0)) := by rw [List.getElem?_map, eb]; rfl
    simpa using e3
  · have hjl : j < ps.length := by rw [← hpl]; exact (List.getElem?_eq_some_iff.mp hj).1
    obtain ⟨_, key, z2, z3⟩ := hpv j _ k v (List.getElem?_eq_getElem hjl) hj
    exact ⟨key, z2, z3⟩
  · have hm : (s.heap.objs.size == sysModules) = false := beq_eq_false_iff_ne.mpr (Nat.ne_of_gt I.big)
    have hlen : (mergeK [] kvs).length ≤ sizeLine := by
      refine Nat.le_trans (length_mergeK kvs []) ?_
      rw [List.length_nil, Nat.zero_add, rel.length, hl]
      exact hz
    exact ⟨.ref s.heap.objs.size, upd H s.heap.objs.size (.dK (mergeK [] kvs)), I.laid (t' := tk) (fun b o e => hk b o (by simp) e) (Nat.le_refl _) (show ObjOk X.prog X.w _ _ _ (.dK (mergeK [] kvs)) from ⟨hlen, hm, merged [] prs, KV.merge rel .nil, hdd⟩), rfl, q _ (I.hok.fresh (Nat.le_refl _))⟩
end
end Mp

/-! MpRel: how data stands in the model's heap. -/
namespace Mp
open PySem PySem.Spec PyProof.Rows L2

structure Gam where
  K : PySem.W.Frag
  cl : Nat → Addr
  xc : Nat → Addr
  /-- what is being built (a comprehension's list): no value leads to it, and it stands as it is -/
  rs : List Addr

/-- the addresses of what may be changed -/
def Al (rs : List Addr) (π : List Addr) (S : Sto) (a : Addr) : Prop := a ∈ rs ∨ ∃ (i : Nat) (o : O), π[i]? = some a ∧ S[i]? = some o ∧ o.live = true

def TupAt (K : PySem.W.Frag) (H : Hp) (al : Addr → Prop) (a : Addr) (xs : List V) : Prop := (∃ ob, H a = some (.frz ob (.tup xs)) ∧ ob.dict = none ∧ ¬ al a) ∨ KTup K a xs
/-- a list of the text's constants -/
def KLst (K : PySem.W.Frag) (a : Addr) (xs : List V) : Prop := ∃ (o : Obj) (its : Array Value) (n : Nat), K.lookup a = some o ∧ o.cls = .type "list" ∧ o.dict = none ∧ o.data = .seq its n ∧ its.size ≤ sizeLine ∧ Vals xs its.toList
def LstAt (H : Hp) (al : Addr → Prop) (a : Addr) (xs : List V) : Prop := Rd H a (.lst xs) ∧ ¬ al a
def LstK (K : PySem.W.Frag) (H : Hp) (al : Addr → Prop) (a : Addr) (xs : List V) : Prop := LstAt H al a xs ∨ KLst K a xs
theorem TupAt.sq {K : PySem.W.Frag} {H : Hp} {al : Addr → Prop} {a : Addr} {xs : List V} (h : TupAt K H al a xs) : SqT K H a xs := h.imp (fun ⟨ob, h, _⟩ => .inr ⟨ob, h⟩) (fun ⟨o, its, n, h1, h2, _, h3⟩ => ⟨o, its, n, h1, h2, h3⟩)
theorem LstAt.sq {K : PySem.W.Frag} {H : Hp} {al : Addr → Prop} {a : Addr} {xs : List V} (h : LstAt H al a xs) : SqL K H a xs := .inl h.1
theorem LstK.sq {K : PySem.W.Frag} {H : Hp} {al : Addr → Prop} {a : Addr} {xs : List V} (h : LstK K H al a xs) : SqL K H a xs := h.imp (·.1) id
mutual
def VRel (K : PySem.W.Frag) (H : Hp) (al : Addr → Prop) (π : List Addr) : D → V → Prop
  | .non, v => v = .non
  | .bl b, v => v = .bl b
  | .int i, v => v = .int i
  | .str s, v => v = .str s
  | .tup ds, v => ∃ a xs, v = .ref a ∧ TupAt K H al a xs ∧ VsRel K H al π ds xs
  | .lst ds, v => ∃ a xs, v = .ref a ∧ LstAt H al a xs ∧ VsRel K H al π ds xs
  | .kls ds, v => ∃ a xs, v = .ref a ∧ LstK K H al a xs ∧ VsRel K H al π ds xs
  | .dct _ _, _ => False
  | .ref i, v => ∃ a, v = .ref a ∧ π[i]? = some a
def VsRel (K : PySem.W.Frag) (H : Hp) (al : Addr → Prop) (π : List Addr) : List D → List V → Prop
  | [], xs => xs = []
  | d :: ds, xs => ∃ v r, xs = v :: r ∧ VRel K H al π d v ∧ VsRel K H al π ds r
end

section
variable {K : PySem.W.Frag} {H H' : Hp} {al al' : Addr → Prop} {π π' : List Addr}

/-- what is carried from one state to a later one -/
structure Keep (rs : List Addr) (H : Hp) (al : Addr → Prop) (π : List Addr) (H' : Hp) (al' : Addr → Prop) (π' : List Addr) : Prop where
  pre : ∀ (i : Nat) a, π[i]? = some a → π'[i]? = some a
  obj : ∀ a o, H a = some o → ¬ al a → H' a = some o
  ndt : ∀ a, ¬ al a → (∃ o, H a = some o) → ¬ al' a
  res : ∀ a, a ∈ rs → H' a = H a
theorem Keep.refl {rs : List Addr} : Keep rs H al π H al π := ⟨fun _ _ h => h, fun _ _ h _ => h, fun _ h _ => h, fun _ _ => rfl⟩
theorem Keep.trans {rs : List Addr} {H2 : Hp} {al2 : Addr → Prop} {π2 : List Addr} (x : Keep rs H al π H' al' π') (y : Keep rs H' al' π' H2 al2 π2) : Keep rs H al π H2 al2 π2 :=
  ⟨fun i a h => y.pre i a (x.pre i a h), fun a o h n => y.obj a o (x.obj a o h n) (x.ndt a n ⟨o, h⟩), fun a n ⟨o, h⟩ => y.ndt a (x.ndt a n ⟨o, h⟩) ⟨o, x.obj a o h n⟩, fun a h => (y.res a h).trans (x.res a h)⟩
theorem Keep.rd {a : Addr} {u : HO} {rs : List Addr} (k : Keep rs H al π H' al' π') (n : ¬ al a) (h : Rd H a u) : Rd H' a u ∧ ¬ al' a := by
  rcases h with h | ⟨o, h⟩
  · exact ⟨.inl (k.obj _ _ h n), k.ndt _ n ⟨_, h⟩⟩
  · exact ⟨.inr ⟨o, k.obj _ _ h n⟩, k.ndt _ n ⟨_, h⟩⟩
theorem Keep.tup {a : Addr} {xs : List V} {rs : List Addr} (k : Keep rs H al π H' al' π') (h : TupAt K H al a xs) : TupAt K H' al' a xs := h.imp (fun ⟨ob, h, e, n⟩ => ⟨ob, k.obj _ _ h n, e, k.ndt _ n ⟨_, h⟩⟩) id
theorem Keep.lst {a : Addr} {xs : List V} {rs : List Addr} (k : Keep rs H al π H' al' π') (h : LstAt H al a xs) : LstAt H' al' a xs := k.rd h.2 h.1
theorem Keep.lstK {a : Addr} {xs : List V} {rs : List Addr} (k : Keep rs H al π H' al' π') (h : LstK K H al a xs) : LstK K H' al' a xs := h.imp k.lst id

mutual
theorem VRel.mono {rs : List Addr} (k : Keep rs H al π H' al' π') : ∀ (d : D) (v : V), VRel K H al π d v → VRel K H' al' π' d v
  | .non, v, h => by simpa only [VRel] using h
  | .bl b, v, h => by simpa only [VRel] using h
  | .int i, v, h => by simpa only [VRel] using h
  | .str s, v, h => by simpa only [VRel] using h
  | .tup ds, v, h => by
    simp only [VRel] at h ⊢
    obtain ⟨a, xs, e, s, r⟩ := h
    exact ⟨a, xs, e, k.tup s, VsRel.mono k ds xs r⟩
  | .lst ds, v, h => by
    simp only [VRel] at h ⊢
    obtain ⟨a, xs, e, s, r⟩ := h
    exact ⟨a, xs, e, k.lst s, VsRel.mono k ds xs r⟩
  | .kls ds, v, h => by
    simp only [VRel] at h ⊢
    obtain ⟨a, xs, e, s, r⟩ := h
    exact ⟨a, xs, e, k.lstK s, VsRel.mono k ds xs r⟩
  | .dct ks vs, v, h => by
    simp only [VRel] at h
  | .ref i, v, h => by
    simp only [VRel] at h ⊢
    obtain ⟨a, e, p⟩ := h
    exact ⟨a, e, k.pre i a p⟩
theorem VsRel.mono {rs : List Addr} (k : Keep rs H al π H' al' π') : ∀ (ds : List D) (xs : List V), VsRel K H al π ds xs → VsRel K H' al' π' ds xs
  | [], xs, h => by simpa only [VsRel] using h
  | d :: ds, xs, h => by
    simp only [VsRel] at h ⊢
    obtain ⟨v, r, e, h1, h2⟩ := h
    exact ⟨v, r, e, VRel.mono k d v h1, VsRel.mono k ds r h2⟩
end
theorem VsRel.length : ∀ {ds : List D} {xs : List V}, VsRel K H al π ds xs → ds.length = xs.length
  | [], xs, h => by simp only [VsRel] at h; subst h; rfl
  | d :: ds, xs, h => by
    simp only [VsRel] at h
    obtain ⟨v, r, rfl, h1, h2⟩ := h
    simp [VsRel.length h2]
theorem VsRel.get : ∀ {ds : List D} {xs : List V} {i : Nat} {d : D}, VsRel K H al π ds xs → ds[i]? = some d → ∃ v, xs[i]? = some v ∧ VRel K H al π d v
  | [], xs, i, d, h, e => by simp at e
  | d :: ds, xs, 0, d', h, e => by
    simp only [VsRel] at h
    obtain ⟨v, r, rfl, h1, h2⟩ := h
    simp at e
    subst e
    exact ⟨v, rfl, h1⟩
  | d :: ds, xs, i + 1, d', h, e => by
    simp only [VsRel] at h
    obtain ⟨v, r, rfl, h1, h2⟩ := h
    obtain ⟨v', e', h'⟩ := VsRel.get (i := i) h2 (by simpa using e)
    exact ⟨v', by simpa using e', h'⟩
theorem VsRel.getV : ∀ {ds : List D} {xs : List V} {i : Nat} {v : V}, VsRel K H al π ds xs → xs[i]? = some v → ∃ d, ds[i]? = some d ∧ VRel K H al π d v
  | [], xs, i, v, h, e => by simp only [VsRel] at h; subst h; simp at e
  | d :: ds, xs, 0, v', h, e => by
    simp only [VsRel] at h
    obtain ⟨v, r, rfl, h1, h2⟩ := h
    simp at e
    subst e
    exact ⟨d, rfl, h1⟩
  | d :: ds, xs, i + 1, v', h, e => by
    simp only [VsRel] at h
    obtain ⟨v, r, rfl, h1, h2⟩ := h
    obtain ⟨d', e', h'⟩ := VsRel.getV (i := i) h2 (by simpa using e)
    exact ⟨d', by simpa using e', h'⟩
theorem VsRel.append : ∀ {ds es : List D} {xs ys : List V}, VsRel K H al π ds xs → VsRel K H al π es ys → VsRel K H al π (ds ++ es) (xs ++ ys)
  | [], es, xs, ys, h, h' => by simp only [VsRel] at h; subst h; exact h'
  | d :: ds, es, xs, ys, h, h' => by
    simp only [VsRel] at h
    obtain ⟨v, r, rfl, h1, h2⟩ := h
    simp only [List.cons_append, VsRel]
    exact ⟨v, r ++ ys, rfl, h1, VsRel.append h2 h'⟩
theorem VsRel.nil : VsRel K H al π [] [] := by simp only [VsRel]
theorem VsRel.cons {d : D} {v : V} {ds : List D} {xs : List V} (h : VRel K H al π d v) (h' : VsRel K H al π ds xs) : VsRel K H al π (d :: ds) (v :: xs) := by
  simp only [VsRel]
  exact ⟨v, xs, rfl, h, h'⟩
theorem VsRel.one {d : D} {v : V} (h : VRel K H al π d v) : VsRel K H al π [d] [v] := .cons h .nil
theorem VsRel.take : ∀ (n : Nat) {ds : List D} {xs : List V}, VsRel K H al π ds xs → VsRel K H al π (ds.take n) (xs.take n)
  | 0, ds, xs, h => by simp [VsRel]
  | n + 1, [], xs, h => by simp only [VsRel] at h; subst h; simp [VsRel]
  | n + 1, d :: ds, xs, h => by
    simp only [VsRel] at h
    obtain ⟨v, r, rfl, h1, h2⟩ := h
    exact .cons h1 (VsRel.take n h2)
theorem VsRel.drop : ∀ (n : Nat) {ds : List D} {xs : List V}, VsRel K H al π ds xs → VsRel K H al π (ds.drop n) (xs.drop n)
  | 0, ds, xs, h => h
  | n + 1, [], xs, h => by simp only [VsRel] at h; subst h; simp [VsRel]
  | n + 1, d :: ds, xs, h => by
    simp only [VsRel] at h
    obtain ⟨v, r, rfl, h1, h2⟩ := h
    exact VsRel.drop n h2
theorem VsRel.set {d : D} {v : V} (h' : VRel K H al π d v) : ∀ (n : Nat) {ds : List D} {xs : List V}, VsRel K H al π ds xs → VsRel K H al π (ds.set n d) (xs.set n v)
  | n, [], xs, h => by simp only [VsRel] at h; subst h; simp [VsRel]
  | 0, _ :: ds, xs, h => by
    simp only [VsRel] at h
    obtain ⟨_, r, rfl, h1, h2⟩ := h
    exact .cons h' h2
  | n + 1, _ :: ds, xs, h => by
    simp only [VsRel] at h
    obtain ⟨_, r, rfl, h1, h2⟩ := h
    exact .cons h1 (VsRel.set h' n h2)
end

/-! ### objects -/
/-- a key as data -/
def kD : Key → D
  | .inl i => .int i
  | .inr x => .str x
/-- a dict's pairs -/
def KvRel (K : PySem.W.Frag) (H : Hp) (al : Addr → Prop) (π : List Addr) : List (D × D) → List (Key × V) → Prop
  | [], ks => ks = []
  | p :: r, ks => ∃ k v ks', ks = (k, v) :: ks' ∧ p.1 = kD k ∧ VRel K H al π p.2 v ∧ KvRel K H al π r ks'
def FsRel (K : PySem.W.Frag) (H : Hp) (al : Addr → Prop) (π : List Addr) (fs : List (Str × D)) (gs : List (Str × V)) : Prop :=
  fs.map (·.1) = gs.map (·.1) ∧ VsRel K H al π (fs.map (·.2)) (gs.map (·.2))
def ORel (Γ : Gam) (H : Hp) (al : Addr → Prop) (π : List Addr) (a : Addr) : O → Prop
  | .lst ds => ∃ xs, H a = some (.lst xs) ∧ VsRel Γ.K H al π ds xs
  | .dct lk kvs => ∃ ks, (if lk = true then ∃ od, H a = some (.frz od (.dK ks)) else H a = some (.dK ks)) ∧ KvRel Γ.K H al π kvs ks
  | .ins c fs => ∃ dx gs, H a = some (.ins (Γ.cl c) dx gs) ∧ FsRel Γ.K H al π fs gs
  | .dtt _ => False
  | .gone => True

/-- the store stands in the heap -/
structure GRel (Γ : Gam) (π : List Addr) (S : Sto) (H : Hp) : Prop where
  len : π.length = S.length
  nd : π.Nodup
  obj : ∀ (i : Nat) a o, π[i]? = some a → S[i]? = some o → ORel Γ H (Al Γ.rs π S) π a o
  trk : ∀ a, a ∈ π → ∃ o, H a = some o
  rsT : ∀ a, a ∈ Γ.rs → ∃ o, H a = some o
  rsN : ∀ a, a ∈ Γ.rs → a ∉ π
/-- .. and the names in their slots -/
structure Rel (Γ : Gam) (π : List Addr) (ρ : Env) (S : Sto) (σ : L2.St) (H : Hp) : Prop where
  g : GRel Γ π S H
  len : ρ.length = σ.length
  vars : ∀ (i : Nat) d, ρ[i]? = some (some d) → ∃ v, σ[i]? = some (some v) ∧ VRel Γ.K H (Al Γ.rs π S) π d v
abbrev VR (Γ : Gam) (π : List Addr) (S : Sto) (H : Hp) : D → V → Prop := VRel Γ.K H (Al Γ.rs π S) π
abbrev VsR (Γ : Gam) (π : List Addr) (S : Sto) (H : Hp) : List D → List V → Prop := VsRel Γ.K H (Al Γ.rs π S) π
abbrev Kp (Γ : Gam) (π : List Addr) (S : Sto) (H : Hp) (π' : List Addr) (S' : Sto) (H' : Hp) : Prop := Keep Γ.rs H (Al Γ.rs π S) π H' (Al Γ.rs π' S') π'

section
variable {Γ : Gam} {π π' : List Addr} {ρ : Env} {S S' : Sto} {σ : L2.St} {H H' : Hp}
theorem FsRel.mono {K : PySem.W.Frag} {al al' : Addr → Prop} {fs : List (Str × D)} {gs : List (Str × V)} {rs : List Addr} (k : Keep rs H al π H' al' π') (h : FsRel K H al π fs gs) : FsRel K H' al' π' fs gs := ⟨h.1, VsRel.mono k _ _ h.2⟩
theorem KvRel.mono {K : PySem.W.Frag} {al al' : Addr → Prop} {rs : List Addr} (k : Keep rs H al π H' al' π') : ∀ {fs : List (D × D)} {gs : List (Key × V)}, KvRel K H al π fs gs → KvRel K H' al' π' fs gs
  | [], gs, h => h
  | p :: r, gs, ⟨a, v, ks', e, e1, r1, r2⟩ => ⟨a, v, ks', e, e1, VRel.mono k _ _ r1, KvRel.mono k r2⟩
theorem Rel.to (x : Rel Γ π ρ S σ H) (g : GRel Γ π' S' H') (k : Kp Γ π S H π' S' H') : Rel Γ π' ρ S' σ H' :=
  ⟨g, x.len, fun i d e => let ⟨v, e', r⟩ := x.vars i d e; ⟨v, e', VRel.mono k d v r⟩⟩
theorem Rel.set (x : Rel Γ π ρ S σ H) (i : Nat) {d : D} {v : V} (r : VR Γ π S H d v) : Rel Γ π (ρ.set i (some d)) S (σ.set i (some v)) H :=
  ⟨x.g, by simpa using x.len, fun j d' e => by
    by_cases h : i = j
    · subst h
      rw [List.getElem?_set] at e
      simp only [if_true] at e
      split at e
      · rename_i hl
        cases e
        refine ⟨v, ?_, r⟩
        rw [List.getElem?_set_self (by rw [← x.len]; exact hl)]
      · cases e
    · rw [List.getElem?_set_ne h] at e ⊢
      exact x.vars j d' e⟩
/-- the live address of a number -/
theorem GRel.al {rs : List Addr} {i : Nat} {o : O} (e : S[i]? = some o) (n : o.live = true) {a : Addr} (p : π[i]? = some a) : Al rs π S a := .inr ⟨i, o, p, e, n⟩
theorem GRel.at_ (g : GRel Γ π S H) {i : Nat} {o : O} (e : S[i]? = some o) : ∃ a, π[i]? = some a := by
  obtain ⟨h, _⟩ := List.getElem?_eq_some_iff.mp e
  exact ⟨π[i]'(by rw [g.len]; exact h), by simp [g.len, h]⟩
/-- what is alive is tracked -/
theorem GRel.tracked (g : GRel Γ π S H) {a : Addr} (h : Al Γ.rs π S a) : ∃ o, H a = some o := by
  rcases h with h | ⟨i, o, p, e, n⟩
  · exact g.rsT a h
  · exact g.trk a (List.mem_of_getElem? p)
theorem GRel.free (g : GRel Γ π S H) {a : Addr} (h : H a = none) : ¬ Al Γ.rs π S a := fun z => by
  obtain ⟨o, e⟩ := g.tracked z
  rw [h] at e; cases e

theorem ORel.mono {al al' : Addr → Prop} {a : Addr} {o : O} {rs : List Addr} (k : Keep rs H al π H' al' π') (h : ORel Γ H al π a o) (e : ∀ u, H a = some u → H' a = some u) : ORel Γ H' al' π' a o := by
  cases o with
  | lst ds => obtain ⟨xs, h, r⟩ := h; exact ⟨xs, e _ h, VsRel.mono k _ _ r⟩
  | dct lk kvs =>
    obtain ⟨ks, h, r⟩ := h
    refine ⟨ks, ?_, r.mono k⟩
    cases lk with
    | true => obtain ⟨od, h⟩ := h; exact ⟨od, e _ h⟩
    | false => exact e _ h
  | ins c fs => obtain ⟨dx, gs, h, r⟩ := h; exact ⟨dx, gs, e _ h, r.mono k⟩
  | dtt kvs => exact h.elim
  | gone => trivial

/-- a new thing that is never changed -/
theorem GRel.fresh (g : GRel Γ π S H) {p : Addr} (u : HO) (hp : H p = none) : GRel Γ π S (upd H p u) ∧ Kp Γ π S H π S (upd H p u) := by
  have k : Kp Γ π S H π S (upd H p u) := ⟨fun _ _ h => h, fun a o h _ => by rw [upd_ne (ne_of_none h hp)]; exact h, fun _ n _ => n, fun a h => let ⟨o, h⟩ := g.rsT a h; upd_ne (ne_of_none h hp)⟩
  refine ⟨⟨g.len, g.nd, fun i a o p' e => (g.obj i a o p' e).mono k fun w h => ?_, fun a h => ?_, fun a h => ?_, g.rsN⟩, k⟩
  · rw [upd_ne (ne_of_none h hp)]; exact h
  · obtain ⟨o, h⟩ := g.trk a h
    exact ⟨o, by rw [upd_ne (ne_of_none h hp)]; exact h⟩
  · obtain ⟨o, h⟩ := g.rsT a h
    exact ⟨o, by rw [upd_ne (ne_of_none h hp)]; exact h⟩
/-- a new thing of the store -/
theorem GRel.push (g : GRel Γ π S H) {p : Addr} {u : HO} {o : O} (hp : H p = none)
    (ho : Kp Γ π S H (π ++ [p]) (S ++ [o]) (upd H p u) → ORel Γ (upd H p u) (Al Γ.rs (π ++ [p]) (S ++ [o])) (π ++ [p]) p o) : GRel Γ (π ++ [p]) (S ++ [o]) (upd H p u) ∧ Kp Γ π S H (π ++ [p]) (S ++ [o]) (upd H p u) := by
  have pn : p ∉ π := fun z => by
    obtain ⟨o, h⟩ := g.trk p z
    rw [hp] at h; cases h
  have k : Kp Γ π S H (π ++ [p]) (S ++ [o]) (upd H p u) := by
    refine ⟨fun i a h => ?_, fun a o h _ => by rw [upd_ne (ne_of_none h hp)]; exact h, fun a n ⟨w, h⟩ z => ?_, fun a h => let ⟨o, h⟩ := g.rsT a h; upd_ne (ne_of_none h hp)⟩
    · obtain ⟨hl, _⟩ := List.getElem?_eq_some_iff.mp h
      rw [List.getElem?_append_left hl]; exact h
    · rcases z with z | z
      · exact n (.inl z)
      obtain ⟨i, o', hi, ho', hg⟩ := z
      by_cases hl : i < π.length
      · rw [List.getElem?_append_left hl] at hi
        rw [List.getElem?_append_left (by rw [← g.len]; exact hl)] at ho'
        exact n (.inr ⟨i, o', hi, ho', hg⟩)
      · rw [List.getElem?_append_right (by omega)] at hi
        have : a = p := by
          cases q : i - π.length with
          | zero => rw [q] at hi; simpa using hi.symm
          | succ m => rw [q] at hi; simp at hi
        subst this
        rw [hp] at h; cases h
  refine ⟨⟨by simp [g.len], ?_, fun i a o' hi ho' => ?_, fun a h => ?_, fun a h => ?_, fun a h z => ?_⟩, k⟩
  · rw [List.nodup_append]
    exact ⟨g.nd, by simp, fun a ha b hb => by simp at hb; subst hb; exact fun z => pn (z ▸ ha)⟩
  · by_cases hl : i < π.length
    · rw [List.getElem?_append_left hl] at hi
      rw [List.getElem?_append_left (by rw [← g.len]; exact hl)] at ho'
      exact (g.obj i a o' hi ho').mono k fun w h => by rw [upd_ne (ne_of_none h hp)]; exact h
    · rw [List.getElem?_append_right (by omega)] at hi
      rw [List.getElem?_append_right (by rw [← g.len]; omega)] at ho'
      have e0 : i - π.length = 0 := by
        cases q : i - π.length with
        | zero => rfl
        | succ m => rw [q] at hi; simp at hi
      have e1 : i - S.length = 0 := by rw [← g.len]; exact e0
      rw [e0] at hi
      rw [e1] at ho'
      simp at hi ho'
      subst hi ho'
      exact ho k
  · rcases List.mem_append.mp h with h | h
    · obtain ⟨o, h⟩ := g.trk a h
      exact ⟨o, by rw [upd_ne (ne_of_none h hp)]; exact h⟩
    · simp at h
      subst h
      exact ⟨u, upd_same⟩
  · obtain ⟨o, h⟩ := g.rsT a h
    exact ⟨o, by rw [upd_ne (ne_of_none h hp)]; exact h⟩
  · rcases List.mem_append.mp z with z | z
    · exact g.rsN a h z
    · simp at z
      subst z
      obtain ⟨o, h⟩ := g.rsT a h
      rw [hp] at h; cases h
/-- a thing of the store is changed -/
theorem GRel.put (g : GRel Γ π S H) {i : Nat} {a : Addr} {o o' : O} {u : HO} (hi : π[i]? = some a) (ho : S[i]? = some o) (hn : o.live = true) (hn' : o'.live = true)
    (hu : Kp Γ π S H π (S.set i o') (upd H a u) → ORel Γ (upd H a u) (Al Γ.rs π (S.set i o')) π a o') : GRel Γ π (S.set i o') (upd H a u) ∧ Kp Γ π S H π (S.set i o') (upd H a u) := by
  have il : i < S.length := (List.getElem?_eq_some_iff.mp ho).1
  have live : Al Γ.rs π S a := .inr ⟨i, o, hi, ho, hn⟩
  have same : ∀ b, Al Γ.rs π (S.set i o') b → Al Γ.rs π S b := fun b z => by
    rcases z with z | ⟨j, w, hj, hw, hg⟩
    · exact .inl z
    by_cases h : i = j
    · subst h
      rw [hi] at hj; cases hj
      exact live
    · rw [List.getElem?_set_ne h] at hw
      exact .inr ⟨j, w, hj, hw, hg⟩
  have k : Kp Γ π S H π (S.set i o') (upd H a u) := ⟨fun _ _ h => h, fun b w h n => by rw [upd_ne (fun z => by subst z; exact n live)]; exact h, fun b n _ z => n (same b z), fun b h => upd_ne (fun z => by subst z; exact g.rsN b h (List.mem_of_getElem? hi))⟩
  refine ⟨⟨by simp [g.len], g.nd, fun j b w hj hw => ?_, fun b h => ?_, fun b h => ?_, g.rsN⟩, k⟩
  · by_cases h : i = j
    · subst h
      rw [hi] at hj; cases hj
      rw [List.getElem?_set_self il] at hw
      cases hw
      exact hu k
    · rw [List.getElem?_set_ne h] at hw
      refine (g.obj j b w hj hw).mono k fun v q => ?_
      rw [upd_ne (fun z => ?_)]
      · exact q
      · subst z
        exact h (nd_ix g.nd hi hj)
  · by_cases h' : b = a
    · exact ⟨u, by rw [h']; exact upd_same⟩
    · obtain ⟨w, q⟩ := g.trk b h
      exact ⟨w, by rw [upd_ne h']; exact q⟩
  · by_cases h' : b = a
    · exact ⟨u, by rw [h']; exact upd_same⟩
    · obtain ⟨w, q⟩ := g.rsT b h
      exact ⟨w, by rw [upd_ne h']; exact q⟩
/-- a thing of the store is never changed from here on -/
theorem GRel.freeze (g : GRel Γ π S H) {i : Nat} (il : i < S.length) : GRel Γ π (S.set i .gone) H ∧ Kp Γ π S H π (S.set i .gone) H := by
  have same : ∀ b, Al Γ.rs π (S.set i .gone) b → Al Γ.rs π S b := fun b z => by
    rcases z with z | ⟨j, w, hj, hw, hg⟩
    · exact .inl z
    by_cases h : i = j
    · subst h
      rw [List.getElem?_set_self il] at hw
      cases hw
      cases hg
    · rw [List.getElem?_set_ne h] at hw
      exact .inr ⟨j, w, hj, hw, hg⟩
  have k : Kp Γ π S H π (S.set i .gone) H := ⟨fun _ _ h => h, fun b w h n => h, fun b n _ z => n (same b z), fun _ _ => rfl⟩
  refine ⟨⟨by simp [g.len], g.nd, fun j b w hj hw => ?_, g.trk, g.rsT, g.rsN⟩, k⟩
  by_cases h : i = j
  · subst h
    rw [List.getElem?_set_self il] at hw
    cases hw
    trivial
  · rw [List.getElem?_set_ne h] at hw
    exact (g.obj j b w hj hw).mono k fun v q => q
end

/-! ### the items of a value -/
section
variable {Γ : Gam} {π : List Addr} {S : Sto} {H : Hp}
theorem items_ref {d : D} {v : V} {ds : List D} (g : GRel Γ π S H) (r : VR Γ π S H d v) (e : items d S = some ds) : ∃ a xs, v = .ref a ∧ (SqL Γ.K H a xs ∨ SqT Γ.K H a xs) ∧ VsR Γ π S H ds xs := by
  cases d with
  | tup es =>
    cases e
    simp only [VRel] at r
    obtain ⟨a, xs, e, s, q⟩ := r
    exact ⟨a, xs, e, .inr s.sq, q⟩
  | lst es =>
    cases e
    simp only [VRel] at r
    obtain ⟨a, xs, e, s, q⟩ := r
    exact ⟨a, xs, e, .inl s.sq, q⟩
  | kls es =>
    cases e
    simp only [VRel] at r
    obtain ⟨a, xs, e, s, q⟩ := r
    exact ⟨a, xs, e, .inl s.sq, q⟩
  | ref i =>
    simp only [VRel] at r
    obtain ⟨a, ea, p⟩ := r
    simp only [items] at e
    split at e
    · rename_i es h
      cases e
      obtain ⟨xs, hx, q⟩ := g.obj i a _ p h
      exact ⟨a, xs, ea, .inl (SqL.of hx), q⟩
    · cases e
  | _ => simp [items] at e
theorem litems_ref {d : D} {v : V} {ds : List D} (g : GRel Γ π S H) (r : VR Γ π S H d v) (e : litems d S = some ds) : ∃ a xs, v = .ref a ∧ Rd H a (.lst xs) ∧ VsR Γ π S H ds xs := by
  cases d with
  | lst es =>
    cases e
    simp only [VRel] at r
    obtain ⟨a, xs, e, s, q⟩ := r
    exact ⟨a, xs, e, s.1, q⟩
  | ref i =>
    simp only [VRel] at r
    obtain ⟨a, ea, p⟩ := r
    simp only [litems] at e
    split at e
    · rename_i es h
      cases e
      obtain ⟨xs, hx, q⟩ := g.obj i a _ p h
      exact ⟨a, xs, ea, .inl hx, q⟩
    · cases e
  | _ => simp [litems] at e
end
end Mp

/-! MpS1: the judgements, names, constants, displays, operators, tests, blocks. -/
namespace Mp
open PySem PySem.Spec PyProof.Rows L2

section
variable {Γ : Gam} {W : WX} {X : Cx}

/-- what must hold behind an expression; the state ahead of it: π, S, H -/
def PostR {α β : Type} (Γ : Gam) (W : WX) (σ : L2.St) (π : List Addr) (S : Sto) (H : Hp) (rel : List Addr → Sto → Hp → α → β → Prop) (r : R α) (Q : β → Hp → Prop) : Prop :=
  match r with
  | .ok d S' => ∀ v π' H', GRel Γ π' S' H' → Kp Γ π S H π' S' H' → rel π' S' H' d v → Q v H'
  | .ex c S' => ∀ π' H', GRel Γ π' S' H' → Kp Γ π S H π' S' H' → W (.ref (Γ.xc c)) none σ H'
  | .bad => False
abbrev relD (Γ : Gam) : List Addr → Sto → Hp → D → V → Prop := fun π S H d v => VR Γ π S H d v
abbrev relB : List Addr → Sto → Hp → Bool → Bool → Prop := fun _ _ _ b c => b = c
abbrev relA (Γ : Gam) : List Addr → Sto → Hp → List D → List V → Prop := fun π S H ds vs => VsR Γ π S H ds vs
/-- the readings -/
def tG {α β : Type} (Γ : Gam) (W : WX) (rel : List Addr → Sto → Hp → α → β → Prop) (f : Env → Sto → R α) : L2.St → Hp → (β → Hp → Prop) → Prop :=
  fun σ H Q => ∃ ρ S π, Rel Γ π ρ S σ H ∧ PostR Γ W σ π S H rel (f ρ S) Q
abbrev tM (Γ : Gam) (W : WX) (f : Ev) : TE := tG Γ W (relD Γ) f
abbrev tT (Γ : Gam) (W : WX) (f : Et) : TT := tG Γ W relB f
abbrev tA (Γ : Gam) (W : WX) (f : Ea) : TA := tG Γ W (relA Γ) f
abbrev DE (X : Cx) (Γ : Gam) (W : WX) (e : Expr) (f : Ev) : Prop := PE X e (tM Γ W f)
abbrev DT (X : Cx) (Γ : Gam) (W : WX) (e : Expr) (f : Et) : Prop := PT X e (tT Γ W f)
abbrev DW (X : Cx) (Γ : Gam) (W : WX) (e : Expr) (f : Et) : Prop := PW X e (tT Γ W f)
abbrev DA (X : Cx) (Γ : Gam) (W : WX) (es : List Expr) (f : Ea) : Prop := PA X es (tA Γ W f)

theorem PostR.later {α β : Type} {σ : L2.St} {π π1 : List Addr} {S S1 : Sto} {H H1 : Hp} {rel : List Addr → Sto → Hp → α → β → Prop} {r : R α} {Q : β → Hp → Prop} (k : Kp Γ π S H π1 S1 H1) (h : PostR Γ W σ π S H rel r Q) : PostR Γ W σ π1 S1 H1 rel r Q := by
  cases r with
  | ok d S' => exact fun v π' H' g k' r => h v π' H' g (k.trans k') r
  | ex c S' => exact fun π' H' g k' => h π' H' g (k.trans k')
  | bad => exact h
/-- one after another -/
theorem PostR.bind {α α' β β' : Type} {σ : L2.St} {π : List Addr} {S : Sto} {H : Hp} {rel : List Addr → Sto → Hp → α → β → Prop} {rel' : List Addr → Sto → Hp → α' → β' → Prop} {r : R α} {k : α → Sto → R α'} {Q : β' → Hp → Prop} {Q1 : β → Hp → Prop}
    (h : PostR Γ W σ π S H rel' (r.bind k) Q) (hk : ∀ d S1 v π1 H1, GRel Γ π1 S1 H1 → Kp Γ π S H π1 S1 H1 → rel π1 S1 H1 d v → PostR Γ W σ π1 S1 H1 rel' (k d S1) Q → Q1 v H1) : PostR Γ W σ π S H rel r Q1 := by
  cases r with
  | ok d S' => exact fun v π' H' g k' r => hk d S' v π' H' g k' r (PostR.later k' h)
  | ex c S' => exact h
  | bad => exact h
theorem PostR.okI {α β : Type} {σ : L2.St} {π : List Addr} {S : Sto} {H : Hp} {rel : List Addr → Sto → Hp → α → β → Prop} {d : α} {v : β} {Q : β → Hp → Prop} (g : GRel Γ π S H) (r : rel π S H d v) (h : PostR Γ W σ π S H rel (.ok d S) Q) : Q v H := h v π H g Keep.refl r

theorem PEimp {e : Expr} {t t' : TE} (h : PE X e t) (i : ∀ σ H Q, t' σ H Q → t σ H Q) : PE X e t' := ⟨fun pins s σ H Q I q => h.run pins s σ H Q I (i _ _ _ q)⟩
theorem PTimp {e : Expr} {t t' : TT} (h : PT X e t) (i : ∀ σ H Q, t' σ H Q → t σ H Q) : PT X e t' := ⟨fun pins s σ H Q I q => h.run pins s σ H Q I (i _ _ _ q)⟩
theorem PWimp {e : Expr} {t t' : TT} (h : PW X e t) (i : ∀ σ H Q, t' σ H Q → t σ H Q) : PW X e t' := ⟨fun wh pins s σ H Q I q => h.run wh pins s σ H Q I (i _ _ _ q)⟩
theorem PAimp {e : List Expr} {t t' : TA} (h : PA X e t) (i : ∀ σ H Q, t' σ H Q → t σ H Q) : PA X e t' := ⟨fun pos pins s σ H Q I q => h.run pos pins s σ H Q I (i _ _ _ q)⟩

/-- the start of a reading: an expression, then the rest -/
theorem tG.first {α α' β β' : Type} {rel : List Addr → Sto → Hp → α → β → Prop} {rel' : List Addr → Sto → Hp → α' → β' → Prop} {f : Env → Sto → R α} {k : α → Env → Sto → R α'} {σ : L2.St} {H : Hp} {Q : β' → Hp → Prop} {Q1 : β → Hp → Prop}
    (h : tG Γ W rel' (fun ρ S => (f ρ S).bind fun d S1 => k d ρ S1) σ H Q) (hk : ∀ d v H1 ρ S1 π1, Rel Γ π1 ρ S1 σ H1 → rel π1 S1 H1 d v → PostR Γ W σ π1 S1 H1 rel' (k d ρ S1) Q → Q1 v H1) : tG Γ W rel f σ H Q1 := by
  obtain ⟨ρ, S, π, x, p⟩ := h
  exact ⟨ρ, S, π, x, PostR.bind p fun d S1 v π1 H1 g k r p' => hk d v H1 ρ S1 π1 (x.to g k) r p'⟩

/-! ### names, constants -/
theorem de_var {i : Nat} {x : Str} {pos : Pos} (hN : X.N[i]? = some x := by rfl) (hv : Vis X.env.scope x := by first | exact Or.inl rfl | exact Or.inr (Or.inl rfl) | exact Or.inr (Or.inr rfl)) (hd : (x == ("__debug__" : Str)) = false := by decide)
    (hcd : (x == ("__classdict__" : Str)) = false := by decide) : DE X Γ W (.Name x pos) (eVar i) := by
  refine PEimp (pe_var hN hv hd hcd) fun σ H Q ⟨ρ, S, π, x, p⟩ => ?_
  unfold eVar at p
  split at p
  · rename_i d e
    obtain ⟨v, ev, r⟩ := x.vars i d e
    exact ⟨v, ev, PostR.okI x.g r p⟩
  · exact p.elim
theorem de_c {e : Expr} {v : V} {d : D} (h : PE X e (tC v)) (r : ∀ π S H, VR Γ π S H d v) : DE X Γ W e (eC d) :=
  PEimp h fun σ H Q ⟨ρ, S, π, x, p⟩ => PostR.okI x.g (r π S H) p
theorem de_int {i j pos} : DE X Γ W (.Constant (.int i) j pos) (eC (.int i)) := de_c pe_int fun _ _ _ => by simp only [VRel]
theorem de_bl {i j pos} : DE X Γ W (.Constant (.bool i) j pos) (eC (.bl i)) := de_c pe_bl fun _ _ _ => by simp only [VRel]
theorem de_non {j pos} : DE X Γ W (.Constant .none j pos) (eC .non) := de_c pe_non fun _ _ _ => by simp only [VRel]
theorem de_str {i j pos} : DE X Γ W (.Constant (.str i) j pos) (eC (.str i)) := de_c pe_str fun _ _ _ => by simp only [VRel]
/-- a module's constant -/
theorem de_glob {x : Str} {v : V} {d : D} {u : Value} {pos : Pos} (hg : Gl X x) (hm : X.mg x = some u) (rv : RelV v u) (r : ∀ π S H, VR Γ π S H d v) (hd : (x == ("__debug__" : Str)) = false := by decide) : DE X Γ W (.Name x pos) (eC d) := de_c (pe_glob hg hm rv hd) r

/-! ### displays -/
theorem da_nil : DA X Γ W [] aNil := PAimp pa_nil fun σ H Q ⟨ρ, S, π, x, p⟩ => PostR.okI (rel := relA Γ) x.g VsRel.nil p
theorem da_cons {e : Expr} {es : List Expr} {f : Ev} {g : Ea} (ha : DE X Γ W e f) (hr : DA X Γ W es g) (hs : starEach (e :: es) X.env = (false, eval e X.env) :: starEach es X.env := by rfl) : DA X Γ W (e :: es) (aCons f g) := by
  refine PAimp (pa_cons ha hr hs) fun σ H Q h => ?_
  refine tG.first h fun d v H1 ρ S1 π1 x r p => ?_
  refine ⟨ρ, S1, π1, x, PostR.bind p fun ds S2 vs π2 H2 g2 k2 r2 p2 => ?_⟩
  exact PostR.okI (rel := relA Γ) g2 (VsRel.cons (VRel.mono k2 _ _ r) r2) p2
theorem lineEq : sizeLine = line := sizeLine_eq
/-- a new tuple -/
theorem post_tup {σ : L2.St} {π : List Addr} {S : Sto} {H : Hp} {ds : List D} {xs : List V} {Q : VK} (g : GRel Γ π S H) (r : VsR Γ π S H ds xs) (p : PostR Γ W σ π S H (relD Γ) (.ok (.tup ds) S) Q) : NewT H xs Q := fun a ob ha hd => by
  obtain ⟨g', k'⟩ := g.fresh (.frz ob (.tup xs)) ha
  refine p (.ref a) π _ g' k' ?_
  show VRel _ _ _ _ _ _
  simp only [VRel]
  exact ⟨a, xs, rfl, .inl ⟨ob, upd_same, hd, g.free ha⟩, VsRel.mono k' _ _ r⟩
theorem de_tup {es : List Expr} {f : Ea} {x1 pos} (h : DA X Γ W es f) : DE X Γ W (.Tuple es x1 pos) (eTup f) := by
  refine PEimp (pe_tupZ h) fun σ H Q h => ?_
  refine tG.first h fun ds vs H1 ρ S1 π1 x r p => ?_
  split at p
  · rename_i hl
    exact ⟨by rw [lineEq, ← VsRel.length r]; exact hl, post_tup x.g r p⟩
  · exact p.elim
theorem de_lst {es : List Expr} {f : Ea} {pos} (h : DA X Γ W es f) : DE X Γ W (.List es pos) (eLst f) := by
  refine PEimp (pe_lst h) fun σ H Q h => ?_
  refine tG.first h fun ds vs H1 ρ S1 π1 x r p => ?_
  split at p
  · rename_i hl
    refine ⟨by rw [lineEq, ← VsRel.length r]; exact hl, fun a ha => ?_⟩
    obtain ⟨g, k⟩ := x.g.fresh (.lst vs) ha
    refine p (.ref a) π1 _ g k ?_
    show VRel _ _ _ _ _ _
    simp only [VRel]
    exact ⟨a, vs, rfl, ⟨.inl upd_same, x.g.free ha⟩, VsRel.mono k _ _ r⟩
  · exact p.elim
theorem de_lstM {es : List Expr} {f : Ea} {pos} (h : DA X Γ W es f) : DE X Γ W (.List es pos) (eLstM f) := by
  refine PEimp (pe_lst h) fun σ H Q h => ?_
  refine tG.first h fun ds vs H1 ρ S1 π1 x r p => ?_
  split at p
  · rename_i hl
    refine ⟨by rw [lineEq, ← VsRel.length r]; exact hl, fun a ha => ?_⟩
    obtain ⟨g, k⟩ := x.g.push (u := .lst vs) (o := .lst ds) ha fun k => ⟨vs, upd_same, VsRel.mono k _ _ r⟩
    refine p (.ref a) _ _ g k ?_
    show VRel _ _ _ _ _ _
    simp only [VRel]
    exact ⟨a, rfl, by rw [← x.g.len]; simp⟩
  · exact p.elim

/-! ### operators, by values -/
/-- g says what r asks -/
def OpD (Γ : Gam) (r : R2) (g : D → D → Sto → R D) : Prop := ∀ (W : WX) (σ : L2.St) π S H a b x y Q, GRel Γ π S H → VR Γ π S H a x → VR Γ π S H b y → PostR Γ W σ π S H (relD Γ) (g a b S) Q → r x y H Q
theorem tOp_of {r : R2} {g : D → D → Sto → R D} {fa fb : Ev} (ho : OpD Γ r g) {σ : L2.St} {H : Hp} {Q : VK} (h : tM Γ W (eBin g fa fb) σ H Q) : tOp r (tM Γ W fa) (tM Γ W fb) σ H Q := by
  refine tG.first h fun d v H1 ρ S1 π1 x r1 p => ?_
  refine ⟨ρ, S1, π1, x, PostR.bind p fun e S2 y π2 H2 g2 k2 r2 p2 => ?_⟩
  exact ho W σ π2 S2 H2 d e v y Q g2 (VRel.mono k2 _ _ r1) r2 p2
theorem de_op {op : Operator} {r : R2} {g : D → D → Sto → R D} {a b : Expr} {fa fb : Ev} {pos : Pos} (hr : OpR X (binaryOp op) r) (ho : OpD Γ r g) (ha : DE X Γ W a fa) (hb : DE X Γ W b fb) : DE X Γ W (.BinOp a op b pos) (eBin g fa fb) :=
  PEimp (pe_op hr ha hb) fun σ H Q h => tOp_of ho h
theorem de_cmp {op : CmpOp} {r : R2} {g : D → D → Sto → R D} {a b : Expr} {fa fb : Ev} {pos : Pos} (hr : OpR X (compareOp op) r) (ho : OpD Γ r g) (ha : DE X Γ W a fa) (hb : DE X Γ W b fb) (hm : behindInMarks op b = false := by first | exact nomark _ | rfl) : DE X Γ W (.Compare a [op] [b] pos) (eBin g fa fb) :=
  PEimp (pe_cmpR hr ha hb hm) fun σ H Q h => tOp_of ho h
theorem dt_cmp {op : CmpOp} {r : R2} {g : D → D → Sto → R D} {a b : Expr} {fa fb : Ev} {pos : Pos} (hr : OpR X (compareOp op) r) (ho : OpD Γ r g) (ha : DE X Γ W a fa) (hb : DE X Γ W b fb) (hm : behindInMarks op b = false := by first | exact nomark _ | rfl) : DT X Γ W (.Compare a [op] [b] pos) (tCmp g fa fb) := by
  refine PTimp (pt_cmpR hr ha hb hm) fun σ H Q h => tOp_of ho ?_
  refine tG.first h fun d v H1 ρ S1 π1 x r1 p => ?_
  cases d with
  | bl k =>
    simp only [relD, VRel] at r1
    exact ⟨k, r1, PostR.okI (rel := relB) x.g rfl p⟩
  | _ => exact p.elim
theorem tChain_of {r r' : R2} {g g' : D → D → Sto → R D} {fa fb fc : Ev} (ho : OpD Γ r g) (ho' : OpD Γ r' g') {σ : L2.St} {H : Hp} {Q : VK} (h : tM Γ W (eChain g g' fa fb fc) σ H Q) : L2.tChain r r' (tM Γ W fa) (tM Γ W fb) (tM Γ W fc) σ H Q := by
  refine tG.first h fun d v H1 ρ S1 π1 x r1 p => ?_
  refine ⟨ρ, S1, π1, x, PostR.bind p fun e S2 y π2 H2 g2 k2 r2 p2 => ?_⟩
  have x2 := x.to g2 k2
  refine ho W σ π2 S2 H2 d e v y _ g2 (VRel.mono k2 _ _ r1) r2 (PostR.bind p2 fun z S3 zv π3 H3 g3 k3 r3 p3 => ?_)
  cases z with
  | bl k =>
    simp only [relD, VRel] at r3
    refine ⟨k, r3, ?_⟩
    cases k with
    | true =>
      rw [if_pos rfl]
      refine ⟨ρ, S3, π3, x2.to g3 k3, PostR.bind p3 fun w S4 wv π4 H4 g4 k4 r4 p4 => ?_⟩
      exact ho' W σ π4 S4 H4 e w y wv Q g4 (VRel.mono (k3.trans k4) _ _ r2) r4 p4
    | false =>
      rw [if_neg Bool.false_ne_true]
      exact PostR.okI (rel := relD Γ) g3 (by simp only [relD, VRel]) p3
  | _ => exact p3.elim
theorem de_chain {op op' : CmpOp} {r r' : R2} {g g' : D → D → Sto → R D} {a b c : Expr} {fa fb fc : Ev} {pos : Pos} (hr : OpR X (compareOp op) r) (hr' : OpR X (compareOp op') r') (ho : OpD Γ r g) (ho' : OpD Γ r' g') (ha : DE X Γ W a fa) (hb : DE X Γ W b fb) (hc : DE X Γ W c fc)
    (hm : lastMarks [op, op'] [b, c] = false := by with_unfolding_all rfl) : DE X Γ W (.Compare a [op, op'] [b, c] pos) (eChain g g' fa fb fc) := PEimp (pe_chain hr hr' ha hb hc hm) fun σ H Q h => tChain_of ho ho' h
theorem tVal_of {f : Ev} {σ : L2.St} {H : Hp} {Q : Bool → Hp → Prop} (h : tT Γ W (tVal f) σ H Q) : tM Γ W f σ H fun x H1 => ∃ k, x = .bl k ∧ Q k H1 := by
  refine tG.first h fun d v H1 ρ S1 π1 x r1 p => ?_
  cases d with
  | bl k =>
    simp only [relD, VRel] at r1
    exact ⟨k, r1, PostR.okI (rel := relB) x.g rfl p⟩
  | _ => exact p.elim
theorem dt_chain {op op' : CmpOp} {r r' : R2} {g g' : D → D → Sto → R D} {a b c : Expr} {fa fb fc : Ev} {pos : Pos} (hr : OpR X (compareOp op) r) (hr' : OpR X (compareOp op') r') (ho : OpD Γ r g) (ho' : OpD Γ r' g') (ha : DE X Γ W a fa) (hb : DE X Γ W b fb) (hc : DE X Γ W c fc)
    (hm : lastMarks [op, op'] [b, c] = false := by with_unfolding_all rfl) : DT X Γ W (.Compare a [op, op'] [b, c] pos) (tVal (eChain g g' fa fb fc)) := PTimp (pt_chain hr hr' ha hb hc hm) fun σ H Q h => tChain_of ho ho' (tVal_of h)
/-- one value -/
def UnD (Γ : Gam) (r : V → Hp → VK → Prop) (g : D → Sto → R D) : Prop := ∀ (W : WX) (σ : L2.St) π S H a x Q, GRel Γ π S H → VR Γ π S H a x → PostR Γ W σ π S H (relD Γ) (g a S) Q → r x H Q
theorem de_un {op : UnaryOp} {r : V → Hp → VK → Prop} {g : D → Sto → R D} {a : Expr} {fa : Ev} {pos : Pos} (hr : UnR X (unaryOp op) r) (ho : UnD Γ r g) (ha : DE X Γ W a fa) : DE X Γ W (.UnaryOp op a pos) (eUn g fa) := by
  refine PEimp (pe_un hr ha) fun σ H Q h => ?_
  exact tG.first h fun d v H1 ρ S1 π1 x r1 p => ho W σ π1 S1 H1 d v Q x.g r1 p

/-! ### truth, tests -/
theorem truth_ok {π : List Addr} {S : Sto} {H : Hp} {d : D} {v : V} {b : Bool} (g : GRel Γ π S H) (r : VR Γ π S H d v) (h : truth d S = some b) : TruV Γ.K v H b := by
  have em : ∀ {ds : List D} {xs : List V}, VsR Γ π S H ds xs → ds.isEmpty = xs.isEmpty := fun {ds xs} q => by
    have := VsRel.length q
    cases ds <;> cases xs <;> simp at this ⊢
  cases d with
  | non => simp only [VRel] at r; subst r; simp only [truth] at h; cases h; rfl
  | bl k => simp only [VRel] at r; subst r; simp only [truth] at h; cases h; rfl
  | int i => simp only [VRel] at r; subst r; simp only [truth] at h; cases h; rfl
  | str z =>
    simp only [VRel] at r; subst r; simp only [truth] at h
    split at h
    · rename_i hl
      cases h
      exact ⟨by rw [lineEq]; exact hl, rfl⟩
    · cases h
  | tup ds =>
    simp only [VRel] at r
    obtain ⟨a, xs, rfl, s, q⟩ := r
    simp only [truth] at h; cases h
    exact .inr (.inl ⟨xs, s.sq, by rw [em q]⟩)
  | lst ds =>
    simp only [VRel] at r
    obtain ⟨a, xs, rfl, s, q⟩ := r
    simp only [truth] at h; cases h
    exact .inl ⟨xs, s.sq, by rw [em q]⟩
  | kls ds =>
    simp only [VRel] at r
    obtain ⟨a, xs, rfl, s, q⟩ := r
    simp only [truth] at h; cases h
    exact .inl ⟨xs, s.sq, by rw [em q]⟩
  | dct ks vs => simp [truth] at h
  | ref i =>
    simp only [VRel] at r
    obtain ⟨a, rfl, p⟩ := r
    simp only [truth] at h
    split at h
    · rename_i ds e
      cases h
      obtain ⟨xs, hx, q⟩ := g.obj i a _ p e
      exact .inl ⟨xs, SqL.of hx, by rw [em q]⟩
    · rename_i kvs e
      cases h
      obtain ⟨ks, hx, q⟩ := g.obj i a _ p e
      refine .inr (.inr ⟨ks, hx, ?_⟩)
      cases kvs with
      | nil => cases (show ks = [] from q); rfl
      | cons p r => obtain ⟨_, _, _, e, _⟩ := q; subst e; rfl
    · cases h
end
end Mp

/-! MpS2: tests, statements, loops, comprehensions. -/
namespace Mp
open PySem PySem.Spec PyProof.Rows L2

structure Ct (X : Cx) (Γ : Gam) (W : WX) (k : Nat) : Prop where
  K : X.K = Γ.K
  calm : X.calm = true
  nd : X.N.Nodup
  room : Room k X.A
  tk : Takes X W
  own : PassesOwn (model X.prog X.w) X.A X.env X.xe

section
variable {Γ : Gam} {W : WX} {X : Cx} {k : Nat}

/-! ### tests -/
theorem tru_of (hK : X.K = Γ.K) {f : Ev} {σ : L2.St} {H : Hp} {Q : Bool → Hp → Prop} (h : tT Γ W (tTru f) σ H Q) : tM Γ W f σ H fun x H1 => ∃ k, TruV X.K x H1 k ∧ Q k H1 := by
  refine tG.first h fun d v H1 ρ S1 π1 x r1 p => ?_
  split at p
  · rename_i b e
    exact ⟨b, by rw [hK]; exact truth_ok x.g r1 e, PostR.okI (rel := relB) x.g rfl p⟩
  · exact p.elim
theorem dt_tru (hK : X.K = Γ.K) {a : Expr} {f : Ev} (ha : DE X Γ W a f) (he : ∀ whole, isTrue a X.env whole = (do let v ← whole; standAt a.pos; holding [v] (truthy v)) := by intro _; rfl) : DT X Γ W a (tTru f) :=
  PTimp (pt_truth ha he) fun σ H Q h => tru_of hK h
theorem dt_not {a : Expr} {t : Et} {pos : Pos} (ha : DT X Γ W a t) : DT X Γ W (.UnaryOp .Not a pos) (tNot t) :=
  PTimp (pt_not ha) fun σ H Q h => tG.first h fun b c H1 ρ S1 π1 x r p => by
    cases r
    exact PostR.okI (rel := relB) x.g rfl p
theorem dw_and1 {a : Expr} {t : Et} {pos : Pos} (ha : DT X Γ W a t) : DW X Γ W (.BoolOp .And [a] pos) t := pw_and1 ha
theorem dw_or1 {a : Expr} {t : Et} {pos : Pos} (ha : DT X Γ W a t) : DW X Γ W (.BoolOp .Or [a] pos) t := pw_or1 ha
theorem dw_and {a b : Expr} {rest : List Expr} {t u : Et} {pos : Pos} (ha : DT X Γ W a t) (hb : DW X Γ W (.BoolOp .And (b :: rest) pos) u) : DW X Γ W (.BoolOp .And (a :: b :: rest) pos) (tAnd t u) :=
  PWimp (pw_and ha hb) fun σ H Q h => tG.first h fun b c H1 ρ S1 π1 x r p => by
    cases r
    cases b with
    | true => exact (by rw [if_pos rfl]; exact ⟨ρ, S1, π1, x, p⟩)
    | false => exact (by rw [if_neg Bool.false_ne_true]; exact PostR.okI (rel := relB) x.g rfl p)
theorem dw_or {a b : Expr} {rest : List Expr} {t u : Et} {pos : Pos} (ha : DT X Γ W a t) (hb : DW X Γ W (.BoolOp .Or (b :: rest) pos) u) : DW X Γ W (.BoolOp .Or (a :: b :: rest) pos) (tOr t u) :=
  PWimp (pw_or ha hb) fun σ H Q h => tG.first h fun b c H1 ρ S1 π1 x r p => by
    cases r
    cases b with
    | false => exact (by rw [if_neg Bool.false_ne_true]; exact ⟨ρ, S1, π1, x, p⟩)
    | true => exact (by rw [if_pos rfl]; exact PostR.okI (rel := relB) x.g rfl p)
theorem dt_w {a : Expr} {t : Et} (h : DW X Γ W a t) : DT X Γ W a t := h.pt
/-- as values -/
theorem de_one {op} {a : Expr} {f : Ev} {pos : Pos} (h : DE X Γ W a f) : DE X Γ W (.BoolOp op [a] pos) f := pe_one h
theorem de_and (hK : X.K = Γ.K) {a b : Expr} {rest : List Expr} {f g : Ev} {pos : Pos} (ha : DE X Γ W a f) (hb : DE X Γ W (.BoolOp .And (b :: rest) pos) g) : DE X Γ W (.BoolOp .And (a :: b :: rest) pos) (eAnd f g) :=
  PEimp (pe_andT ha hb) fun σ H Q h => tG.first h fun d v H1 ρ S1 π1 x r p => by
    try dsimp only at p
    split at p
    · rename_i e
      exact ⟨true, by rw [hK]; exact truth_ok x.g r e, by rw [if_pos rfl]; exact ⟨ρ, S1, π1, x, p⟩⟩
    · rename_i e
      exact ⟨false, by rw [hK]; exact truth_ok x.g r e, by rw [if_neg Bool.false_ne_true]; exact PostR.okI x.g r p⟩
    · exact p.elim
theorem de_or (hK : X.K = Γ.K) {a b : Expr} {rest : List Expr} {f g : Ev} {pos : Pos} (ha : DE X Γ W a f) (hb : DE X Γ W (.BoolOp .Or (b :: rest) pos) g) : DE X Γ W (.BoolOp .Or (a :: b :: rest) pos) (eOr f g) :=
  PEimp (pe_orT ha hb) fun σ H Q h => tG.first h fun d v H1 ρ S1 π1 x r p => by
    try dsimp only at p
    split at p
    · rename_i e
      exact ⟨true, by rw [hK]; exact truth_ok x.g r e, by rw [if_pos rfl]; exact PostR.okI x.g r p⟩
    · rename_i e
      exact ⟨false, by rw [hK]; exact truth_ok x.g r e, by rw [if_neg Bool.false_ne_true]; exact ⟨ρ, S1, π1, x, p⟩⟩
    · exact p.elim
theorem de_not (hK : X.K = Γ.K) {a : Expr} {f : Ev} {pos : Pos} (ha : DE X Γ W a f) : DE X Γ W (.UnaryOp .Not a pos) (eNot f) :=
  PEimp (pe_notT ha) fun σ H Q h => tG.first h fun d v H1 ρ S1 π1 x r p => by
    try dsimp only at p
    split at p
    · rename_i b e
      exact ⟨b, by rw [hK]; exact truth_ok x.g r e, PostR.okI (d := D.bl (!b)) (v := V.bl (!b)) x.g (by simp only [relD, VRel]) p⟩
    · exact p.elim
theorem de_if {c a b : Expr} {t : Et} {f g : Ev} {pos : Pos} (hc : DT X Γ W c t) (ha : DE X Γ W a f) (hb : DE X Γ W b g) : DE X Γ W (.IfExp c a b pos) (eIf t f g) :=
  PEimp (pe_ifExp hc ha hb) fun σ H Q h => tG.first h fun b c H1 ρ S1 π1 x r p => by
    cases r
    cases b with
    | true => rw [if_pos rfl]; exact ⟨ρ, S1, π1, x, p⟩
    | false => rw [if_neg Bool.false_ne_true]; exact ⟨ρ, S1, π1, x, p⟩

/-! ### statements -/
def PostS (Γ : Gam) (W : WX) (E : Ends) (π : List Addr) (S : Sto) (H : Hp) : Out → Prop
  | .nx ρ' S' => ∀ σ' π' H', Rel Γ π' ρ' S' σ' H' → Kp Γ π S H π' S' H' → E.nx σ' H'
  | .rt d S' => ∀ v π' H', GRel Γ π' S' H' → Kp Γ π S H π' S' H' → VR Γ π' S' H' d v → E.rt v H'
  | .bk ρ' S' => ∀ σ' π' H', Rel Γ π' ρ' S' σ' H' → Kp Γ π S H π' S' H' → E.bk σ' H'
  | .ct ρ' S' => ∀ σ' π' H', Rel Γ π' ρ' S' σ' H' → Kp Γ π S H π' S' H' → E.ct σ' H'
  | .ex c ρ' S' => ∀ σ' π' H', Rel Γ π' ρ' S' σ' H' → Kp Γ π S H π' S' H' → W (.ref (Γ.xc c)) none σ' H'
  | .bad => False
def tS (Γ : Gam) (W : WX) (f : Ex) : TS := fun E σ H => ∃ ρ S π, Rel Γ π ρ S σ H ∧ PostS Γ W E π S H (f ρ S)
abbrev DS (X : Cx) (Γ : Gam) (W : WX) (st : Stmt) (f : Ex) : Prop := PS X st (tS Γ W f)
abbrev DSs (X : Cx) (Γ : Gam) (W : WX) (st : List Stmt) (f : Ex) : Prop := PSs X st (tS Γ W f)
theorem PostS.later {E : Ends} {π π1 : List Addr} {S S1 : Sto} {H H1 : Hp} {o : Out} (k : Kp Γ π S H π1 S1 H1) (h : PostS Γ W E π S H o) : PostS Γ W E π1 S1 H1 o := by
  cases o with
  | nx ρ S' => exact fun σ' π' H' x k' => h σ' π' H' x (k.trans k')
  | rt d S' => exact fun v π' H' g k' r => h v π' H' g (k.trans k') r
  | bk ρ S' => exact fun σ' π' H' x k' => h σ' π' H' x (k.trans k')
  | ct ρ S' => exact fun σ' π' H' x k' => h σ' π' H' x (k.trans k')
  | ex c ρ S' => exact fun σ' π' H' x k' => h σ' π' H' x (k.trans k')
  | bad => exact h
theorem PSimp {st : Stmt} {t t' : TS} (h : PS X st t) (i : ∀ E σ H, t' E σ H → t E σ H) : PS X st t' := ⟨fun pins s σ H E I q => h.run pins s σ H E I (i _ _ _ q)⟩
theorem PSsimp {st : List Stmt} {t t' : TS} (h : PSs X st t) (i : ∀ E σ H, t' E σ H → t E σ H) : PSs X st t' := ⟨fun pins s σ H E I q => h.run pins s σ H E I (i _ _ _ q)⟩
/-- an expression at the start of a statement -/
theorem tS.first {α β : Type} {rel : List Addr → Sto → Hp → α → β → Prop} {f : Env → Sto → R α} {k : α → Env → Sto → Out} {σ : L2.St} {H : Hp} {E : Ends} {Q1 : β → Hp → Prop}
    (h : tS Γ W (fun ρ S => (f ρ S).then ρ fun d S1 => k d ρ S1) E σ H) (hk : ∀ d v H1 ρ S1 π1, Rel Γ π1 ρ S1 σ H1 → rel π1 S1 H1 d v → PostS Γ W E π1 S1 H1 (k d ρ S1) → Q1 v H1) : tG Γ W rel f σ H Q1 := by
  obtain ⟨ρ, S, π, x, p⟩ := h
  refine ⟨ρ, S, π, x, ?_⟩
  dsimp only at p
  cases e : f ρ S with
  | ok d S' => rw [e] at p; exact fun v π' H' g k' r => hk d v H' ρ S' π' (x.to g k') r (PostS.later k' p)
  | ex c S' => rw [e] at p; exact fun π' H' g k' => p σ π' H' (x.to g k') k'
  | bad => rw [e] at p; exact p
theorem PostS.nxI {E : Ends} {π : List Addr} {S : Sto} {H : Hp} {ρ : Env} {σ : L2.St} (x : Rel Γ π ρ S σ H) (h : PostS Γ W E π S H (.nx ρ S)) : E.nx σ H := h σ π H x Keep.refl

theorem dss_nil : DSs X Γ W [] sNil := PSsimp pss_nil fun E σ H ⟨ρ, S, π, x, p⟩ => PostS.nxI x p
theorem dss_cons {st : Stmt} {rest : List Stmt} {f g : Ex} (h1 : DS X Γ W st f) (h2 : DSs X Γ W rest g) : DSs X Γ W (st :: rest) (sSeq f g) := by
  refine PSsimp (pss_cons h1 h2) fun E σ H ⟨ρ, S, π, x, p⟩ => ?_
  refine ⟨ρ, S, π, x, ?_⟩
  unfold sSeq at p
  cases e : f ρ S with
  | nx ρ1 S1 => rw [e] at p; exact fun σ' π' H' x' k' => ⟨ρ1, S1, π', x', PostS.later k' p⟩
  | rt d S' => rw [e] at p; exact p
  | bk ρ S' => rw [e] at p; exact p
  | ct ρ S' => rw [e] at p; exact p
  | ex c ρ S' => rw [e] at p; exact p
  | bad => rw [e] at p; exact p
theorem dss_one {st : Stmt} {f : Ex} (h1 : DS X Γ W st f) : DSs X Γ W [st] f := pss_one h1
theorem ds_pass {pos} : DS X Γ W (.Pass pos) sNil := PSimp ps_pass fun E σ H ⟨ρ, S, π, x, p⟩ => PostS.nxI x p
theorem ds_break {pos} : DS X Γ W (.Break pos) sBreak := PSimp ps_break fun E σ H ⟨ρ, S, π, x, p⟩ => p σ π H x Keep.refl
theorem ds_continue {pos} : DS X Γ W (.Continue pos) sCont := PSimp ps_continue fun E σ H ⟨ρ, S, π, x, p⟩ => p σ π H x Keep.refl
theorem ds_expr {e : Expr} {f : Ev} {pos : Pos} (he : DE X Γ W e f) (hs : swapsWith e none pos.line X.env = pure false := by rfl) : DS X Γ W (.Expr e pos) (sExpr f) :=
  PSimp (ps_expr he hs) fun E σ H h => tS.first h fun d v H1 ρ S1 π1 x r p => PostS.nxI x p
theorem ds_ret {e : Expr} {f : Ev} {pos : Pos} (he : DE X Γ W e f) : DS X Γ W (.Return (some e) pos) (sRet f) :=
  PSimp (ps_ret he) fun E σ H h => tS.first h fun d v H1 ρ S1 π1 x r p => p v π1 H1 x.g Keep.refl r
theorem ds_retN {pos : Pos} : DS X Γ W (.Return none pos) (sRet (eC .non)) :=
  PSimp ps_retN fun E σ H ⟨ρ, S, π, x, p⟩ => p .non π H x.g Keep.refl (by simp only [VRel])
theorem ds_set {i : Nat} {x : Str} {e : Expr} {f : Ev} {pos pos' : Pos} (hN : X.N.Nodup) (hi : X.N[i]? = some x) (hx : Loc X.env.scope x) (he : DE X Γ W e f) (hs : swapsWith e (some (.Name x pos')) pos.line X.env = pure false := by rfl)
    (hf : X.fn x = true ∨ X.env.scope.names.lookup x = some .local := by first | exact .inl rfl | exact .inr rfl | assumption) : DS X Γ W (.Assign [.Name x pos'] e pos) (sSet i f) :=
  PSimp (ps_set hN hi hx he hs hf) fun E σ H h => tS.first h fun d v H1 ρ S1 π1 x r p => p _ π1 H1 (x.set i r) Keep.refl
theorem ds_if {c : Expr} {a b : List Stmt} {t : Et} {f g : Ex} {pos : Pos} (hc : DT X Γ W c t) (ha : DSs X Γ W a f) (hb : DSs X Γ W b g) : DS X Γ W (.If c a b pos) (sIf t f g) :=
  PSimp (ps_if hc ha hb) fun E σ H h => tS.first h fun d v H1 ρ S1 π1 x r p => by
    cases r
    cases d with
    | true => rw [if_pos rfl]; exact ⟨ρ, S1, π1, x, p⟩
    | false => rw [if_neg Bool.false_ne_true]; exact ⟨ρ, S1, π1, x, p⟩

/-! ### targets -/
/-- the slots of a target change, no others -/
def SlotsOnly (l : List Nat) (σ σ' : L2.St) : Prop := σ'.length = σ.length ∧ ∀ j, j ∉ l → σ'[j]? = σ[j]?
def gG (Γ : Gam) (tg : Tg) : TG := fun v σ H Q => ∃ ρ S π d ρ1, Rel Γ π ρ S σ H ∧ VR Γ π S H d v ∧ tg.asg d S ρ = some ρ1 ∧ ∀ σ', Rel Γ π ρ1 S σ' H → SlotsOnly tg.slots σ σ' → Q σ' H
def gGs (Γ : Gam) (ts : List Tg) : TGs := fun vs σ H Q => ∃ ρ S π ds ρ1, Rel Γ π ρ S σ H ∧ VsR Γ π S H ds vs ∧ ds.length = ts.length ∧ Tg.asgs ts ds S ρ = some ρ1 ∧ ∀ σ', Rel Γ π ρ1 S σ' H → SlotsOnly (Tg.slotss ts) σ σ' → Q σ' H
abbrev DG (X : Cx) (Γ : Gam) (e : Expr) (tg : Tg) : Prop := PG X e (gG Γ tg)
abbrev DGs (X : Cx) (Γ : Gam) (es : List Expr) (ts : List Tg) : Prop := PGs X es (gGs Γ ts)
theorem PGimp {e : Expr} {t t' : TG} (h : PG X e t) (i : ∀ v σ H Q, t' v σ H Q → t v σ H Q) : PG X e t' := ⟨fun pins s σ H v u Q I r q => h.run pins s σ H v u Q I r (i _ _ _ _ q)⟩
theorem PGsimp {e : List Expr} {t t' : TGs} (h : PGs X e t) (i : ∀ v σ H Q, t' v σ H Q → t v σ H Q) : PGs X e t' := ⟨fun pins s σ H v u Q I r q => h.run pins s σ H v u Q I r (i _ _ _ _ q)⟩
theorem dg_name {i : Nat} {x : Str} {pos : Pos} (hN : X.N.Nodup) (hi : X.N[i]? = some x) (hx : Loc X.env.scope x) (hf : X.fn x = true ∨ X.env.scope.names.lookup x = some .local := by first | exact .inl rfl | exact .inr rfl | assumption) : DG X Γ (.Name x pos) (.nm i) := by
  refine PGimp (pg_name hN hi hx hf) fun v σ H Q ⟨ρ, S, π, d, ρ1, x, r, e, h⟩ => ?_
  simp only [Tg.asg] at e
  cases e
  refine h _ (x.set i r) ⟨by simp, fun j hj => ?_⟩
  rw [List.getElem?_set_ne]
  intro z
  exact hj (by simp [Tg.slots, z])
theorem dgs_nil : DGs X Γ [] [] := by
  refine PGsimp pgs_nil fun v σ H Q ⟨ρ, S, π, ds, ρ1, x, r, hl, e, h⟩ => ?_
  have e0 : ds = [] := by simpa using hl
  subst e0
  simp only [VsRel] at r
  simp only [Tg.asgs] at e
  cases e
  exact ⟨r, h σ x ⟨rfl, fun _ _ => rfl⟩⟩
theorem dgs_cons {e : Expr} {es : List Expr} {t : Tg} {ts : List Tg} (h1 : DG X Γ e t) (h2 : DGs X Γ es ts)
    (hs : (assignEach (e :: es) X.env).map (·.2) = assign e X.env :: (assignEach es X.env).map (·.2) := by rfl) : DGs X Γ (e :: es) (t :: ts) := by
  refine PGsimp (pgs_cons h1 h2 hs) fun vs σ H Q ⟨ρ, S, π, ds, ρ1, x, r, hl, e, h⟩ => ?_
  cases ds with
  | nil => simp at hl
  | cons d ds =>
    simp only [VsRel] at r
    obtain ⟨v, rv, rfl, r1, r2⟩ := r
    simp only [Tg.asgs] at e
    split at e
    · rename_i ρ2 e2
      refine ⟨v, rv, rfl, ρ, S, π, d, ρ2, x, r1, e2, fun σ' x' s' => ?_⟩
      refine ⟨ρ2, S, π, ds, ρ1, x', r2, by simpa using hl, e, fun σ2 x2 s2 => h σ2 x2 ⟨s2.1.trans s'.1, fun j hj => ?_⟩⟩
      simp only [Tg.slotss, List.mem_append, not_or] at hj
      rw [s2.2 j hj.2, s'.2 j hj.1]
    · cases e
/-- a tuple (or a list) in parts -/
theorem pg_seq {es : List Expr} {k : Nat} {t : TGs} {n : Nat} {pos : Pos} (hc : X.calm = true) (h : PGs X es t)
    (hn : (assignEach es X.env).length = n := by rfl) (hst : (assignEach es X.env).findIdx? (·.1) = none := by rfl) : PG X (.Tuple es k pos) (fun v σ H Q => gTup X.K n t v σ H Q ∨ gLst X.K n t v σ H Q) :=
  ⟨fun pins s σ H v u Q I r hw => hw.elim ((pg_tup hc h hn hst).run pins s σ H v u Q I r) ((pg_lst hc h hn hst).run pins s σ H v u Q I r)⟩
theorem dg_tup {es : List Expr} {j : Nat} {ts : List Tg} {pos : Pos} (C : Ct X Γ W k) (h : DGs X Γ es ts) (hn : (assignEach es X.env).length = ts.length := by rfl) (hst : (assignEach es X.env).findIdx? (·.1) = none := by rfl) : DG X Γ (.Tuple es j pos) (.tp ts) := by
  refine PGimp (pg_seq C.calm h hn hst) fun v σ H Q ⟨ρ, S, π, d, ρ1, x, r, e, h⟩ => ?_
  simp only [Tg.asg] at e
  split at e
  · rename_i ds hi
    split at e
    · rename_i hl
      obtain ⟨a, xs, rfl, sq, rs⟩ := items_ref x.g r hi
      have fin : gGs Γ ts xs σ H Q := ⟨ρ, S, π, ds, ρ1, x, rs, hl, e, fun σ' x' s' => h σ' x' (by simpa only [Tg.slots] using s')⟩
      rcases sq with sq | sq
      · exact .inr ⟨a, xs, rfl, by rw [C.K]; exact sq, by rw [← VsRel.length rs]; exact hl, fin⟩
      · exact .inl ⟨a, xs, rfl, by rw [C.K]; exact sq, by rw [← VsRel.length rs]; exact hl, fin⟩
    · cases e
  · cases e
theorem ds_asg {tg : Tg} {t e : Expr} {f : Ev} {pos : Pos} (he : DE X Γ W e f) (hg : DG X Γ t tg) (hs : swapsWithSole [t] e pos.line X.env = pure false := by rfl) (hw : swappedStores [t] e X.env = pure none := by rfl)
    (h1 : (assignEach [t] X.env).map (·.2) = [assign t X.env] := by rfl) : DS X Γ W (.Assign [t] e pos) (sAsg tg f) :=
  PSimp (ps_asg he hg hs hw h1) fun E σ H h => tS.first h fun d v H1 ρ S1 π1 x r p => by
    try dsimp only at p
    split at p
    · rename_i ρ1 e1
      exact ⟨ρ, S1, π1, d, ρ1, x, r, e1, fun σ' x' _ => p σ' π1 H1 x' Keep.refl⟩
    · exact p.elim
end
end Mp

/-! MpS3: what is walked; for, while, comprehensions. -/
namespace Mp
open PySem PySem.Spec PyProof.Rows L2

/-- the walk yields these items, while the walked thing stands; rs': what is being built then -/
def Walks (Γ : Gam) (J : It) (w : Wk) (π0 : List Addr) (S0 : Sto) (H0 : Hp) : Prop := ∀ (i : Nat) (rs' : List Addr) π S H, GRel { Γ with rs := rs' } π S H → Keep Γ.rs H0 (Al Γ.rs π0 S0) π0 H (Al rs' π S) π → w.still S →
  (∀ d, w.ds[i]? = some d → J.go i H ∧ ∀ x H', J.yld i H x H' → GRel { Γ with rs := rs' } π S H' ∧ Kp { Γ with rs := rs' } π S H π S H' ∧ VR { Γ with rs := rs' } π S H' d x) ∧ (i = w.ds.length → J.stop i H)
def PostI (Γ : Gam) (W : WX) (σ : L2.St) (π : List Addr) (S : Sto) (H : Hp) (r : R Wk) (Q : It → Hp → Prop) : Prop :=
  match r with
  | .ok w S' => ∀ J π' H', GRel Γ π' S' H' → Kp Γ π S H π' S' H' → Walks Γ J w π' S' H' → Q J H'
  | .ex c S' => ∀ π' H', GRel Γ π' S' H' → Kp Γ π S H π' S' H' → W (.ref (Γ.xc c)) none σ H'
  | .bad => False
def tI (Γ : Gam) (W : WX) (f : Ei) : TI := fun σ H Q => ∃ ρ S π, Rel Γ π ρ S σ H ∧ PostI Γ W σ π S H (f ρ S) Q
abbrev DI (X : Cx) (Γ : Gam) (W : WX) (tg iter : Expr) (f : Ei) : Prop := PI X tg iter (tI Γ W f)

section
variable {Γ : Gam} {W : WX} {X : Cx} {k : Nat}
theorem PIimp {tg e : Expr} {t t' : TI} (h : PI X tg e t) (i : ∀ σ H Q, t' σ H Q → t σ H Q) : PI X tg e t' := ⟨fun pins s σ H Q I q => h.run pins s σ H Q I (i _ _ _ q)⟩
theorem PostI.later {σ : L2.St} {π π1 : List Addr} {S S1 : Sto} {H H1 : Hp} {r : R Wk} {Q : It → Hp → Prop} (k : Kp Γ π S H π1 S1 H1) (h : PostI Γ W σ π S H r Q) : PostI Γ W σ π1 S1 H1 r Q := by
  cases r with
  | ok d S' => exact fun v π' H' g k' r => h v π' H' g (k.trans k') r
  | ex c S' => exact fun π' H' g k' => h π' H' g (k.trans k')
  | bad => exact h
theorem tI.first {α β : Type} {rel : List Addr → Sto → Hp → α → β → Prop} {f : Env → Sto → R α} {kk : α → Env → Sto → R Wk} {σ : L2.St} {H : Hp} {Q : It → Hp → Prop} {Q1 : β → Hp → Prop}
    (h : tI Γ W (fun ρ S => (f ρ S).bind fun d S1 => kk d ρ S1) σ H Q) (hk : ∀ d v H1 ρ S1 π1, Rel Γ π1 ρ S1 σ H1 → rel π1 S1 H1 d v → PostI Γ W σ π1 S1 H1 (kk d ρ S1) Q → Q1 v H1) : tG Γ W rel f σ H Q1 := by
  obtain ⟨ρ, S, π, x, p⟩ := h
  refine ⟨ρ, S, π, x, ?_⟩
  dsimp only at p
  cases e : f ρ S with
  | ok d S' => rw [e] at p; exact fun v π' H' g k' r => hk d v H' ρ S' π' (x.to g k') r (PostI.later k' p)
  | ex c S' => rw [e] at p; exact p
  | bad => rw [e] at p; exact p
theorem PostI.okI {σ : L2.St} {π : List Addr} {S : Sto} {H : Hp} {w : Wk} {J : It} {Q : It → Hp → Prop} (g : GRel Γ π S H) (r : Walks Γ J w π S H) (h : PostI Γ W σ π S H (.ok w S) Q) : Q J H := h J π H g Keep.refl r

/-! ### for -/
theorem for_of {wi : TI} {tg : Tg} {it : Ei} {b : Ex} {E : Ends} {σ : L2.St} {H : Hp} (h : tS Γ W (sFor it tg b) E σ H) : tFor (tI Γ W it) (gG Γ tg) (tS Γ W b) E σ H := by
  obtain ⟨ρ, S, π, x, p⟩ := h
  unfold sFor at p
  refine ⟨ρ, S, π, x, ?_⟩
  cases e : it ρ S with
  | bad => rw [e] at p; exact p
  | ex c S' => rw [e] at p; exact fun π' H' g k' => p σ π' H' (x.to g k') k'
  | ok w S0 =>
    rw [e] at p
    intro J π0 H0 g0 k0 wk
    have p0 : PostS Γ W E π0 S0 H0 (fLoop tg b w w.ds ρ S0) := PostS.later k0 p
    refine ⟨fun i m σ H => ∃ ρ S π, Rel Γ π ρ S σ H ∧ Kp Γ π0 S0 H0 π S H ∧ m = w.ds.length - i ∧ i ≤ w.ds.length ∧ PostS Γ W E π S H (fLoop tg b w (w.ds.drop i) ρ S),
      ⟨w.ds.length, ρ, S0, π0, x.to g0 k0, Keep.refl, by simp, Nat.zero_le _, by simpa using p0⟩, ?_⟩
    rintro i m σ1 H1 ⟨ρ1, S1, π1, x1, k1, rfl, hi, p1⟩
    by_cases hlt : i < w.ds.length
    · right
      have hd : w.ds.drop i = w.ds[i] :: w.ds.drop (i + 1) := List.drop_eq_getElem_cons hlt
      rw [hd] at p1
      unfold fLoop at p1
      split at p1
      · rename_i st
        split at p1
        · exact p1.elim
        · rename_i ρ2 ea
          obtain ⟨go, yl⟩ := (wk i Γ.rs π1 S1 H1 x1.g k1 st).1 _ (List.getElem?_eq_getElem hlt)
          refine ⟨go, fun σ' H' => ∃ ρ' S' π', Rel Γ π' ρ' S' σ' H' ∧ Kp Γ π1 S1 H1 π' S' H' ∧ PostS Γ W E π' S' H' (fLoop tg b w (w.ds.drop (i + 1)) ρ' S'), ?_, ?_⟩
          · rintro σ' H' ⟨ρ', S', π', x', k', p'⟩
            exact ⟨w.ds.length - (i + 1), by omega, ρ', S', π', x', k1.trans k', rfl, hlt, p'⟩
          · intro v H' hy
            obtain ⟨g', k', r'⟩ := yl v H' hy
            refine ⟨ρ1, S1, π1, _, ρ2, x1.to g' k', r', ea, fun σ' x' s' => ⟨ρ2, S1, π1, x', ?_⟩⟩
            have p2 := PostS.later k' p1
            cases eb : b ρ2 S1 with
            | nx ρ3 S3 => rw [eb] at p2; exact fun σ'' π'' H'' x'' k'' => ⟨ρ3, S3, π'', x'', k'.trans k'', PostS.later k'' p2⟩
            | ct ρ3 S3 => rw [eb] at p2; exact fun σ'' π'' H'' x'' k'' => ⟨ρ3, S3, π'', x'', k'.trans k'', PostS.later k'' p2⟩
            | bk ρ3 S3 => rw [eb] at p2; exact p2
            | rt d S3 => rw [eb] at p2; exact p2
            | ex c ρ3 S3 => rw [eb] at p2; exact p2
            | bad => rw [eb] at p2; exact p2
      · exact p1.elim
    · left
      have ei : i = w.ds.length := by omega
      have hd : w.ds.drop i = [] := List.drop_eq_nil_of_le (by omega)
      rw [hd] at p1
      unfold fLoop at p1
      split at p1
      · rename_i st
        exact ⟨(wk i Γ.rs π1 S1 H1 x1.g k1 st).2 ei, PostS.nxI x1 p1⟩
      · exact p1.elim
theorem ds_for {iter t : Expr} {body : List Stmt} {it : Ei} {tg : Tg} {b : Ex} {pos : Pos} (C : Ct X Γ W k) (hi : DI X Γ W t iter it) (hg : DG X Γ t tg) (hb : DSs X Γ W body b)
    (hs : ∀ x, foldedSetIterable iter X.env x = pure x := by intro _; rfl) : DS X Γ W (.For t iter body [] pos) (sFor it tg b) :=
  PSimp (ps_for C.own C.calm hi hg hb hs) fun E σ H h => for_of (wi := tI Γ W it) h

/-! ### while -/
theorem ds_while {c : Expr} {body : List Stmt} {t : Et} {b : Ex} {n : Nat} {pos : Pos} (C : Ct X Γ W k) (hc : DT X Γ W c t) (hb : DSs X Γ W body b) : DS X Γ W (.While c body [] pos) (sWhile n t b) := by
  refine PSimp (ps_while C.own hc hb) fun E σ H h => ?_
  obtain ⟨ρ, S, π, x, p⟩ := h
  refine ⟨fun m σ H => ∃ ρ S π, Rel Γ π ρ S σ H ∧ PostS Γ W E π S H (wLoop t b m ρ S), ⟨n, ρ, S, π, x, p⟩, ?_⟩
  rintro m σ1 H1 ⟨ρ1, S1, π1, x1, p1⟩
  cases m with
  | zero => exact p1.elim
  | succ m =>
    unfold wLoop at p1
    refine ⟨ρ1, S1, π1, x1, ?_⟩
    cases et : t ρ1 S1 with
    | bad => rw [et] at p1; exact p1
    | ex c S2 => rw [et] at p1; exact fun π' H' g k' => p1 σ1 π' H' (x1.to g k') k'
    | ok c S2 =>
      rw [et] at p1
      intro v π2 H2 g2 k2 r2
      cases r2
      have x2 := x1.to g2 k2
      have p2 := PostS.later k2 p1
      cases c with
      | false => rw [if_neg Bool.false_ne_true]; exact PostS.nxI x2 p2
      | true =>
        rw [if_pos rfl]
        refine ⟨fun σ' H' => ∃ ρ' S' π', Rel Γ π' ρ' S' σ' H' ∧ PostS Γ W E π' S' H' (wLoop t b m ρ' S'), fun σ' H' h => ⟨m, Nat.lt_succ_self m, h⟩, ρ1, S2, π2, x2, ?_⟩
        cases eb : b ρ1 S2 with
        | nx ρ3 S3 => simp only [eb] at p2; exact fun σ'' π'' H'' x'' k'' => ⟨ρ3, S3, π'', x'', PostS.later k'' p2⟩
        | ct ρ3 S3 => simp only [eb] at p2; exact fun σ'' π'' H'' x'' k'' => ⟨ρ3, S3, π'', x'', PostS.later k'' p2⟩
        | bk ρ3 S3 => simp only [eb] at p2; exact p2
        | rt d S3 => simp only [eb] at p2; exact p2
        | ex c ρ3 S3 => simp only [eb] at p2; exact p2
        | bad => simp only [eb] at p2; exact p2.elim

/-! ### what is walked -/
theorem Wk.still_none {ds : List D} {S : Sto} : (⟨ds, []⟩ : Wk).still S := fun i h => by cases h
theorem walks_list {a : Addr} {xs : List V} {ds : List D} {π : List Addr} {S : Sto} {H : Hp} (l : LstK Γ.K H (Al Γ.rs π S) a xs) (r : VsR Γ π S H ds xs) : Walks Γ (Itl Γ.K a) ⟨ds, []⟩ π S H := by
  intro i rs' π1 S1 H1 g1 k1 _
  have l1 : SqL Γ.K H1 a xs := (k1.lstK l).sq
  have r1 := VsRel.mono k1 _ _ r
  refine ⟨fun d hd => ?_, fun e => ⟨xs, l1, by rw [e, VsRel.length r]; exact Nat.le_refl _⟩⟩
  obtain ⟨v, hv, rv⟩ := r1.get hd
  refine ⟨⟨xs, v, l1, hv⟩, fun x H' ⟨e, hy⟩ => ?_⟩
  subst e
  refine ⟨g1, Keep.refl, ?_⟩
  have := hy xs l1
  rw [hv] at this
  cases this
  exact rv
theorem walks_tup {a : Addr} {xs : List V} {ds : List D} {π : List Addr} {S : Sto} {H : Hp} (l : TupAt Γ.K H (Al Γ.rs π S) a xs) (r : VsR Γ π S H ds xs) : Walks Γ (Itt Γ.K a) ⟨ds, []⟩ π S H := by
  intro i rs' π1 S1 H1 g1 k1 _
  have l1 := (k1.tup l).sq
  have r1 := VsRel.mono k1 _ _ r
  refine ⟨fun d hd => ?_, fun e => ⟨xs, l1, by rw [e, VsRel.length r]; exact Nat.le_refl _⟩⟩
  obtain ⟨v, hv, rv⟩ := r1.get hd
  refine ⟨⟨xs, v, l1, hv⟩, fun x H' ⟨e, hy⟩ => ?_⟩
  subst e
  refine ⟨g1, Keep.refl, ?_⟩
  have := hy xs l1
  rw [hv] at this
  cases this
  exact rv
/-- a list of the store: it stands as it is through the loop -/
theorem walks_ref {i0 : Nat} {a : Addr} {ds : List D} {π : List Addr} {S : Sto} {H : Hp} (ha : π[i0]? = some a) : Walks Γ (Itl Γ.K a) ⟨ds, [(i0, ds)]⟩ π S H := by
  intro i rs' π1 S1 H1 g1 k1 st
  have e1 : S1[i0]? = some (.lst ds) := st (i0, ds) (List.mem_singleton.mpr rfl)
  obtain ⟨xs, hx, r⟩ := g1.obj i0 a _ (k1.pre _ _ ha) e1
  have l1 : SqL Γ.K H1 a xs := SqL.of hx
  refine ⟨fun d hd => ?_, fun e => ⟨xs, l1, by rw [e, VsRel.length r]; exact Nat.le_refl _⟩⟩
  obtain ⟨v, hv, rv⟩ := r.get hd
  refine ⟨⟨xs, v, l1, hv⟩, fun x H' ⟨e, hy⟩ => ?_⟩
  subst e
  refine ⟨g1, Keep.refl, ?_⟩
  have := hy xs l1
  rw [hv] at this
  cases this
  exact rv
theorem pi_or {tg e : Expr} {t u : TI} (h : PI X tg e t) (h' : PI X tg e u) : PI X tg e (fun σ H Q => t σ H Q ∨ u σ H Q) :=
  ⟨fun pins s σ H Q I q => q.elim (h.run pins s σ H Q I) (h'.run pins s σ H Q I)⟩
end

/-- a sequence that is walked, by its value -/
def iSeqT (K : PySem.W.Frag) (tl : TE) : TI := fun σ H R => tl σ H fun x H1 => ∃ a, x = .ref a ∧ ((∃ xs, SqL K H1 a xs) ∧ R (Itl K a) H1 ∨ (∃ xs, SqT K H1 a xs) ∧ R (Itt K a) H1)
theorem pi_seq {X : Cx} {tg l : Expr} {tl : TE} (hl : PE X l tl) : PI X tg l (iSeqT X.K tl) := by
  refine ⟨fun pins s σ H R I h => ?_⟩
  refine thn (hl.run pins s σ H _ I h) fun v s1 ⟨x, H1, I1, r1, q1⟩ => ?_
  obtain ⟨a, e, ⟨⟨xs, hq⟩, q⟩ | ⟨⟨xs, hq⟩, q⟩⟩ := q1
  · subst e
    cases r1
    obtain ⟨its, rv, p, hz⟩ := I1.list hq
    refine wpAny_pyIter_list p.isList ?_
    refine ⟨s1.heap.objs.size, [s1.heap.objs.size], _, _, H1, rfl, I1.kept (t' := s1.toks) fun b o e => Heap.get?_push_of_some _ e, turn_list a _, ⟨_, Heap.get?_push_size _ rfl, rfl, rfl⟩, fun b hb => ?_, q⟩
    have e : b = s1.heap.objs.size := by simpa using hb
    subst e
    exact I1.fpOk (Nat.le_refl _) (I1.hok.fresh (Nat.le_refl _))
  · subst e
    cases r1
    obtain ⟨its, rv, p, hz⟩ := I1.tuple hq
    refine wpAny_pyIter_tuple (show s1.heap.IsTuple a its.toArray from p) ?_
    refine ⟨s1.heap.objs.size, [s1.heap.objs.size], _, _, H1, rfl, I1.kept (t' := s1.toks) fun b o e => Heap.get?_push_of_some _ e, turn_tuple a _, ⟨_, Heap.get?_push_size _ rfl, rfl, rfl⟩, fun b hb => ?_, q⟩
    have e : b = s1.heap.objs.size := by simpa using hb
    subst e
    exact I1.fpOk (Nat.le_refl _) (I1.hok.fresh (Nat.le_refl _))
section
variable {Γ : Gam} {W : WX} {X : Cx} {k : Nat}
theorem di_seq (C : Ct X Γ W k) {tg e : Expr} {f : Ev} (h : DE X Γ W e f) : DI X Γ W tg e (iSeq f) := by
  refine PIimp (pi_seq h) fun σ H Q h => tI.first h fun d v H1 ρ S1 π1 x r p => ?_
  try dsimp only at p
  split at p
  · rename_i ds hi
    cases d with
    | tup es =>
      cases hi
      simp only [relD, VRel] at r
      obtain ⟨a, xs, rfl, s, q⟩ := r
      refine ⟨a, rfl, .inr ⟨⟨xs, by rw [C.K]; exact s.sq⟩, ?_⟩⟩
      rw [C.K]
      exact PostI.okI x.g (walks_tup s q) p
    | lst es =>
      cases hi
      simp only [relD, VRel] at r
      obtain ⟨a, xs, rfl, s, q⟩ := r
      refine ⟨a, rfl, .inl ⟨⟨xs, by rw [C.K]; exact s.sq⟩, ?_⟩⟩
      rw [C.K]
      exact PostI.okI x.g (walks_list (.inl s) q) p
    | kls es =>
      cases hi
      simp only [relD, VRel] at r
      obtain ⟨a, xs, rfl, s, q⟩ := r
      refine ⟨a, rfl, .inl ⟨⟨xs, by rw [C.K]; exact s.sq⟩, ?_⟩⟩
      rw [C.K]
      exact PostI.okI x.g (walks_list s q) p
    | ref i =>
      obtain ⟨a, xs, ea, sq, q⟩ := items_ref x.g r hi
      simp only [relD, VRel] at r
      obtain ⟨a', ea', pa⟩ := r
      subst ea
      cases ea'
      simp only [items] at hi
      split at hi
      · rename_i es he
        cases hi
        obtain ⟨xs', hx, _⟩ := x.g.obj i a _ pa he
        refine ⟨a, rfl, .inl ⟨⟨xs', SqL.of hx⟩, ?_⟩⟩
        rw [C.K]
        exact PostI.okI x.g (walks_ref pa) p
      · cases hi
    | _ => simp [items] at hi
  · exact p.elim
/-- the signs of a text -/
theorem walks_str {z : Str} {π : List Addr} {S : Sto} {H : Hp} : Walks Γ (Its z) ⟨z.cps.toList.map fun c => .str ⟨#[c]⟩, []⟩ π S H := by
  intro i rs' π1 S1 H1 g1 k1 _
  refine ⟨fun d hd => ?_, fun e => ?_⟩
  · rw [List.getElem?_map] at hd
    cases ec : z.cps.toList[i]? with
    | none => rw [ec] at hd; cases hd
    | some c =>
      rw [ec] at hd
      cases hd
      have ec' : z.cps[i]? = some c := by simpa using ec
      have hl : i < z.cps.size := (Array.getElem?_eq_some_iff.mp ec').1
      refine ⟨hl, fun x H' ⟨e, c', hc', ex⟩ => ?_⟩
      subst e
      rw [ec'] at hc'
      cases hc'
      subst ex
      exact ⟨g1, Keep.refl, by simp only [VRel]⟩
  · show z.cps.size ≤ i
    rw [e]
    simp
theorem di_str (C : Ct X Γ W k) {tg e : Expr} {f : Ev} (h : DE X Γ W e f) : DI X Γ W tg e (iStr f) := by
  refine PIimp (pi_str h) fun σ H Q h => tI.first h fun d v H1 ρ S1 π1 x r p => ?_
  cases d with
  | str z =>
    simp only [relD, VRel] at r
    exact ⟨z, r, PostI.okI x.g walks_str p⟩
  | _ => exact p.elim
theorem upto_get : ∀ (n : Nat) (lo : Int) (i : Nat) d, (upto lo n)[i]? = some d → i < n ∧ d = .int (lo + i)
  | 0, lo, i, d, h => by simp [upto] at h
  | n + 1, lo, 0, d, h => by simp [upto] at h; exact ⟨Nat.succ_pos _, by simp [← h]⟩
  | n + 1, lo, i + 1, d, h => by
    simp only [upto, List.getElem?_cons_succ] at h
    obtain ⟨h1, h2⟩ := upto_get n (lo + 1) i d h
    exact ⟨by omega, by rw [h2]; congr 1; omega⟩
theorem upto_length : ∀ (n : Nat) (lo : Int), (upto lo n).length = n
  | 0, lo => rfl
  | n + 1, lo => by simp [upto, upto_length n]
theorem walks_range {lo : Int} {n : Nat} {π : List Addr} {S : Sto} {H : Hp} : Walks Γ (Itr lo n) ⟨upto lo n, []⟩ π S H := by
  intro i rs' π1 S1 H1 g1 k1 _
  refine ⟨fun d hd => ?_, fun e => ?_⟩
  · obtain ⟨hl, rfl⟩ := upto_get n lo i d hd
    refine ⟨hl, fun x H' ⟨e, ex⟩ => ?_⟩
    subst e
    subst ex
    exact ⟨g1, Keep.refl, by simp only [VRel]⟩
  · show n ≤ i
    rw [e]
    exact Nat.le_of_eq (upto_length n lo).symm
theorem di_range1 (C : Ct X Γ W k) {tg a : Expr} {f : Ev} {p pos : Pos} (hg : Gl X "range") (hm : X.mg "range" = none) (ha : DE X Γ W a f) (hs : starEach [a] X.env = [(false, eval a X.env)] := by rfl) : DI X Γ W tg (.Call (.Name "range" p) [a] [] pos) (iRng1 (aCons f aNil)) := by
  refine PIimp (pi_range1 hg hm (da_cons ha da_nil hs) hs) fun σ H Q h => tI.first h fun ds vs H1 ρ S1 π1 x r q => ?_
  have hl := VsRel.length r
  try dsimp only at q
  split at q
  · rename_i j
    split at q
    · rename_i hj
      simp only [relA, VsRel, VRel] at r
      obtain ⟨v, r, rfl, rfl, rfl⟩ := r
      exact ⟨j, rfl, hj.1, hj.2, PostI.okI x.g walks_range q⟩
    · exact q.elim
  · exact q.elim
theorem di_range2 (C : Ct X Γ W k) {tg a b : Expr} {f g : Ev} {p pos : Pos} (hg : Gl X "range") (hm : X.mg "range" = none) (ha : DE X Γ W a f) (hb : DE X Γ W b g) (hs : starEach [a, b] X.env = [(false, eval a X.env), (false, eval b X.env)] := by rfl) (hs2 : starEach [b] X.env = [(false, eval b X.env)] := by rfl) :
    DI X Γ W tg (.Call (.Name "range" p) [a, b] [] pos) (iRng2 (aCons f (aCons g aNil))) := by
  refine PIimp (pi_range2 hg hm (da_cons ha (da_cons hb da_nil hs2) (by rw [hs, hs2])) hs hs2) fun σ H Q h => tI.first h fun ds vs H1 ρ S1 π1 x r q => ?_
  try dsimp only at q
  split at q
  · rename_i i j
    split at q
    · rename_i hj
      simp only [relA, VsRel, VRel] at r
      obtain ⟨v, r, rfl, rfl, v2, r2, rfl, rfl, rfl⟩ := r
      exact ⟨i, j, rfl, ⟨hj.1.1, hj.1.2, hj.2.1, hj.2.2⟩, PostI.okI x.g walks_range q⟩
    · exact q.elim
  · exact q.elim
end
end Mp

/-! MpS4: comprehensions. -/
namespace Mp
open PySem PySem.Spec PyProof.Rows L2

abbrev Gam.res (Γ : Gam) (a : Addr) : Gam := { Γ with rs := a :: Γ.rs }
abbrev W0 : WX := fun _ _ _ _ => False

theorem wipe_get (vs : List Nat) : ∀ (ρ : Env) (i : Nat), (wipe ρ vs)[i]? = if i ∈ vs then (if i < ρ.length then some none else none) else ρ[i]? := by
  induction vs with
  | nil => intro ρ i; simp [wipe]
  | cons j vs ih =>
    intro ρ i
    show (wipe (ρ.set j none) vs)[i]? = _
    rw [ih]
    by_cases h : i ∈ vs
    · simp [h]
    · by_cases h2 : i = j
      · subst h2
        simp [h, List.getElem?_set]
      · simp [h, h2, List.getElem?_set_ne (Ne.symm h2)]
theorem wipe_len (vs : List Nat) : ∀ ρ : Env, (wipe ρ vs).length = ρ.length := by
  induction vs with
  | nil => intro ρ; rfl
  | cons j vs ih =>
    intro ρ
    show (wipe (ρ.set j none) vs).length = _
    rw [ih]; simp
theorem wipeV_get : ∀ (vs : List Nat) (σ : L2.St) (i : Nat), (L2.wipe σ vs)[i]? = if i ∈ vs then (if i < σ.length then some none else none) else σ[i]? := by
  intro vs
  induction vs with
  | nil => intro σ i; simp [L2.wipe]
  | cons j vs ih =>
    intro σ i
    by_cases h : i ∈ vs
    · have : i ∈ j :: vs := List.mem_cons_of_mem _ h
      rw [if_pos this]
      simp only [L2.wipe]
      first
        | (rw [ih]; simp [h])
        | (by_cases h2 : i = j
           · subst h2; rw [List.getElem?_set]; simp [L2.wipe_length]
           · rw [List.getElem?_set_ne (Ne.symm h2), ih]; simp [h])
    · by_cases h2 : i = j
      · subst h2
        simp only [L2.wipe]
        first
          | (rw [ih]; simp [h, List.getElem?_set])
          | (rw [List.getElem?_set]; simp [L2.wipe_length])
      · have : ¬ i ∈ j :: vs := by simp [h, h2]
        rw [if_neg this]
        simp only [L2.wipe]
        first
          | (rw [ih]; simp [h, List.getElem?_set_ne (Ne.symm h2)])
          | (rw [List.getElem?_set_ne (Ne.symm h2), ih]; simp [h])
theorem wipeV_eq {vs l : List Nat} {σ σ' : L2.St} (h : SlotsOnly l (L2.wipe σ vs) σ') (hl : ∀ j ∈ l, j ∈ vs) : L2.wipe σ' vs = L2.wipe σ vs := by
  apply List.ext_getElem?
  intro i
  rw [wipeV_get, wipeV_get]
  have e : σ'.length = σ.length := by rw [h.1, L2.wipe_length]
  rw [e]
  by_cases hi : i ∈ vs
  · simp [hi]
  · rw [if_neg hi, if_neg hi, h.2 i (fun z => hi (hl i z)), wipeV_get, if_neg hi]

section
variable {Γ : Gam} {W : WX} {X : Cx} {k : Nat} {π π' : List Addr} {ρ : Env} {S S' : Sto} {σ : L2.St} {H H' : Hp} {D0 : Addr}
theorem Rel.wipe (x : Rel Γ π ρ S σ H) (vs : List Nat) : Rel Γ π (wipe ρ vs) S (L2.wipe σ vs) H :=
  ⟨x.g, by rw [wipe_len, L2.wipe_length]; exact x.len, fun i d e => by
    rw [wipe_get] at e
    by_cases hi : i ∈ vs
    · rw [if_pos hi] at e
      split at e <;> cases e
    · rw [if_neg hi] at e
      obtain ⟨v, e', r⟩ := x.vars i d e
      exact ⟨v, by rw [wipeV_get, if_neg hi]; exact e', r⟩⟩
theorem Al.weak {a : Addr} (h : Al Γ.rs π S a) : Al (D0 :: Γ.rs) π S a := h.imp (List.mem_cons_of_mem _) id
/-- fewer things are being built -/
theorem VRel.weak {al al' : Addr → Prop} {K : PySem.W.Frag} (h : ∀ a, al' a → al a) {d : D} {v : V} (r : VRel K H al π d v) : VRel K H al' π d v :=
  VRel.mono (rs := []) ⟨fun _ _ h => h, fun _ _ h _ => h, fun a n _ z => n (h a z), fun _ _ => rfl⟩ d v r
theorem VsRel.weak {al al' : Addr → Prop} {K : PySem.W.Frag} (h : ∀ a, al' a → al a) {d : List D} {v : List V} (r : VsRel K H al π d v) : VsRel K H al' π d v :=
  VsRel.mono (rs := []) ⟨fun _ _ h => h, fun _ _ h _ => h, fun a n _ z => n (h a z), fun _ _ => rfl⟩ d v r
theorem GRel.unres (g : GRel (Γ.res D0) π S H) : GRel Γ π S H :=
  ⟨g.len, g.nd, fun i a o p e => (ORel.mono (Γ := Γ) (rs := []) ⟨fun _ _ h => h, fun _ _ h _ => h, fun a n _ z => n (Al.weak z), fun _ _ => rfl⟩ (g.obj i a o p e) fun _ h => h), g.trk, fun a h => g.rsT a (List.mem_cons_of_mem _ h), fun a h => g.rsN a (List.mem_cons_of_mem _ h)⟩
/-- a new thing that is being built -/
theorem GRel.reserve (g : GRel Γ π S H) (hn : H D0 = none) (u : HO) : GRel (Γ.res D0) π S (upd H D0 u) ∧ Keep Γ.rs H (Al Γ.rs π S) π (upd H D0 u) (Al (D0 :: Γ.rs) π S) π := by
  have ne : ∀ a o, H a = some o → a ≠ D0 := fun a o h => ne_of_none h hn
  have k : Keep Γ.rs H (Al Γ.rs π S) π (upd H D0 u) (Al (D0 :: Γ.rs) π S) π := by
    refine ⟨fun _ _ h => h, fun a o h _ => by rw [upd_ne (ne a o h)]; exact h, fun a n ⟨o, h⟩ z => ?_, fun a h => let ⟨o, h⟩ := g.rsT a h; upd_ne (ne a o h)⟩
    rcases z with z | z
    · rcases List.mem_cons.mp z with e | z
      · exact ne a o h e
      · exact n (.inl z)
    · exact n (.inr z)
  refine ⟨⟨g.len, g.nd, fun i a o p e => (ORel.mono (Γ := Γ.res D0) k (g.obj i a o p e) fun w h => by rw [upd_ne (ne a w h)]; exact h), fun a h => ?_, fun a h => ?_, fun a h z => ?_⟩, k⟩
  · obtain ⟨o, h⟩ := g.trk a h
    exact ⟨o, by rw [upd_ne (ne a o h)]; exact h⟩
  · rcases List.mem_cons.mp h with e | h
    · exact ⟨u, by rw [e]; exact upd_same⟩
    · obtain ⟨o, h⟩ := g.rsT a h
      exact ⟨o, by rw [upd_ne (ne a o h)]; exact h⟩
  · rcases List.mem_cons.mp h with e | h
    · obtain ⟨o, q⟩ := g.trk a z
      exact ne a o q e
    · exact g.rsN a h z
/-- what is being built is changed -/
theorem GRel.resUpd (g : GRel (Γ.res D0) π S H) (u : HO) : GRel (Γ.res D0) π S (upd H D0 u) ∧ Keep [] H (Al (D0 :: Γ.rs) π S) π (upd H D0 u) (Al (D0 :: Γ.rs) π S) π := by
  have k : Keep [] H (Al (D0 :: Γ.rs) π S) π (upd H D0 u) (Al (D0 :: Γ.rs) π S) π :=
    ⟨fun _ _ h => h, fun a o h n => by rw [upd_ne (fun z => n (.inl (by rw [z]; exact List.mem_cons_self)))]; exact h, fun a n _ => n, fun a h => absurd h (by simp)⟩
  refine ⟨⟨g.len, g.nd, fun i a o p e => (ORel.mono (Γ := Γ.res D0) k (g.obj i a o p e) fun w h => ?_), fun a h => ?_, fun a h => ?_, g.rsN⟩, k⟩
  · rw [upd_ne (fun z => by subst z; exact g.rsN _ List.mem_cons_self (List.mem_of_getElem? p))]; exact h
  · by_cases z : a = D0
    · exact ⟨u, by rw [z]; exact upd_same⟩
    · obtain ⟨o, q⟩ := g.trk a h
      exact ⟨o, by rw [upd_ne z]; exact q⟩
  · by_cases z : a = D0
    · exact ⟨u, by rw [z]; exact upd_same⟩
    · obtain ⟨o, q⟩ := g.rsT a h
      exact ⟨o, by rw [upd_ne z]; exact q⟩

/-- readings by whatever is being built -/
theorem PEex {ι : Type} {e : Expr} {t : ι → TE} (h : ∀ i, PE X e (t i)) : PE X e (fun σ H Q => ∃ i, t i σ H Q) := ⟨fun pins s σ H Q I ⟨i, q⟩ => (h i).run pins s σ H Q I q⟩
theorem PTsex {ι : Type} {e : List Expr} {t : ι → TT} (h : ∀ i, PTs X e (t i)) : PTs X e (fun σ H Q => ∃ i, t i σ H Q) := ⟨fun pins s σ H Q I ⟨i, q⟩ => (h i).run pins s σ H Q I q⟩
theorem PGex {ι : Type} {e : Expr} {t : ι → TG} (h : ∀ i, PG X e (t i)) : PG X e (fun v σ H Q => ∃ i, t i v σ H Q) := ⟨fun pins s σ H v u Q I r ⟨i, q⟩ => (h i).run pins s σ H v u Q I r q⟩

theorem Ct.blk (C : Ct X Γ W k) (s : Shared) (H : Hp) (scope : Scope) (cenv : PySem.Env) (fp : List Addr) (D0 : Addr) : Ct (X.blk s H scope cenv fp) (Γ.res D0) W0 k :=
  ⟨C.K, C.calm, C.nd, C.room, takes0, PassesOwn.never⟩

theorem comp_of {it : Ei} {tg : Tg} {t : Et} {e : Ev} {vs : List Nat} {Q : VK} (hsl : ∀ j ∈ tg.slots, j ∈ vs) (h : tM Γ W (eComp it tg t e vs) σ H Q) :
    tLc (tI Γ W it) (fun v σ H Q => ∃ D0, gG (Γ.res D0) tg v σ H Q) (fun σ H Q => ∃ D0, tT (Γ.res D0) W0 t σ H Q) (fun σ H Q => ∃ D0, tM (Γ.res D0) W0 e σ H Q) vs σ H Q := by
  obtain ⟨ρ, S, π, x, p⟩ := h
  refine ⟨ρ, S, π, x, ?_⟩
  unfold eComp at p
  cases ei : it ρ S with
  | bad => rw [ei] at p; exact p
  | ex c S' => rw [ei] at p; exact p
  | ok w S0 =>
    rw [ei] at p
    intro J π0 H0 g0 k0 wk D0 hD
    have p0 := PostR.later (r := (R.ok w S0).bind _) k0 p
    generalize hds : w.ds = ds at p0
    have p1 : PostR Γ W σ π0 S0 H0 (relD Γ) ((cLoop tg t e w (wipe ρ vs) ds [] S0).bind fun ys S2 => .ok (.lst ys) S2) Q := by rw [← hds]; exact p0
    have x0 := (x.to g0 k0).wipe vs
    obtain ⟨gr, kr⟩ := g0.reserve hD (.lst [])
    have nD0 : ∀ a o, H0 a = some o → a ≠ D0 := fun a o h => ne_of_none h hD
    refine ⟨fun i m H => ∃ S π acc xs, Rel (Γ.res D0) π (wipe ρ vs) S (L2.wipe σ vs) H ∧ Keep Γ.rs H0 (Al Γ.rs π0 S0) π0 H (Al (D0 :: Γ.rs) π S) π ∧ H D0 = some (.lst xs) ∧ VsR (Γ.res D0) π S H acc xs ∧ m = ds.length - i ∧ i ≤ ds.length ∧
      PostR Γ W σ π0 S0 H0 (relD Γ) ((cLoop tg t e w (wipe ρ vs) (ds.drop i) acc S).bind fun ys S2 => .ok (.lst ys) S2) Q,
      ⟨ds.length, S0, π0, [], [], ⟨gr, x0.len, fun i d e => let ⟨v, e', r⟩ := x0.vars i d e; ⟨v, e', VRel.mono kr d v r⟩⟩, kr, upd_same, VsRel.nil, by simp, Nat.zero_le _, by simpa using p1⟩, ?_⟩
    rintro i m H1 ⟨S1, π1, acc, xs, x1, k1, hD1, r1, rfl, hi, q1⟩
    have st : w.still S1 := by
      by_cases st : w.still S1
      · exact st
      · exfalso
        cases hd : ds.drop i <;> (rw [hd] at q1; unfold cLoop at q1; rw [if_neg st] at q1; exact q1)
    obtain ⟨wk1, wk2⟩ := wk i (D0 :: Γ.rs) π1 S1 H1 x1.g k1 st
    rw [hds] at wk1 wk2
    by_cases hlt : i < ds.length
    · right
      have hd : ds.drop i = ds[i] :: ds.drop (i + 1) := List.drop_eq_getElem_cons hlt
      rw [hd] at q1
      unfold cLoop at q1
      rw [if_pos st] at q1
      cases ea : tg.asg ds[i] S1 (wipe ρ vs) with
      | none => simp only [ea] at q1; exact q1.elim
      | some ρ2 =>
      simp only [ea] at q1
      obtain ⟨go, yl⟩ := wk1 _ (List.getElem?_eq_getElem hlt)
      refine ⟨go, fun H' => ∃ m', m' < ds.length - i ∧ ∃ S π acc xs, Rel (Γ.res D0) π (wipe ρ vs) S (L2.wipe σ vs) H' ∧ Keep Γ.rs H0 (Al Γ.rs π0 S0) π0 H' (Al (D0 :: Γ.rs) π S) π ∧ H' D0 = some (.lst xs) ∧ VsR (Γ.res D0) π S H' acc xs ∧ m' = ds.length - (i + 1) ∧ i + 1 ≤ ds.length ∧
        PostR Γ W σ π0 S0 H0 (relD Γ) ((cLoop tg t e w (wipe ρ vs) (ds.drop (i + 1)) acc S).bind fun ys S2 => .ok (.lst ys) S2) Q, fun H' z => z, fun v H' hy => ?_⟩
      obtain ⟨g', k', r'⟩ := yl v H' hy
      have x1' := x1.to g' k'
      have hD' : H' D0 = some (.lst xs) := (k'.res D0 List.mem_cons_self).trans hD1
      have k1' : Keep Γ.rs H0 (Al Γ.rs π0 S0) π0 H' (Al (D0 :: Γ.rs) π1 S1) π1 := k1.trans ⟨k'.pre, k'.obj, k'.ndt, fun a h => k'.res a (List.mem_cons_of_mem _ h)⟩
      refine ⟨D0, wipe ρ vs, S1, π1, _, ρ2, x1', r', ea, fun σ2 x2 s2 => ⟨wipeV_eq s2 hsl, D0, ρ2, S1, π1, x2, ?_⟩⟩
      cases et : t ρ2 S1 with
      | bad => simp only [et] at q1; exact q1.elim
      | ex c S2 => simp only [et] at q1; exact q1.elim
      | ok b S2 =>
      simp only [et] at q1
      intro c π3 H3 g3 k3 rc
      cases rc
      have x3 := x1'.to g3 k3
      have hD3 : H3 D0 = some (.lst xs) := (k3.res D0 List.mem_cons_self).trans hD'
      have k3' : Keep Γ.rs H0 (Al Γ.rs π0 S0) π0 H3 (Al (D0 :: Γ.rs) π3 S2) π3 := k1'.trans ⟨k3.pre, k3.obj, k3.ndt, fun a h => k3.res a (List.mem_cons_of_mem _ h)⟩
      have r3 := VsRel.mono (k'.trans k3) _ _ r1
      cases b with
      | false =>
        rw [if_neg Bool.false_ne_true]
        exact ⟨ds.length - (i + 1), by omega, S2, π3, acc, xs, x3, k3', hD3, r3, rfl, hlt, q1⟩
      | true =>
        rw [if_pos rfl]
        refine ⟨D0, ρ2, S2, π3, x2.to g3 k3, ?_⟩
        cases ee : e ρ2 S2 with
        | bad => simp only [ee] at q1; exact q1.elim
        | ex c S2 => simp only [ee] at q1; exact q1.elim
        | ok y S4 =>
        simp only [ee] at q1
        split at q1
        · rename_i hz
          intro v4 π4 H4 g4 k4 r4
          have x4 := x3.to g4 k4
          have hD4 : H4 D0 = some (.lst xs) := (k4.res D0 List.mem_cons_self).trans hD3
          have k4' : Keep Γ.rs H0 (Al Γ.rs π0 S0) π0 H4 (Al (D0 :: Γ.rs) π4 S4) π4 := k3'.trans ⟨k4.pre, k4.obj, k4.ndt, fun a h => k4.res a (List.mem_cons_of_mem _ h)⟩
          have r5 : VsR (Γ.res D0) π4 S4 H4 (acc ++ [y]) (xs ++ [v4]) := VsRel.append (VsRel.mono k4 _ _ r3) (VsRel.one r4)
          obtain ⟨gu, ku⟩ := g4.resUpd (.lst (xs ++ [v4]))
          refine ⟨xs, hD4, by rw [lineEq, ← VsRel.length r1]; exact hz, ds.length - (i + 1), by omega, S4, π4, acc ++ [y], xs ++ [v4], ⟨gu, x4.len, fun i d e => let ⟨v, e', r⟩ := x4.vars i d e; ⟨v, e', VRel.mono ku d v r⟩⟩, ?_, upd_same, VsRel.mono ku _ _ r5, rfl, hlt, q1⟩
          refine ⟨k4'.pre, fun a o h n => ?_, k4'.ndt, fun a h => ?_⟩
          · rw [upd_ne (nD0 a o h)]; exact k4'.obj a o h n
          · obtain ⟨o, h'⟩ := g0.rsT a h
            rw [upd_ne (nD0 a o h')]; exact k4'.res a h
        · exact q1.elim
    · left
      have ei : i = ds.length := by omega
      have hd : ds.drop i = [] := List.drop_eq_nil_of_le (by omega)
      rw [hd] at q1
      unfold cLoop at q1
      rw [if_pos st] at q1
      have gw := x1.g.unres
      refine ⟨wk2 ei, q1 (.ref D0) π1 H1 gw ⟨k1.pre, k1.obj, fun a n h z => k1.ndt a n h (Al.weak z), k1.res⟩ ?_⟩
      show VRel _ _ _ _ _ _
      simp only [VRel]
      refine ⟨D0, xs, rfl, ⟨.inl hD1, fun z => ?_⟩, VsRel.weak (fun a z => Al.weak z) r1⟩
      rcases z with z | ⟨j, o, hj, _, _⟩
      · obtain ⟨o, h⟩ := g0.rsT D0 z
        exact nD0 D0 o h rfl
      · exact x1.g.rsN D0 List.mem_cons_self (List.mem_of_getElem? hj)
theorem de_comp {elt tge iter : Expr} {ifs : List Expr} {scope : Scope} {own : List (Str × Nat)} {pos : Pos} {it : Ei} {tg : Tg} {t : Et} {e : Ev} (C : Ct X Γ W k) (hi : DI X Γ W tge iter it) (ok : BlkOk X.N X.env.scope scope own) (hsl : ∀ j ∈ tg.slots, j ∈ own.map (·.2))
    (hg : ∀ (s : Shared) (H : Hp) (c : Addr) (cl : List (Str × Addr)) (fp : List Addr) (D0 : Addr), Ct (X.blk s H scope (compEnvC scope cl c X.env) fp) (Γ.res D0) W0 k → DG (X.blk s H scope (compEnvC scope cl c X.env) fp) (Γ.res D0) tge tg)
    (ht : ∀ (s : Shared) (H : Hp) (c : Addr) (cl : List (Str × Addr)) (fp : List Addr) (D0 : Addr), Ct (X.blk s H scope (compEnvC scope cl c X.env) fp) (Γ.res D0) W0 k → PTs (X.blk s H scope (compEnvC scope cl c X.env) fp) ifs (tT (Γ.res D0) W0 t))
    (he : ∀ (s : Shared) (H : Hp) (c : Addr) (cl : List (Str × Addr)) (fp : List Addr) (D0 : Addr), Ct (X.blk s H scope (compEnvC scope cl c X.env) fp) (Γ.res D0) W0 k → DE (X.blk s H scope (compEnvC scope cl c X.env) fp) (Γ.res D0) W0 elt e)
    (hs : ∀ x, foldedSetIterable iter X.env x = pure x := by intro _; rfl) : DE X Γ W (.ListComp elt [⟨tge, iter, ifs, 0⟩] scope pos) (eComp it tg t e (own.map (·.2))) :=
  PEimp (pe_lc C.calm C.nd hi ok (fun s H c cl fp => PGex fun D0 => hg s H c cl fp D0 (C.blk ..)) (fun s H c cl fp => PTsex fun D0 => ht s H c cl fp D0 (C.blk ..)) (fun s H c cl fp => PEex fun D0 => he s H c cl fp D0 (C.blk ..)) hs) fun σ H Q h => comp_of hsl h
/-- y = [..] -/
theorem ds_setComp {i : Nat} {y : Str} {py : Pos} {elt tge iter : Expr} {ifs : List Expr} {scope : Scope} {own : List (Str × Nat)} {pos spos : Pos} {it : Ei} {tg : Tg} {t : Et} {e : Ev} (C : Ct X Γ W k) (hy : X.N[i]? = some y) (hyl : X.env.scope.names.lookup y = some .local)
    (hsw : swapsWith (.ListComp elt [⟨tge, iter, ifs, 0⟩] scope pos) (some (.Name y py)) spos.line X.env = pure true) (hi : DI X Γ W tge iter it) (ok : BlkOk X.N X.env.scope scope own) (hsl : ∀ j ∈ tg.slots, j ∈ own.map (·.2))
    (hg : ∀ (s : Shared) (H : Hp) (c : Addr) (cl : List (Str × Addr)) (fp : List Addr) (D0 : Addr), Ct (X.blk s H scope (compEnvC scope cl c X.env) fp) (Γ.res D0) W0 k → DG (X.blk s H scope (compEnvC scope cl c X.env) fp) (Γ.res D0) tge tg)
    (ht : ∀ (s : Shared) (H : Hp) (c : Addr) (cl : List (Str × Addr)) (fp : List Addr) (D0 : Addr), Ct (X.blk s H scope (compEnvC scope cl c X.env) fp) (Γ.res D0) W0 k → PTs (X.blk s H scope (compEnvC scope cl c X.env) fp) ifs (tT (Γ.res D0) W0 t))
    (he : ∀ (s : Shared) (H : Hp) (c : Addr) (cl : List (Str × Addr)) (fp : List Addr) (D0 : Addr), Ct (X.blk s H scope (compEnvC scope cl c X.env) fp) (Γ.res D0) W0 k → DE (X.blk s H scope (compEnvC scope cl c X.env) fp) (Γ.res D0) W0 elt e)
    (hs : ∀ x, foldedSetIterable iter X.env x = pure x := by intro _; rfl) : DS X Γ W (.Assign [.Name y py] (.ListComp elt [⟨tge, iter, ifs, 0⟩] scope pos) spos) (sSet i (eComp it tg t e (own.map (·.2)))) := by
  refine PSimp (ps_setLc C.calm C.nd hy hyl hsw hi ok (fun s H c cl fp => PGex fun D0 => hg s H c cl fp D0 (C.blk ..)) (fun s H c cl fp => PTsex fun D0 => ht s H c cl fp D0 (C.blk ..)) (fun s H c cl fp => PEex fun D0 => he s H c cl fp D0 (C.blk ..)) hs) fun E σ H h => ?_
  exact comp_of hsl (tS.first h fun d v H1 ρ S1 π1 x r p => p _ π1 H1 (x.set i r) Keep.refl)
theorem pts_yes : PTs X [] (tT Γ W tYes) := ⟨fun pins s σ H Q I ⟨ρ, S, π, x, p⟩ => pts_nil.run pins s σ H Q I (PostR.okI (rel := relB) x.g rfl p)⟩
theorem pts_if {c : Expr} {t : Et} (h : DT X Γ W c t) : PTs X [c] (tT Γ W t) := pts_one h
end
end Mp

/-! MpS5: calls, defs, raise, try. -/
namespace Mp
open PySem PySem.Spec PyProof.Rows L2

abbrev Gam.wr (Γ : Gam) (rs : List Addr) : Gam := { Γ with rs := rs }
/-- a def's promise: it does what m says -/
def spM (Γ : Gam) (n : Nat) (m : Fn) : Sp := fun vs H Q E => vs.length = n ∧ ∃ rs ds S π, GRel (Γ.wr rs) π S H ∧ VsR (Γ.wr rs) π S H ds vs ∧ PostR (Γ.wr rs) (fun cls d _ H' => E cls d H') [] π S H (relD (Γ.wr rs)) (m ds S) Q
/-- the def of that name stands, and keeps its promise -/
def FnAt (P : Program) (w : World) (mg : Str → Option Value) (base : Heap) (Γ : Gam) (j : Nat) (x : Str) (n : Nat) (m : Fn) : Prop :=
  ∃ f fd ps, FnOk P w Γ.K mg base (L2.CX P w) j f fd ps (spM Γ n m) ∧ mg x = some (.ref f) ∧ PySem.W.keepIn Γ.K (.ref f) = true ∧ Binds Γ.K fd ps [] ∧ ps.length = n

section
variable {Γ : Gam} {W : WX} {X : Cx} {k : Nat}

theorem spM_of {n : Nat} {m : Fn} {π : List Addr} {S : Sto} {H : Hp} {σ : L2.St} {ds : List D} {vs : List V} {Q : VK} (hl : vs.length = n) (g : GRel Γ π S H) (r : VsR Γ π S H ds vs) (p : PostR Γ W σ π S H (relD Γ) (m ds S) Q) : spM Γ n m vs H Q (fun cls d H' => W cls d σ H') := by
  refine ⟨hl, Γ.rs, ds, S, π, g, r, ?_⟩
  cases e : m ds S with
  | ok d S' => rw [e] at p; exact p
  | ex c S' => rw [e] at p; exact p
  | bad => rw [e] at p; exact p
/-- a call's reading -/
theorem call_of {n : Nat} {m : Fn} {f : Ea} {σ : L2.St} {H : Hp} {Q : VK} (hn : ∀ ds ρ S S1, f ρ S = .ok ds S1 → ds.length = n) (h : tM Γ W (eCall m f) σ H Q) : tA Γ W f σ H fun vs H1 => spM Γ n m vs H1 Q (fun cls d H' => W cls d σ H') := by
  obtain ⟨ρ, S, π, x, p⟩ := h
  refine ⟨ρ, S, π, x, ?_⟩
  unfold eCall at p
  cases e : f ρ S with
  | ok ds S' =>
    rw [e] at p
    intro vs π' H' g k' r
    exact spM_of (by rw [← VsRel.length r]; exact hn ds ρ S S' e) g r (PostR.later k' p)
  | ex c S' => rw [e] at p; exact p
  | bad => rw [e] at p; exact p
theorem aNil_len : ∀ ds ρ S S1, aNil ρ S = .ok ds S1 → ds.length = 0 := fun ds ρ S S1 h => by
  simp only [aNil] at h
  cases h; rfl
theorem aCons_len {f : Ev} {g : Ea} {n : Nat} (hg : ∀ ds ρ S S1, g ρ S = .ok ds S1 → ds.length = n) : ∀ ds ρ S S1, aCons f g ρ S = .ok ds S1 → ds.length = n + 1 := fun ds ρ S S1 h => by
  unfold aCons at h
  cases e : f ρ S with
  | ok d S' =>
    rw [e] at h
    simp only [R.bind] at h
    cases e2 : g ρ S' with
    | ok es S2 =>
      rw [e2] at h
      cases h
      simp [hg _ _ _ _ e2]
    | ex c S2 => rw [e2] at h; cases h
    | bad => rw [e2] at h; cases h
  | ex c S' => rw [e] at h; cases h
  | bad => rw [e] at h; cases h
/-- an argument list and its length -/
structure DAn (X : Cx) (Γ : Gam) (W : WX) (es : List Expr) (f : Ea) (n : Nat) : Prop where
  da : DA X Γ W es f
  len : ∀ ds ρ S S1, f ρ S = .ok ds S1 → ds.length = n
theorem dn_nil : DAn X Γ W [] aNil 0 := ⟨da_nil, aNil_len⟩
theorem dn_cons {e : Expr} {es : List Expr} {f : Ev} {g : Ea} {n : Nat} (ha : DE X Γ W e f) (hr : DAn X Γ W es g n) (hs : starEach (e :: es) X.env = (false, eval e X.env) :: starEach es X.env := by rfl) : DAn X Γ W (e :: es) (aCons f g) (n + 1) := ⟨da_cons ha hr.da hs, aCons_len hr.len⟩

theorem PassesAt.wx (C : Ct X Γ W k) (σ : L2.St) : PassesAt (L2.CX X.prog X.w) X σ (fun cls d H' => W cls d σ H') := passAt C.tk σ
/-- f(e, ..) -/
theorem de_call (C : Ct X Γ W k) {j n : Nat} {m : Fn} {x : Str} {p pos : Pos} {e : Expr} {es : List Expr} {f : Ea} (F : FnAt X.prog X.w X.mg X.base Γ j x n m) (hj : j ≤ k) (hg : Gl X x) (ha : DAn X Γ W (e :: es) f n) (hdb : (x == ("__debug__" : Str)) = false := by decide)
    (he : starEach (e :: es) X.env = (false, eval e X.env) :: starEach es X.env := by rfl) (hpl : (backTo pos (starEach es X.env)).any (·.1) = false := by rfl) : DE X Γ W (.Call (.Name x p) (e :: es) [] pos) (eCall m f) := by
  obtain ⟨fa, fd, ps, ok, hm, kp, bi, hl⟩ := F
  have hK := C.K
  exact PEimp (pe_callS (E := fun σ cls d H' => W cls d σ H') (by rw [hK]; exact ok) (C.room.mono hj) hg hm (by rw [hK]; exact kp) (by rw [hK]; exact bi) (fun σ => PassesAt.wx C σ) ha.da hdb he hpl) fun σ H Q h => call_of ha.len h
/-- f() -/
theorem de_call0 (C : Ct X Γ W k) {j : Nat} {m : Fn} {x : Str} {p pos : Pos} (F : FnAt X.prog X.w X.mg X.base Γ j x 0 m) (hj : j ≤ k) (hg : Gl X x) (hdb : (x == ("__debug__" : Str)) = false := by decide) : DE X Γ W (.Call (.Name x p) [] [] pos) (eCall m aNil) := by
  obtain ⟨fa, fd, ps, ok, hm, kp, bi, hl⟩ := F
  have hK := C.K
  refine ⟨fun pins s σ H Q I h => ?_⟩
  refine wpAny_Call_Name_kw (ld_glob I hg hm ?_ hdb)
  obtain ⟨ρ, S, π, x, q⟩ := h
  refine PySem.W.callWith_K0 I.kIn (by rw [hK]; exact kp) (run_fnS (us := []) (vs := []) (E := fun σ cls d H' => W cls d σ H') (by rw [hK]; exact ok) (C.room.mono hj) (by rw [hK]; exact bi) (PassesAt.wx C σ) I .nil ?_)
  exact spM_of rfl x.g VsRel.nil q

/-! ### a def -/
theorem start_rel {N : List Str} {ds : List D} {vs : List V} {π : List Addr} {S : Sto} {H : Hp} (g : GRel Γ π S H) (r : VsR Γ π S H ds vs) : Rel Γ π (ds.map some ++ List.replicate (N.length - ds.length) none) S (L2.start N vs) H := by
  have hl := VsRel.length r
  refine ⟨g, by unfold L2.start; simp [hl], fun i d e => ?_⟩
  by_cases hi : i < ds.length
  · rw [List.getElem?_append_left (by simpa using hi), List.getElem?_map] at e
    cases ed : ds[i]? with
    | none => rw [ed] at e; cases e
    | some d' =>
      rw [ed] at e
      cases e
      obtain ⟨v, hv, rv⟩ := r.get ed
      refine ⟨v, ?_, rv⟩
      unfold L2.start
      rw [List.getElem?_append_left (by simp; omega), List.getElem?_map, hv]
      rfl
  · rw [List.getElem?_append_right (by simpa using hi), List.getElem?_replicate] at e
    split at e <;> cases e
/-- the context of a def's body -/
abbrev cxB (P : Program) (w : World) (K : PySem.W.Frag) (mg : Str → Option Value) (base : Heap) (N : List Str) (qual : Str) (st : Stmt) (f : Addr) (cdv : Value) (A : Around) (outer : List PySem.Env) (s : Shared) (H : Hp) (E : XK) : Cx :=
  cxOf (L2.CX P w) P w K mg base N qual (defScope st) f cdv A outer s H E
theorem fn_body {P : Program} {w : World} {mg : Str → Option Value} {base : Heap} {x qual : Str} {st : Stmt} {f : Addr} {fd : FuncData} {N ps : List Str} {n : Nat} {b : Ex} (F : Fun Γ.K x qual st f fd) (S : FnScope N ps (defScope st)) (hn : ps.length = n)
    (hb : ∀ (cdv : Value) (A : Around) (outer : List PySem.Env) (s : Shared) (H : Hp) (E : XK) (rs : List Addr), Ct (cxB P w Γ.K mg base N qual st f cdv A outer s H E) (Γ.wr rs) (fun cls d _ H' => E cls d H') k →
      DSs (cxB P w Γ.K mg base N qual st f cdv A outer s H E) (Γ.wr rs) (fun cls d _ H' => E cls d H') (defBody st) b) :
    FnOk P w Γ.K mg base (L2.CX P w) (k + 1) f fd ps (spM Γ n (run N.length b)) := by
  refine F.okX S (fun vs H Q E h => h.1.trans hn.symm) fun cdv A outer s H vs Q E hr h => ?_
  obtain ⟨hl, rs, ds, S0, π, g, r, p⟩ := h
  refine ⟨_, hb cdv A outer s H E rs ⟨rfl, rfl, S.nd, hr, takes_of rfl rfl rfl rfl, passes_of rfl⟩, ?_⟩
  refine ⟨_, S0, π, start_rel (N := N) g r, ?_⟩
  unfold run at p
  cases e : b (ds.map some ++ List.replicate (N.length - ds.length) none) S0 with
  | nx ρ1 S1 => rw [e] at p; exact fun σ' π' H' x' k' => p .non π' H' x'.g k' (by simp only [relD, VRel])
  | rt d S1 => rw [e] at p; exact fun v π' H' g' k' r' => p v π' H' g' k' r'
  | bk ρ1 S1 => rw [e] at p; exact p.elim
  | ct ρ1 S1 => rw [e] at p; exact p.elim
  | ex c ρ1 S1 => rw [e] at p; exact fun σ' π' H' x' k' => p π' H' x'.g k'
  | bad => rw [e] at p; exact p.elim
theorem fnAt_of {P : Program} {w : World} {mg : Str → Option Value} {base : Heap} {x qual : Str} {st : Stmt} {f : Addr} {fd : FuncData} {N ps : List Str} {n : Nat} {b : Ex} (F : Fun Γ.K x qual st f fd) (S : FnScope N ps (defScope st)) (hn : ps.length = n) (hm : mg x = some (.ref f)) (bi : Binds Γ.K fd ps [])
    (hb : ∀ (cdv : Value) (A : Around) (outer : List PySem.Env) (s : Shared) (H : Hp) (E : XK) (rs : List Addr), Ct (cxB P w Γ.K mg base N qual st f cdv A outer s H E) (Γ.wr rs) (fun cls d _ H' => E cls d H') k →
      DSs (cxB P w Γ.K mg base N qual st f cdv A outer s H E) (Γ.wr rs) (fun cls d _ H' => E cls d H') (defBody st) b) : FnAt P w mg base Γ (k + 1) x n (run N.length b) :=
  ⟨f, fd, ps, fn_body F S hn hb, hm, F.kp, bi, hn⟩

/-! ### raise -/
/-- an exception's class -/
structure ExcAt (K : PySem.W.Frag) (mg : Str → Option Value) (x : Str) (C : Addr) : Prop where
  mg : mg x = some (.ref C)
  ex : PySem.W.excIn K C [.type "ValueError", .type "Exception", .type "BaseException", .type "object"] "ValueError.__new__" = true
  kp : PySem.W.keepIn K (.ref C) = true
  sub : PySem.W.subIn K (.ref C) (.type "BaseException") = some true
  ty : PySem.W.typeIn K (.ref C) = some (.type "type")
theorem pmk_own0 {x : Str} {p pos : Pos} {c : Addr} {bmB : List Value} {B newId initId : String} (F : ExcBaseFacts B newId initId bmB) (q : PySem.W.excIn X.K c bmB newId = true) (gC : X.mg x = some (.ref c)) (kC : PySem.W.keepIn X.K (.ref c) = true) (r : Raises X (.ref c)) (hg : Gl X x)
    (hdb : (x == ("__debug__" : Str)) = false := by decide) : PMk X (.Call (.Name x p) [] [] pos) (fun _ H Q => Q (.ref c) none H) := by
  intro pins s σ H Q I h
  refine wpAny_Call_Name_kw (ld_glob I hg gC ?_ hdb)
  refine PySem.W.callWith_K0 I.kIn kC ?_
  show wpAny _ _ (call (.ref c) []) _ _ _
  obtain ⟨bm, N, nm, qn, bs, hdct, sn, sub, ab, col, dd, k0, k1, k2, k3, k5, mN, hC, hN, hni, T⟩ := exc_obj I.kIn q
  refine wpAny_call_exc_subT F T hC hN hni (fun h' e hm => ?_) (by show 0 ≤ sizeLine; rw [sizeLine_eq]; omega)
  exact mk_of I hm r h (I.hok.gone hm.new)
theorem ds_raise (C : Ct X Γ W k) {x : Str} {p pos pos' : Pos} {c : Nat} (E : ExcAt Γ.K X.mg x (Γ.xc c)) (hg : Gl X x) (hdb : (x == ("__debug__" : Str)) = false := by decide) : DS X Γ W (.Raise (some (.Call (.Name x p) [] [] pos)) none pos') (sRaise c) := by
  have hK := C.K
  refine PSimp (ps_raise C.calm C.tk (pmk_own0 PySem.F.excBase_ValueError (by rw [hK]; exact E.ex) E.mg (by rw [hK]; exact E.kp) (raises_own (by rw [hK]; exact E.sub) (by rw [hK]; exact E.ty)) hg hdb)) fun D σ H ⟨ρ, S, π, x, p⟩ => ?_
  exact p σ π H x Keep.refl

/-! ### try -/
theorem Ct.tr (C : Ct X Γ W k) {W' : WX} {pn : List (Addr × Obj)} {xe : Value → Shared → Prop} (tk : Takes (X.tr pn xe) W') (own : PassesOwn (model X.prog X.w) X.A X.env xe) : Ct (X.tr pn xe) Γ W' k :=
  ⟨C.K, C.calm, C.nd, C.room, tk, own⟩
/-- the clauses -/
inductive Hds (X : Cx) (Γ : Gam) : List ExceptHandler → List (List Nat × List Nat × Ex) → List (Value × (Addr → Value → Option Addr → TS)) → Prop
  | nil : Hds X Γ [] [] []
  | cons {x : Str} {c : Value} {b₀ : Stmt} {suite : List Stmt} {np pos' : Pos} {hds : List ExceptHandler} {yes no : List Nat} {s : Ex} {l : List (List Nat × List Nat × Ex)} {l' : List (Value × (Addr → Value → Option Addr → TS))} (hc : Names X x c)
      (hy : ∀ e ∈ yes, PySem.W.exmOne X.K (.ref (Γ.xc e)) c = some true) (hn : ∀ e ∈ no, PySem.W.exmOne X.K (.ref (Γ.xc e)) c = some false)
      (hsu : ∀ (a : Addr) (oe : Obj) (pn : List (Addr × Obj)), DSs (X.suite a ((a, oe) :: pn)) Γ W0 (b₀ :: suite) s) (r : Hds X Γ hds l l') :
      Hds X Γ (.ExceptHandler (some (.Name x np)) none (b₀ :: suite) pos' :: hds) ((yes, no, s) :: l) ((c, fun _ _ _ => tS Γ W0 s) :: l')
theorem Hds.ok {hds : List ExceptHandler} {l : List (List Nat × List Nat × Ex)} {l' : List (Value × (Addr → Value → Option Addr → TS))} (h : Hds X Γ hds l l') : HdsOk X hds l' := by
  induction h with
  | nil => exact .nil
  | cons hc hy hn hsu r ih => exact .cons hc (fun a oe cls d pn _ _ => hsu a oe pn) ih
theorem Hds.go {E : Ends} {π : List Addr} {ρ : Env} {S : Sto} {H : Hp} {σ : L2.St} {c : Nat} (x : Rel Γ π ρ S σ H) {hds : List ExceptHandler} {l : List (List Nat × List Nat × Ex)} {l' : List (Value × (Addr → Value → Option Addr → TS))} (h : Hds X Γ hds l l') (p : PostS Γ W E π S H (tryH l c ρ S)) :
    wMany X.K W E l' (.ref (Γ.xc c)) none σ H := by
  induction h with
  | nil => exact p σ π H x Keep.refl
  | @cons xn cv b₀ suite np pos' hds yes no s l l' hc hy hn hsu r ih =>
    unfold tryH at p
    split at p
    · rename_i hcy
      refine ⟨true, hy c hcy, fun _ a _ => ⟨ρ, S, π, x, ?_⟩, fun z => absurd z (by decide)⟩
      cases e : s ρ S with
      | nx ρ1 S1 => rw [e] at p; exact p
      | rt d S1 => rw [e] at p; exact p
      | bk ρ1 S1 => rw [e] at p; exact p
      | ct ρ1 S1 => rw [e] at p; exact p
      | ex c ρ1 S1 => rw [e] at p; exact p.elim
      | bad => rw [e] at p; exact p
    · split at p
      · rename_i hcn
        exact ⟨false, hn c hcn, fun z => absurd z Bool.false_ne_true, fun _ => ih p⟩
      · exact p.elim
theorem ds_try (C : Ct X Γ W k) {body : List Stmt} {b : Ex} {h₀ : ExceptHandler} {hds : List ExceptHandler} {l : List (List Nat × List Nat × Ex)} {l' : List (Value × (Addr → Value → Option Addr → TS))} {pos : Pos} (hs : X.stack = X.env :: X.outer) (hf : X.env.frame = some X.env.locals)
    (hb : ∀ (W' : WX) (pn : List (Addr × Obj)) (xe : Value → Shared → Prop), Ct (X.tr pn xe) Γ W' k → DSs (X.tr pn xe) Γ W' body b) (hh : Hds X Γ (h₀ :: hds) l l') : DS X Γ W (.Try body (h₀ :: hds) [] [] pos) (sTry b l) := by
  refine PSimp (ps_try_many (tb := fun W' => tS Γ W' b) hs hf C.tk (fun W' pn xe tk own => hb W' pn xe (C.tr tk own)) hh.ok) fun E σ H ⟨ρ, S, π, x, p⟩ => ?_
  refine ⟨ρ, S, π, x, ?_⟩
  unfold sTry at p
  cases e : b ρ S with
  | nx ρ1 S1 => rw [e] at p; exact p
  | rt d S1 => rw [e] at p; exact p
  | bk ρ1 S1 => rw [e] at p; exact p
  | ct ρ1 S1 => rw [e] at p; exact p
  | ex c ρ1 S1 => rw [e] at p; exact fun σ' π' H' x' k' => hh.go x' (PostS.later k' p)
  | bad => rw [e] at p; exact p
end
end Mp

/-! MpO1: operators and built-ins, by the model. -/
namespace Mp
open PySem PySem.Spec PyProof.Rows L2

section
variable {Γ : Gam} {W : WX} {X : Cx} {k : Nat}

/-! ### arithmetic -/
theorem VR_int {π : List Addr} {S : Sto} {H : Hp} {i : Int} : VR Γ π S H (.int i) (.int i) := by simp only [VRel]
theorem VR_bl {π : List Addr} {S : Sto} {H : Hp} {i : Bool} : VR Γ π S H (.bl i) (.bl i) := by simp only [VRel]
theorem VR_str {π : List Addr} {S : Sto} {H : Hp} {i : Str} : VR Γ π S H (.str i) (.str i) := by simp only [VRel]
theorem VR_non {π : List Addr} {S : Sto} {H : Hp} : VR Γ π S H .non .non := by simp only [VRel]
/-- a new list that is never changed -/
theorem post_lst {σ : L2.St} {π : List Addr} {S : Sto} {H : Hp} {ds : List D} {xs : List V} {Q : VK} (g : GRel Γ π S H) (r : VsR Γ π S H ds xs) (p : PostR Γ W σ π S H (relD Γ) (.ok (.lst ds) S) Q) : ∀ a, H a = none → Q (.ref a) (upd H a (.lst xs)) := fun a ha => by
  obtain ⟨g', k'⟩ := g.fresh (.lst xs) ha
  refine p (.ref a) π _ g' k' ?_
  show VRel _ _ _ _ _ _
  simp only [VRel]
  exact ⟨a, xs, rfl, ⟨.inl upd_same, g.free ha⟩, VsRel.mono k' _ _ r⟩
/-- a new list of the store -/
theorem post_lstM {σ : L2.St} {π : List Addr} {S : Sto} {H : Hp} {ds : List D} {xs : List V} {Q : VK} (g : GRel Γ π S H) (r : VsR Γ π S H ds xs) (p : PostR Γ W σ π S H (relD Γ) (.ok (.ref S.length) (S ++ [.lst ds])) Q) : ∀ a, H a = none → Q (.ref a) (upd H a (.lst xs)) := fun a ha => by
  obtain ⟨g', k'⟩ := g.push (u := .lst xs) (o := .lst ds) ha fun k => ⟨xs, upd_same, VsRel.mono k _ _ r⟩
  refine p (.ref a) _ _ g' k' ?_
  show VRel _ _ _ _ _ _
  simp only [VRel]
  exact ⟨a, rfl, by rw [← g.len]; simp⟩

/-- list + list, whatever may be read -/
def rCatQ : R2 := fun x y H Q => ∃ l b xs zs, x = .ref l ∧ y = .ref b ∧ Rd H l (.lst xs) ∧ Rd H b (.lst zs) ∧ xs.length + zs.length ≤ sizeLine ∧ ∀ p, H p = none → Q (.ref p) (upd H p (.lst (xs ++ zs)))
theorem op_catQ : OpR X (binaryOp .Add) rCatQ := by
  intro pins s σ H x y v u Q I rx ry h
  obtain ⟨l, b, xs, zs, rfl, rfl, hH, hB, hz, q⟩ := h
  cases rx
  cases ry
  obtain ⟨z, its, n, r, e⟩ := hH.ok I.hok
  obtain ⟨z2, its2, n2, r2, e2⟩ := hB.ok I.hok
  have hl := r.length
  have hl2 := r2.length
  refine PySem.P.add_list e e2 ?_ (by rw [List.size_toArray, List.size_toArray]; omega)
  have ea : its.toArray ++ its2.toArray = (its ++ its2).toArray := by simp
  rw [ea]
  exact ⟨.ref _, _, I.lnew (t' := s.toks) (r.append r2) (by rw [List.length_append]; omega), rfl, q _ I.fresh⟩
def rAddA (K : PySem.W.Frag) : R2 := fun x y H Q => rI0 (fun i j => .int (i + j)) x y H Q ∨ (∃ i j, x = .str i ∧ y = .str j ∧ i.length + j.length ≤ sizeLine ∧ Q (.str (i ++ j)) H) ∨ rCatZ K x y H Q ∨ rCatQ x y H Q
theorem op_addA : OpR X (binaryOp .Add) (rAddA X.K) := op_add.or (op_add_str.or (op_catZ.or op_catQ))
theorem od_add : OpD Γ (rAddA Γ.K) gAdd := by
  intro W σ π S H a b x y Q g r1 r2 p
  unfold gAdd at p
  split at p
  · simp only [VRel] at r1 r2
    exact .inl ⟨_, _, r1, r2, PostR.okI (rel := relD Γ) g VR_int p⟩
  · simp only [VRel] at r1 r2
    split at p
    · rename_i hl
      exact .inr (.inl ⟨_, _, r1, r2, by rw [lineEq]; exact hl, PostR.okI (rel := relD Γ) g VR_str p⟩)
    · exact p.elim
  · rename_i xs ys
    have q1 := r1
    have q2 := r2
    simp only [VRel] at r1 r2
    obtain ⟨a1, vs1, rfl, t1, s1⟩ := r1
    obtain ⟨a2, vs2, rfl, t2, s2⟩ := r2
    have l1 := VsRel.length s1
    have l2 := VsRel.length s2
    split at p
    · rename_i hl
      refine .inr (.inr (.inl ⟨a1, a2, vs1, vs2, rfl, rfl, t1.sq, t2.sq, by rw [lineEq, ← l1, ← l2]; exact hl, fun e => ?_, fun _ e => ?_, fun _ _ => ?_⟩))
      · subst e
        have e0 : xs = [] := List.length_eq_zero_iff.mp l1
        subst e0
        exact PostR.okI (rel := relD Γ) g q2 p
      · subst e
        have e0 : ys = [] := List.length_eq_zero_iff.mp l2
        subst e0
        exact PostR.okI (rel := relD Γ) g q1 (by simpa using p)
      · exact post_tup g (VsRel.append s1 s2) p
    · exact p.elim
  · split at p
    · rename_i xs ys h1 h2
      obtain ⟨a1, vs1, rfl, t1, s1⟩ := litems_ref g r1 h1
      obtain ⟨a2, vs2, rfl, t2, s2⟩ := litems_ref g r2 h2
      split at p
      · rename_i hl
        exact .inr (.inr (.inr ⟨a1, a2, vs1, vs2, rfl, rfl, t1, t2, by rw [lineEq, ← VsRel.length s1, ← VsRel.length s2]; exact hl, post_lst g (VsRel.append s1 s2) p⟩))
      · exact p.elim
    · exact p.elim
theorem od_sub : OpD Γ (rI0 fun i j => .int (i - j)) gSub := by
  intro W σ π S H a b x y Q g r1 r2 p
  unfold gSub at p
  split at p
  · simp only [VRel] at r1 r2
    exact ⟨_, _, r1, r2, PostR.okI (rel := relD Γ) g VR_int p⟩
  · exact p.elim
theorem od_mul : OpD Γ (rI CMul fun i j => .int (i * j)) gMul := by
  intro W σ π S H a b x y Q g r1 r2 p
  unfold gMul at p
  split at p
  · simp only [VRel] at r1 r2
    split at p
    · rename_i hc
      exact ⟨_, _, r1, r2, hc, PostR.okI (rel := relD Γ) g VR_int p⟩
    · exact p.elim
  · exact p.elim
theorem od_div : OpD Γ (rI CDiv fun i j => .int (i / j)) gDiv := by
  intro W σ π S H a b x y Q g r1 r2 p
  unfold gDiv at p
  split at p
  · simp only [VRel] at r1 r2
    split at p
    · rename_i hc
      exact ⟨_, _, r1, r2, hc, PostR.okI (rel := relD Γ) g VR_int p⟩
    · exact p.elim
  · exact p.elim
theorem od_mod : OpD Γ (rI (fun _ j => 0 < j) fun i j => .int (i % j)) gMod := by
  intro W σ π S H a b x y Q g r1 r2 p
  unfold gMod at p
  split at p
  · simp only [VRel] at r1 r2
    split at p
    · rename_i hc
      exact ⟨_, _, r1, r2, hc, PostR.okI (rel := relD Γ) g VR_int p⟩
    · exact p.elim
  · exact p.elim
theorem ud_neg : UnD Γ (rU fun i => .int (-i)) gNeg := by
  intro W σ π S H a x Q g r1 p
  unfold gNeg at p
  split at p
  · simp only [VRel] at r1
    exact ⟨_, r1, PostR.okI (rel := relD Γ) g VR_int p⟩
  · exact p.elim

/-! ### order -/
def rOrd (f : Int → Int → Bool) (h : Str → Str → Bool) : R2 := fun x y H Q => rI0 (fun i j => .bl (f i j)) x y H Q ∨ ∃ i j, x = .str i ∧ y = .str j ∧ Q (.bl (h i j)) H
theorem op_ltA : OpR X (compareOp .Lt) (rOrd (fun i j => decide (i < j)) fun x y => decide (x.cps.toList < y.cps.toList)) := op_lt.or op_lt_str
theorem op_leA : OpR X (compareOp .LtE) (rOrd (fun i j => decide (i ≤ j)) fun x y => !decide (y.cps.toList < x.cps.toList)) := op_le.or op_le_str
theorem op_gtA : OpR X (compareOp .Gt) (rOrd (fun i j => decide (j < i)) fun x y => decide (y.cps.toList < x.cps.toList)) := op_gt.or op_gt_str
theorem op_geA : OpR X (compareOp .GtE) (rOrd (fun i j => decide (j ≤ i)) fun x y => !decide (x.cps.toList < y.cps.toList)) := op_ge.or op_ge_str
theorem od_lt : OpD Γ (rOrd (fun i j => decide (i < j)) fun x y => decide (x.cps.toList < y.cps.toList)) gLt := by
  intro W σ π S H a b x y Q g r1 r2 p
  unfold gLt at p
  split at p <;> first | exact p.elim | simp only [VRel] at r1 r2
  · exact .inl ⟨_, _, r1, r2, PostR.okI (rel := relD Γ) g VR_bl p⟩
  · exact .inr ⟨_, _, r1, r2, PostR.okI (rel := relD Γ) g VR_bl p⟩
theorem od_le : OpD Γ (rOrd (fun i j => decide (i ≤ j)) fun x y => !decide (y.cps.toList < x.cps.toList)) gLe := by
  intro W σ π S H a b x y Q g r1 r2 p
  unfold gLe at p
  split at p <;> first | exact p.elim | simp only [VRel] at r1 r2
  · exact .inl ⟨_, _, r1, r2, PostR.okI (rel := relD Γ) g VR_bl p⟩
  · exact .inr ⟨_, _, r1, r2, PostR.okI (rel := relD Γ) g VR_bl p⟩
theorem od_gt : OpD Γ (rOrd (fun i j => decide (j < i)) fun x y => decide (y.cps.toList < x.cps.toList)) gGt := by
  intro W σ π S H a b x y Q g r1 r2 p
  unfold gGt at p
  split at p <;> first | exact p.elim | simp only [VRel] at r1 r2
  · exact .inl ⟨_, _, r1, r2, PostR.okI (rel := relD Γ) g VR_bl p⟩
  · exact .inr ⟨_, _, r1, r2, PostR.okI (rel := relD Γ) g VR_bl p⟩
theorem od_ge : OpD Γ (rOrd (fun i j => decide (j ≤ i)) fun x y => !decide (x.cps.toList < y.cps.toList)) gGe := by
  intro W σ π S H a b x y Q g r1 r2 p
  unfold gGe at p
  split at p <;> first | exact p.elim | simp only [VRel] at r1 r2
  · exact .inl ⟨_, _, r1, r2, PostR.okI (rel := relD Γ) g VR_bl p⟩
  · exact .inr ⟨_, _, r1, r2, PostR.okI (rel := relD Γ) g VR_bl p⟩

/-! ### == of data -/
mutual
def D.py : D → PyData
  | .non => .none
  | .bl b => .bool b
  | .int i => .int i
  | .str s => .str s
  | .tup ds => .tuple (D.pys ds)
  | .lst ds => .list (D.pys ds)
  | .dct _ _ => .none
  | .kls _ => .none
  | .ref _ => .none
def D.pys : List D → List PyData
  | [] => []
  | d :: ds => d.py :: D.pys ds
end
mutual
theorem py_lay : ∀ d : D, d.plain = true → d.py.canLay0 = true
  | .non, _ => rfl
  | .bl b, _ => rfl
  | .int i, _ => rfl
  | .str s, h => by simpa only [D.py, PyData.canLay0, D.plain, PyData.strOk] using h
  | .tup ds, h => by simp only [D.py, PyData.canLay0]; exact pys_lay ds (by simpa only [D.plain] using h)
  | .lst ds, h => by simp only [D.py, PyData.canLay0]; exact pys_lay ds (by simpa only [D.plain] using h)
  | .dct _ _, h => by simp [D.plain] at h
  | .kls _, h => by simp [D.plain] at h
  | .ref _, h => by simp [D.plain] at h
theorem pys_lay : ∀ ds : List D, D.plains ds = true → PyData.canLayAll0 (D.pys ds) = true
  | [], _ => rfl
  | d :: ds, h => by
    simp only [D.plains, Bool.and_eq_true] at h
    simp only [D.pys, PyData.canLayAll0, Bool.and_eq_true]
    exact ⟨py_lay d h.1, pys_lay ds h.2⟩
end
mutual
theorem py_dep : ∀ d : D, d.py.depth = d.dep
  | .non => rfl
  | .bl b => rfl
  | .int i => rfl
  | .str s => rfl
  | .tup ds => by simp only [D.py, PyData.depth, D.dep]; rw [pys_dep ds]
  | .lst ds => by simp only [D.py, PyData.depth, D.dep]; rw [pys_dep ds]
  | .dct _ _ => rfl
  | .kls _ => rfl
  | .ref _ => rfl
theorem pys_dep : ∀ ds : List D, PyData.depthAll (D.pys ds) = D.deps ds
  | [] => rfl
  | d :: ds => by simp only [D.pys, PyData.depthAll, D.deps]; rw [py_dep d, pys_dep ds]
end
mutual
theorem py_eqv : ∀ a b : D, a.plain = true → b.plain = true → PyData.eqv a.py b.py = a.eqv b
  | .dct _ _, b, h, _ => by simp [D.plain] at h
  | .kls _, b, h, _ => by simp [D.plain] at h
  | .ref _, b, h, _ => by simp [D.plain] at h
  | a, .dct _ _, _, h => by simp [D.plain] at h
  | a, .kls _, _, h => by simp [D.plain] at h
  | a, .ref _, _, h => by simp [D.plain] at h
  | .tup xs, .tup ys, h, h' => by simp only [D.py, PyData.eqv, D.eqv]; exact pys_eqv xs ys (by simpa only [D.plain] using h) (by simpa only [D.plain] using h')
  | .lst xs, .lst ys, h, h' => by simp only [D.py, PyData.eqv, D.eqv]; exact pys_eqv xs ys (by simpa only [D.plain] using h) (by simpa only [D.plain] using h')
  | .non, .non, _, _ | .non, .bl _, _, _ | .non, .int _, _, _ | .non, .str _, _, _ | .non, .tup _, _, _ | .non, .lst _, _, _ => by simp only [D.py, PyData.eqv, D.eqv]
  | .bl _, .non, _, _ | .bl _, .bl _, _, _ | .bl _, .int _, _, _ | .bl _, .str _, _, _ | .bl _, .tup _, _, _ | .bl _, .lst _, _, _ => by simp only [D.py, PyData.eqv, D.eqv]
  | .int _, .non, _, _ | .int _, .bl _, _, _ | .int _, .int _, _, _ | .int _, .str _, _, _ | .int _, .tup _, _, _ | .int _, .lst _, _, _ => by simp only [D.py, PyData.eqv, D.eqv]
  | .str _, .non, _, _ | .str _, .bl _, _, _ | .str _, .int _, _, _ | .str _, .str _, _, _ | .str _, .tup _, _, _ | .str _, .lst _, _, _ => by simp only [D.py, PyData.eqv, D.eqv]
  | .tup _, .non, _, _ | .tup _, .bl _, _, _ | .tup _, .int _, _, _ | .tup _, .str _, _, _ | .tup _, .lst _, _, _ => by simp only [D.py, PyData.eqv, D.eqv]
  | .lst _, .non, _, _ | .lst _, .bl _, _, _ | .lst _, .int _, _, _ | .lst _, .str _, _, _ | .lst _, .tup _, _, _ => by simp only [D.py, PyData.eqv, D.eqv]
theorem pys_eqv : ∀ a b : List D, D.plains a = true → D.plains b = true → PyData.eqvAll (D.pys a) (D.pys b) = D.eqvs a b
  | [], [], _, _ => by simp only [D.pys, PyData.eqvAll, D.eqvs]
  | [], _ :: _, _, _ => by simp only [D.pys, PyData.eqvAll, D.eqvs]
  | _ :: _, [], _, _ => by simp only [D.pys, PyData.eqvAll, D.eqvs]
  | x :: xs, y :: ys, h, h' => by
    simp only [D.plains, Bool.and_eq_true] at h h'
    simp only [D.pys, PyData.eqvAll, D.eqvs]
    rw [py_eqv x y h.1 h'.1, pys_eqv xs ys h.2 h'.2]
end
mutual
theorem py_dp {H : Hp} {al : Addr → Prop} {π : List Addr} {K : PySem.W.Frag} : ∀ (d : D) (v : V), d.plain = true → VRel K H al π d v → Dp K H v d.py
  | .non, v, _, r => by simp only [VRel] at r; subst r; exact .non
  | .bl b, v, _, r => by simp only [VRel] at r; subst r; exact .bl b
  | .int i, v, _, r => by simp only [VRel] at r; subst r; exact .int i
  | .str s, v, _, r => by simp only [VRel] at r; subst r; exact .str s
  | .tup ds, v, h, r => by
    simp only [VRel] at r
    obtain ⟨a, xs, rfl, t, q⟩ := r
    exact .tup t.sq (pys_dp ds xs (by simpa only [D.plain] using h) q)
  | .lst ds, v, h, r => by
    simp only [VRel] at r
    obtain ⟨a, xs, rfl, t, q⟩ := r
    exact .lst t.sq (pys_dp ds xs (by simpa only [D.plain] using h) q)
  | .dct _ _, v, h, _ => by simp [D.plain] at h
  | .ref _, v, h, _ => by simp [D.plain] at h
theorem pys_dp {H : Hp} {al : Addr → Prop} {π : List Addr} {K : PySem.W.Frag} : ∀ (ds : List D) (vs : List V), D.plains ds = true → VsRel K H al π ds vs → DpAll K H vs (D.pys ds)
  | [], vs, _, r => by simp only [VsRel] at r; subst r; exact .nil
  | d :: ds, vs, h, r => by
    simp only [VsRel] at r
    obtain ⟨v, r', rfl, r1, r2⟩ := r
    simp only [D.plains, Bool.and_eq_true] at h
    exact .cons (py_dp d v h.1 r1) (pys_dp ds r' h.2 r2)
end
/-- as it stands now -/
theorem now_dp {π : List Addr} {S : Sto} {H : Hp} {d : D} {v : V} (g : GRel Γ π S H) (r : VR Γ π S H d v) (h : (d.now S).plain = true) : Dp Γ.K H v (d.now S).py := by
  cases d with
  | ref i =>
    have z : ∀ n : D, D.now (.ref i) S = n → n.plain = true → Dp Γ.K H v n.py := fun n en hn => by
      unfold D.now at en
      dsimp only at en
      split at en
      · rename_i ds e
        subst en
        simp only [VRel] at r
        obtain ⟨a, rfl, pa⟩ := r
        obtain ⟨xs, hx, q⟩ := g.obj i a _ pa e
        exact .lst (SqL.of hx) (pys_dp ds xs (by simpa only [D.plain] using hn) q)
      · subst en
        simp [D.plain] at hn
    exact z _ rfl h
  | _ => exact py_dp _ v h r
def rEqQ (K : PySem.W.Frag) (neg : Bool) : R2 := fun x y H Q => ∃ d e, Dp K H x d ∧ Dp K H y e ∧ d.canLay0 = true ∧ e.canLay0 = true ∧ min d.depth e.depth ≤ 60 ∧ Q (.bl (if neg then !PyData.eqv d e else PyData.eqv d e)) H
theorem op_eqQ (hu : X.A.units + 64 < cLine) : OpR X (compareOp .Eq) (rEqQ X.K false) := by
  intro pins s σ H x y v u Q I rx ry h
  obtain ⟨d, e, hd, he, sd, se, hm, q⟩ := h
  obtain ⟨as, r1⟩ := Dp.reads I d x v hd rx
  obtain ⟨bs, r2⟩ := Dp.reads I e y u he ry
  exact SeqAt.compareEq_reads r1 r2 sd se (by omega) ⟨.bl _, H, I, rfl, q⟩
theorem op_neQ (hu : X.A.units + 64 < cLine) : OpR X (compareOp .NotEq) (rEqQ X.K true) := by
  intro pins s σ H x y v u Q I rx ry h
  obtain ⟨d, e, hd, he, sd, se, hm, q⟩ := h
  obtain ⟨as, r1⟩ := Dp.reads I d x v hd rx
  obtain ⟨bs, r2⟩ := Dp.reads I e y u he ry
  exact SeqAt.compareNe_reads r1 r2 sd se (by omega) ⟨.bl _, H, I, rfl, q⟩
theorem od_eq : OpD Γ (rEqQ Γ.K false) gEq := by
  intro W σ π S H a b x y Q g r1 r2 p
  unfold gEq gEqB at p
  split at p
  · rename_i c e
    split at e
    · rename_i h
      cases e
      refine ⟨_, _, now_dp g r1 h.1, now_dp g r2 h.2.1, py_lay _ h.1, py_lay _ h.2.1, by rw [py_dep, py_dep]; exact h.2.2, ?_⟩
      rw [py_eqv _ _ h.1 h.2.1]
      exact PostR.okI (rel := relD Γ) g VR_bl p
    · cases e
  · exact p.elim
theorem od_ne : OpD Γ (rEqQ Γ.K true) gNe := by
  intro W σ π S H a b x y Q g r1 r2 p
  unfold gNe gEqB at p
  split at p
  · rename_i c e
    split at e
    · rename_i h
      cases e
      refine ⟨_, _, now_dp g r1 h.1, now_dp g r2 h.2.1, py_lay _ h.1, py_lay _ h.2.1, by rw [py_dep, py_dep]; exact h.2.2, ?_⟩
      rw [py_eqv _ _ h.1 h.2.1]
      exact PostR.okI (rel := relD Γ) g VR_bl p
    · cases e
  · exact p.elim
theorem VR_isN {π : List Addr} {S : Sto} {H : Hp} {d : D} {v : V} (r : VR Γ π S H d v) : decide (v = .non) = d.isN := by
  cases d <;> simp only [VRel] at r
  · subst r; rfl
  · subst r; rfl
  · subst r; rfl
  · subst r; rfl
  · obtain ⟨a, xs, rfl, _⟩ := r; rfl
  · obtain ⟨a, xs, rfl, _⟩ := r; rfl
  · obtain ⟨a, xs, rfl, _⟩ := r; rfl
  · obtain ⟨a, rfl, _⟩ := r; rfl
theorem od_isN : OpD Γ (fun x y H Q => y = .non ∧ Q (.bl (decide (x = .non))) H) gIsN := by
  intro W σ π S H a b x y Q g r1 r2 p
  unfold gIsN at p
  split at p
  · simp only [VRel] at r2
    refine ⟨r2, ?_⟩
    rw [VR_isN r1]
    exact PostR.okI (rel := relD Γ) g VR_bl p
  · exact p.elim
theorem od_notN : OpD Γ (fun x y H Q => y = .non ∧ Q (.bl (!decide (x = .non))) H) gNotN := by
  intro W σ π S H a b x y Q g r1 r2 p
  unfold gNotN at p
  split at p
  · simp only [VRel] at r2
    refine ⟨r2, ?_⟩
    rw [VR_isN r1]
    exact PostR.okI (rel := relD Γ) g VR_bl p
  · exact p.elim
end
end Mp

/-! MpO2: in, subscripts, slices; built-ins; methods of lists. -/
namespace Mp
open PySem PySem.Spec PyProof.Rows L2

section
variable {Γ : Gam} {W : WX} {X : Cx} {k : Nat}

/-! ### keys -/
theorem isKey_kD {d : D} (h : d.isKey = true) : ∃ k, d = kD k := by
  cases d with
  | int i => exact ⟨.inl i, rfl⟩
  | str s => exact ⟨.inr s, rfl⟩
  | _ => simp [D.isKey] at h
theorem VR_key {H : Hp} {al : Addr → Prop} {π : List Addr} {K : PySem.W.Frag} {k : Key} {v : V} : VRel K H al π (kD k) v ↔ v = kV k := by
  cases k <;> simp only [kD, VRel, kV]
theorem keq_kD (a b : Key) : (kD a).keq (kD b) = decide (a = b) := by
  cases a <;> cases b <;> simp [kD, D.keq, Bool.beq_eq_decide_eq]
theorem Kv_has {H : Hp} {al : Addr → Prop} {π : List Addr} {K : PySem.W.Frag} {key : Key} : ∀ {kvs : List (D × D)} {ks : List (Key × V)}, KvRel K H al π kvs ks → khas kvs (kD key) = ks.any fun kv => decide (kv.1 = key)
  | [], ks, r => by cases (show ks = [] from r); rfl
  | p :: kvs, ks, r => by
    obtain ⟨k0, v, ks', rfl, e, rv, r'⟩ := r
    have ih := Kv_has (key := key) r'
    unfold khas at ih ⊢
    rw [List.any_cons, List.any_cons, ih, e, keq_kD]
theorem Kv_get {H : Hp} {al : Addr → Prop} {π : List Addr} {K : PySem.W.Frag} {key : Key} : ∀ {kvs : List (D × D)} {ks : List (Key × V)}, KvRel K H al π kvs ks → (kget kvs (kD key) = none ∧ valV ks key = none) ∨ ∃ d v, kget kvs (kD key) = some d ∧ valV ks key = some v ∧ VRel K H al π d v
  | [], ks, r => by cases (show ks = [] from r); exact .inl ⟨rfl, rfl⟩
  | p :: kvs, ks, r => by
    obtain ⟨k0, v, ks', rfl, e, rv, r'⟩ := r
    have ih := Kv_get (key := key) r'
    have q : p.1.keq (kD key) = decide (k0 = key) := by rw [e, keq_kD]
    by_cases h : k0 = key
    · right
      refine ⟨p.2, v, ?_, valV_pos (p := (k0, v)) h, rv⟩
      unfold kget
      rw [List.find?_cons_of_pos (by rw [q]; simp [h])]
      rfl
    · rw [valV_neg (p := (k0, v)) h]
      have e2 : kget (p :: kvs) (kD key) = kget kvs (kD key) := by
        unfold kget
        rw [List.find?_cons_of_neg (by rw [q]; simp [h])]
      rw [e2]
      exact ih
theorem Kv_put {H : Hp} {al : Addr → Prop} {π : List Addr} {K : PySem.W.Frag} {key : Key} {d : D} {v : V} (rd : VRel K H al π d v) {kvs : List (D × D)} {ks : List (Key × V)} (r : KvRel K H al π kvs ks) : KvRel K H al π (kput kvs (kD key) d) (putK ks key v) := by
  unfold kput putK
  rw [Kv_has r]
  split
  · have : ∀ {kvs : List (D × D)} {ks : List (Key × V)}, KvRel K H al π kvs ks → KvRel K H al π (kvs.map fun p => if p.1.keq (kD key) = true then (p.1, d) else p) (ks.map fun kv => if kv.1 = key then (kv.1, v) else kv) := by
      intro kvs
      induction kvs with
      | nil => intro ks r; cases (show ks = [] from r); exact (rfl : _ = _)
      | cons p kvs ih =>
        intro ks r
        obtain ⟨k0, v0, ks', rfl, e, rv, r'⟩ := r
        have q : p.1.keq (kD key) = decide (k0 = key) := by rw [e, keq_kD]
        simp only [List.map_cons, q, decide_eq_true_eq]
        by_cases h : k0 = key
        · rw [if_pos h, if_pos h]
          exact ⟨k0, v, _, rfl, e, rd, ih r'⟩
        · rw [if_neg h, if_neg h]
          exact ⟨k0, v0, _, rfl, e, rv, ih r'⟩
    exact this r
  · have : ∀ {kvs : List (D × D)} {ks : List (Key × V)}, KvRel K H al π kvs ks → KvRel K H al π (kvs ++ [(kD key, d)]) (ks ++ [(key, v)]) := by
      intro kvs
      induction kvs with
      | nil => intro ks r; cases (show ks = [] from r); exact ⟨key, v, [], rfl, rfl, rd, rfl⟩
      | cons p kvs ih =>
        intro ks r
        obtain ⟨k0, v0, ks', rfl, e, rv, r'⟩ := r
        exact ⟨k0, v0, _, rfl, e, rv, ih r'⟩
    exact this r
theorem Kv_del {H : Hp} {al : Addr → Prop} {π : List Addr} {K : PySem.W.Frag} {key : Key} : ∀ {kvs : List (D × D)} {ks : List (Key × V)}, KvRel K H al π kvs ks → KvRel K H al π (kdel kvs (kD key)) (dropK ks key)
  | [], ks, r => by cases (show ks = [] from r); exact (rfl : _ = _)
  | p :: kvs, ks, r => by
    obtain ⟨k0, v0, ks', rfl, e, rv, r'⟩ := r
    have q : p.1.keq (kD key) = decide (k0 = key) := by rw [e, keq_kD]
    unfold kdel dropK
    by_cases h : k0 = key
    · rw [List.filter_cons_of_neg (by rw [q]; simp [h]), List.filter_cons_of_neg (by simp [h])]
      exact Kv_del r'
    · rw [List.filter_cons_of_pos (by rw [q]; simp [h]), List.filter_cons_of_pos (by simp [h])]
      exact ⟨k0, v0, _, rfl, e, rv, Kv_del r'⟩
theorem Kv_len {H : Hp} {al : Addr → Prop} {π : List Addr} {K : PySem.W.Frag} : ∀ {kvs : List (D × D)} {ks : List (Key × V)}, KvRel K H al π kvs ks → kvs.length = ks.length
  | [], ks, r => by cases (show ks = [] from r); rfl
  | p :: kvs, ks, r => by
    obtain ⟨k0, v0, ks', rfl, e, rv, r'⟩ := r
    simp [Kv_len r']
/-- two lists as pairs -/
theorem Kv_zip {H : Hp} {al : Addr → Prop} {π : List Addr} {K : PySem.W.Frag} : ∀ {ks vs : List D} {kvs : List (Key × V)}, VsRel K H al π ks (kvs.map fun kv => kV kv.1) → VsRel K H al π vs (kvs.map (·.2)) → KvRel K H al π (ks.zip vs) kvs
  | [], vs, kvs, r, r' => by
    simp only [VsRel] at r
    have e : kvs = [] := List.map_eq_nil_iff.mp r
    subst e
    exact (rfl : _ = _)
  | k :: ks, [], kvs, r, r' => by
    simp only [VsRel] at r r'
    have e : kvs = [] := List.map_eq_nil_iff.mp r'
    subst e
    obtain ⟨_, _, e, _⟩ := r
    cases e
  | k :: ks, v :: vs, kvs, r, r' => by
    cases kvs with
    | nil =>
      simp only [VsRel, List.map_nil] at r
      obtain ⟨_, _, e, _⟩ := r
      cases e
    | cons p kvs =>
      obtain ⟨k0, v0⟩ := p
      simp only [VsRel, List.map_cons] at r r'
      obtain ⟨_, _, e, r1, r2⟩ := r
      cases e
      obtain ⟨_, _, e, r1', r2'⟩ := r'
      cases e
      refine ⟨k0, v0, kvs, rfl, ?_, r1', Kv_zip r2 r2'⟩
      cases k with
      | int i => simp only [VRel] at r1; cases k0 <;> simp [kV] at r1; subst r1; rfl
      | str i => simp only [VRel] at r1; cases k0 <;> simp [kV] at r1; subst r1; rfl
      | non => simp only [VRel] at r1; cases k0 <;> simp [kV] at r1
      | bl b => simp only [VRel] at r1; cases k0 <;> simp [kV] at r1
      | tup ds => simp only [VRel] at r1; obtain ⟨a, xs, e, _⟩ := r1; cases k0 <;> simp [kV] at e
      | lst ds => simp only [VRel] at r1; obtain ⟨a, xs, e, _⟩ := r1; cases k0 <;> simp [kV] at e
      | kls ds => simp only [VRel] at r1; obtain ⟨a, xs, e, _⟩ := r1; cases k0 <;> simp [kV] at e
      | dct a b => simp only [VRel] at r1
      | ref i => simp only [VRel] at r1; obtain ⟨a, e, _⟩ := r1; cases k0 <;> simp [kV] at e
/-- the pairs of a dict -/
theorem pairs_ref {π : List Addr} {S : Sto} {H : Hp} {d : D} {v : V} {kvs : List (D × D)} (g : GRel Γ π S H) (r : VR Γ π S H d v) (e : pairs d S = some kvs) : ∃ a ks, v = .ref a ∧ Rd H a (.dK ks) ∧ KvRel Γ.K H (Al Γ.rs π S) π kvs ks := by
  cases d with
  | dct ks vs =>
    simp only [VRel] at r
  | ref i =>
    simp only [VRel] at r
    obtain ⟨a, ea, p⟩ := r
    simp only [pairs] at e
    split at e
    · rename_i lk es h
      cases e
      obtain ⟨ks, hx, q⟩ := g.obj i a _ p h
      refine ⟨a, ks, ea, ?_, q⟩
      cases lk with
      | true => exact .inr hx
      | false => exact .inl hx
    · cases e
  | _ => simp [pairs] at e
theorem DGet.rd {H : Hp} {a : Addr} {kvs : List (Key × V)} {k : Key} (e : Rd H a (.dK kvs)) : DGet H a (kV k) (valV kvs k) := .inl ⟨kvs, k, e, rfl, rfl⟩
theorem items_pairs {d : D} {S : Sto} {ds : List D} (h : items d S = some ds) : pairs d S = none := by
  cases d with
  | ref i =>
    simp only [items] at h
    simp only [pairs]
    split at h
    · rename_i es e; rw [e]
    · cases h
  | _ => first | rfl | (simp [items] at h)

/-! ### in -/
def rInT (K : PySem.W.Frag) (neg : Bool) : R2 := fun x y H Q => ∃ d ds a xs, y = .ref a ∧ (SqL K H a xs ∨ SqT K H a xs) ∧ Dp K H x d ∧ DpAll K H xs ds ∧ d.canLay0 = true ∧ PyData.canLayAll0 ds = true ∧ d.depth ≤ 60 ∧ Q (.bl (if neg then !ds.any fun z => PyData.eqv z d else ds.any fun z => PyData.eqv z d)) H
theorem op_inT (hu : X.A.units + 64 < cLine) : OpR X (compareOp .In) (rInT X.K false) := by
  intro pins s σ H x y v u Q I rx ry h
  obtain ⟨d, ds, a, xs, rfl, sq, hd, he, sd, se, hm, q⟩ := h
  obtain ⟨as, r1⟩ := Dp.reads I d x v hd rx
  have hr : X.A.units + 1 + min (PyData.depthAll ds) d.depth < cLine := by
    have := Nat.min_le_right (PyData.depthAll ds) d.depth
    omega
  rcases sq with sq | sq
  · obtain ⟨bs, r2⟩ := Dp.reads I (.list ds) _ u (.lst sq he) ry
    exact SeqAt.in_list_reads r2 r1 se sd hr ⟨.bl _, H, I, rfl, q⟩
  · obtain ⟨bs, r2⟩ := Dp.reads I (.tuple ds) _ u (.tup sq he) ry
    exact SeqAt.in_tuple_reads r2 r1 se sd hr ⟨.bl _, H, I, rfl, q⟩
theorem op_notInT (hu : X.A.units + 64 < cLine) : OpR X (compareOp .NotIn) (rInT X.K true) := by
  intro pins s σ H x y v u Q I rx ry h
  obtain ⟨d, ds, a, xs, rfl, sq, hd, he, sd, se, hm, q⟩ := h
  obtain ⟨as, r1⟩ := Dp.reads I d x v hd rx
  have hr : X.A.units + 1 + min (PyData.depthAll ds) d.depth < cLine := by
    have := Nat.min_le_right (PyData.depthAll ds) d.depth
    omega
  rcases sq with sq | sq
  · obtain ⟨bs, r2⟩ := Dp.reads I (.list ds) _ u (.lst sq he) ry
    exact SeqAt.notIn_list_reads r2 r1 se sd hr ⟨.bl _, H, I, rfl, q⟩
  · obtain ⟨bs, r2⟩ := Dp.reads I (.tuple ds) _ u (.tup sq he) ry
    exact SeqAt.notIn_tuple_reads r2 r1 se sd hr ⟨.bl _, H, I, rfl, q⟩
def rInK (neg : Bool) : R2 := fun x y H Q => ∃ a o, y = .ref a ∧ DGet H a x o ∧ Q (.bl (if neg then !o.isSome else o.isSome)) H
theorem op_inK (hu : X.A.units + 64 < cLine) : OpR X (compareOp .In) (rInK false) := by
  intro pins s σ H x y v u Q I rx ry h
  obtain ⟨a, o, rfl, gt, q⟩ := h
  cases ry
  exact d_in (by omega) I gt rx fun s' I' => ⟨.bl _, H, I', rfl, q⟩
theorem op_notInK (hu : X.A.units + 64 < cLine) : OpR X (compareOp .NotIn) (rInK true) := by
  intro pins s σ H x y v u Q I rx ry h
  obtain ⟨a, o, rfl, gt, q⟩ := h
  cases ry
  exact d_notIn (by omega) I gt rx fun s' I' => ⟨.bl _, H, I', rfl, q⟩
def rInS (neg : Bool) : R2 := fun x y H Q => ∃ (c : Nat) (z : Str), x = .str ⟨#[c]⟩ ∧ y = .str z ∧ Q (.bl (if neg then !decide (c ∈ z.cps.toList) else decide (c ∈ z.cps.toList))) H
def rInA (K : PySem.W.Frag) (neg : Bool) : R2 := fun x y H Q => rInS neg x y H Q ∨ rInT K neg x y H Q ∨ rInK neg x y H Q
theorem op_inA (hu : X.A.units + 64 < cLine) : OpR X (compareOp .In) (rInA X.K false) := OpR.or (r := rInS false) op_in_sign ((op_inT hu).or (op_inK hu))
theorem op_notInA (hu : X.A.units + 64 < cLine) : OpR X (compareOp .NotIn) (rInA X.K true) := OpR.or (r := rInS true) op_notIn_sign ((op_notInT hu).or (op_notInK hu))
theorem any_py {ds : List D} {a : D} (h : D.plains ds = true) (ha : a.plain = true) : ((D.pys ds).any fun z => PyData.eqv z a.py) = ds.any fun z => D.eqv z a := by
  induction ds with
  | nil => rfl
  | cons d ds ih =>
    simp only [D.plains, Bool.and_eq_true] at h
    simp only [D.pys, List.any_cons]
    rw [py_eqv d a h.1 ha, ih h.2]
theorem in_ok {σ : L2.St} {π : List Addr} {S : Sto} {H : Hp} {a b : D} {x y : V} {c : Bool} {Q : VK} {neg : Bool} (g : GRel Γ π S H) (r1 : VR Γ π S H a x) (r2 : VR Γ π S H b y) (h : gInB a b S = some c) (q : Q (.bl (if neg then !c else c)) H) : rInA Γ.K neg x y H Q := by
  unfold gInB at h
  split at h
  · rename_i z
    simp only [VRel] at r2
    subst r2
    split at h
    · rename_i x0
      split at h
      · rename_i c hc
        simp only [VRel] at r1
        cases h
        have ex : x0 = ⟨#[c]⟩ := by
          obtain ⟨l⟩ := x0
          congr 1
          exact Array.toList_inj.mp hc
        subst ex
        exact .inl ⟨c, z, r1, rfl, q⟩
      · cases h
    · cases h
  · rename_i b hb
    split at h
    · rename_i ds hi
      split at h
      · rename_i hp
        cases h
        obtain ⟨p, xs, rfl, sq, rs⟩ := items_ref g r2 hi
        refine .inr (.inl ⟨_, D.pys ds, p, xs, rfl, sq, now_dp g r1 hp.1, pys_dp ds xs hp.2.1 rs, py_lay _ hp.1, pys_lay _ hp.2.1, by rw [py_dep]; exact hp.2.2, ?_⟩)
        rw [any_py hp.2.1 hp.1]
        exact q
      · cases h
    · split at h
      · rename_i kvs hp
        split at h
        · rename_i hk
          cases h
          obtain ⟨key, rfl⟩ := isKey_kD hk
          obtain ⟨p, ks, rfl, sq, rs⟩ := pairs_ref g r2 hp
          have ex := VR_key.mp r1
          subst ex
          refine .inr (.inr ⟨p, _, rfl, DGet.rd (k := key) sq, ?_⟩)
          rw [← valV_any, ← Kv_has rs]
          exact q
        · cases h
      · cases h
theorem od_in : OpD Γ (rInA Γ.K false) gIn := by
  intro W σ π S H a b x y Q g r1 r2 p
  unfold gIn at p
  split at p
  · rename_i c e
    exact in_ok (σ := σ) g r1 r2 e (PostR.okI (rel := relD Γ) g VR_bl p)
  · exact p.elim
theorem od_notIn : OpD Γ (rInA Γ.K true) gNotIn := by
  intro W σ π S H a b x y Q g r1 r2 p
  unfold gNotIn at p
  split at p
  · rename_i c e
    exact in_ok (σ := σ) g r1 r2 e (PostR.okI (rel := relD Γ) g VR_bl p)
  · exact p.elim

/-! ### subscripts -/
theorem place_ix {n : Nat} {i : Int} : place n i = ixN n i := rfl
def rIxK : R2 := fun x y H Q => ∃ a v, x = .ref a ∧ DGet H a y (some v) ∧ Q v H
theorem ix_dict (hu : X.A.units + 64 < cLine) : IxR X rIxK := by
  intro value slice pins s σ H x y v u Q I rx ry h hs
  obtain ⟨a, w, rfl, gt, q⟩ := h
  cases rx
  exact tail_any (dict_typeIs I gt) PySem.F.slot_dict_getitem.lookup (d_getItem (by omega) I gt ry fun w' s' I' r' => ⟨w, H, I', r', q⟩) hs
def rIxA (K : PySem.W.Frag) : R2 := fun x y H Q => rIxL K x y H Q ∨ rIxT K x y H Q ∨ rIxK x y H Q
theorem ix_any (hu : X.A.units + 64 < cLine) : IxR X (rIxA X.K) := ix_list.or (ix_tup.or (ix_dict hu))
theorem od_ix : OpD Γ (rIxA Γ.K) gIx := by
  intro W σ π S H a b x y Q g r1 r2 p
  unfold gIx at p
  split at p
  · rename_i ds hi
    obtain ⟨q, xs, rfl, sq, rs⟩ := items_ref g r1 hi
    split at p
    · rename_i i
      simp only [VRel] at r2
      subst r2
      split at p
      · rename_i d hd
        cases hp : place ds.length i with
        | none => rw [hp] at hd; cases hd
        | some j =>
          rw [hp] at hd
          have hd : ds[j]? = some d := hd
          obtain ⟨v, hv, rv⟩ := rs.get hd
          have e : atI xs i = some v := by
            unfold atI
            rw [← VsRel.length rs, ← place_ix, hp]
            exact hv
          have fin := PostR.okI (rel := relD Γ) g rv p
          rcases sq with sq | sq
          · exact .inl ⟨q, xs, i, v, rfl, rfl, sq, e, fin⟩
          · exact .inr (.inl ⟨q, xs, i, v, rfl, rfl, sq, e, fin⟩)
      · exact p.elim
    · exact p.elim
  · split at p
    · rename_i kvs hp
      split at p
      · rename_i hk
        obtain ⟨key, rfl⟩ := isKey_kD hk
        obtain ⟨q, ks, rfl, sq, rs⟩ := pairs_ref g r1 hp
        have ex := VR_key.mp r2
        subst ex
        split at p
        · rename_i d hd
          rcases Kv_get (key := key) rs with ⟨e1, e2⟩ | ⟨d', v, e1, e2, rv⟩
          · rw [hd] at e1; cases e1
          · rw [hd] at e1; cases e1
            exact .inr (.inr ⟨q, v, rfl, by rw [← e2]; exact DGet.rd sq, PostR.okI (rel := relD Γ) g rv p⟩)
        · exact p.elim
      · exact p.elim
    · exact p.elim
theorem de_ix (C : Ct X Γ W k) {a b : Expr} {fa fb : Ev} {pos : Pos} (ha : DE X Γ W a fa) (hb : DE X Γ W b fb) (hs : PlainIx b := by exact fun _ _ => rfl) : DE X Γ W (.Subscript a b pos) (eBin gIx fa fb) := by
  have hK := C.K
  exact PEimp (pe_ix (ix_any C.room.units) ha hb hs) fun σ H Q h => by rw [hK]; exact tOp_of od_ix h

/-! ### slices -/
def tO (Γ : Gam) (W : WX) (f : Eo) : TO := tG Γ W (fun _ _ _ a b => a = b) f
abbrev DO (X : Cx) (Γ : Gam) (W : WX) (e : Option Expr) (f : Eo) : Prop := PO X e (tO Γ W f)
theorem POimp {e : Option Expr} {t t' : TO} (h : PO X e t) (i : ∀ σ H Q, t' σ H Q → t σ H Q) : PO X e t' := ⟨fun pins s σ H Q I q => h.run pins s σ H Q I (i _ _ _ q)⟩
theorem do_none : DO X Γ W none oNone := POimp po_none fun σ H Q ⟨ρ, S, π, x, p⟩ => PostR.okI (rel := fun _ _ _ a b => a = b) x.g rfl p
theorem do_some {e : Expr} {f : Ev} (h : DE X Γ W e f) : DO X Γ W (some e) (oSome f) := POimp (po_some h) fun σ H Q h => tG.first h fun d v H1 ρ S1 π1 x r p => by
  cases d with
  | int i =>
    simp only [relD, VRel] at r
    exact ⟨i, r, PostR.okI (rel := fun _ _ _ a b => a = b) x.g rfl p⟩
  | _ => exact p.elim
theorem cut_eq {n d : Nat} {o : Option Int} : cutI n d o = HT.sIx n d o := by cases o <;> rfl
theorem cut_rel {H : Hp} {al : Addr → Prop} {π : List Addr} {K : PySem.W.Frag} {ds : List D} {xs : List V} {lo hi : Option Int} (r : VsRel K H al π ds xs) : VsRel K H al π (cut ds lo hi) (cutV xs lo hi) := by
  unfold cut cutV
  rw [← VsRel.length r, cut_eq, cut_eq]
  exact (r.drop _).take _
def rSlQ (K : PySem.W.Frag) : V → Option Int → Option Int → Hp → VK → Prop := fun x lo hi H Q => rSlZ K x lo hi H Q ∨ rSlL K x lo hi H Q
theorem sl_any : SlR X (rSlQ X.K) := sl_tupZ.or sl_list
theorem de_sl (C : Ct X Γ W k) {e : Expr} {lo hi : Option Expr} {f : Ev} {fl fh : Eo} {p2 pos : Pos} (he : DE X Γ W e f) (hl : DO X Γ W lo fl) (hh : DO X Γ W hi fh) : DE X Γ W (.Subscript e (.Slice lo hi none p2) pos) (eSl f fl fh) := by
  refine PEimp (pe_slice sl_any he hl hh) fun σ H Q h => ?_
  refine tG.first h fun d v H1 ρ S1 π1 x r1 p => ?_
  refine ⟨ρ, S1, π1, x, PostR.bind p fun lo S2 lo' π2 H2 g2 k2 e2 p2 => ?_⟩
  cases e2
  have x2 := x.to g2 k2
  refine ⟨ρ, S2, π2, x2, PostR.bind p2 fun hi S3 hi' π3 H3 g3 k3 e3 p3 => ?_⟩
  cases e3
  have r3 := VRel.mono (k2.trans k3) _ _ r1
  rw [C.K]
  unfold gSl at p3
  split at p3
  · rename_i ds
    have q3 := r3
    simp only [VRel] at r3
    obtain ⟨a, xs, rfl, t, rs⟩ := r3
    refine .inl ⟨a, xs, rfl, t.sq, fun hw => ?_, fun _ => post_tup g3 (cut_rel rs) p3⟩
    have hc : cut ds lo hi = ds := by
      unfold cut
      rw [cut_eq, cut_eq, VsRel.length rs, hw.1, hw.2]
      simp [← VsRel.length rs]
    rw [hc] at p3
    exact PostR.okI (rel := relD Γ) g3 q3 p3
  · split at p3
    · rename_i ds hi
      obtain ⟨a, xs, rfl, t, rs⟩ := litems_ref g3 r3 hi
      exact .inr ⟨a, xs, rfl, .inl t, post_lst g3 (cut_rel rs) p3⟩
    · exact p3.elim

/-! ### built-ins by values -/
def BD (Γ : Gam) (r : List V → Hp → VK → Prop) (g : List D → Sto → R D) : Prop := ∀ (W : WX) (σ : L2.St) π S H ds vs Q, GRel Γ π S H → VsR Γ π S H ds vs → PostR Γ W σ π S H (relD Γ) (g ds S) Q → r vs H Q
theorem tCB_of {r : List V → Hp → VK → Prop} {g : List D → Sto → R D} {f : Ea} {σ : L2.St} {H : Hp} {Q : VK} (hb : BD Γ r g) (h : tM Γ W (eB g f) σ H Q) : tCB r (tA Γ W f) σ H Q :=
  tG.first h fun ds vs H1 ρ S1 π1 x r1 p => hb W σ π1 S1 H1 ds vs Q x.g r1 p
/-- f(e, ..), f a built-in function -/
theorem de_b {id : String} {r : List V → Hp → VK → Prop} {g : List D → Sto → R D} {x : Str} {p pos : Pos} {e : Expr} {es : List Expr} {f : Ea} (hc : CallR X (.builtin id) r) (hb : BD Γ r g) (hg : Gl X x) (hm : X.mg x = none) (hv : bootBuiltins x = some (.builtin id)) (ha : DA X Γ W (e :: es) f) (hn : x ≠ "__name__" := by decide) (hdb : (x == ("__debug__" : Str)) = false := by decide)
    (he : starEach (e :: es) X.env = (false, eval e X.env) :: starEach es X.env := by rfl) (hpl : (backTo pos (starEach es X.env)).any (·.1) = false := by rfl) : DE X Γ W (.Call (.Name x p) (e :: es) [] pos) (eB g f) :=
  PEimp (pe_callB hc hg hm hv ha hn hdb he hpl) fun σ H Q h => tCB_of hb h
theorem de_ty {T : String} {r : List V → Hp → VK → Prop} {g : List D → Sto → R D} {x : Str} {p pos : Pos} {e : Expr} {es : List Expr} {f : Ea} (hc : CallR X (.type T) r) (hb : BD Γ r g) (hg : Gl X x) (hm : X.mg x = none) (hv : bootBuiltins x = some (.type T)) (ha : DA X Γ W (e :: es) f) (hn : x ≠ "__name__" := by decide) (hdb : (x == ("__debug__" : Str)) = false := by decide)
    (he : starEach (e :: es) X.env = (false, eval e X.env) :: starEach es X.env := by rfl) (hpl : (backTo pos (starEach es X.env)).any (·.1) = false := by rfl) : DE X Γ W (.Call (.Name x p) (e :: es) [] pos) (eB g f) :=
  PEimp (pe_callTy hc hg hm hv ha hn hdb he hpl) fun σ H Q h => tCB_of hb h
theorem VsR_one {π : List Addr} {S : Sto} {H : Hp} {d : D} {vs : List V} (r : VsR Γ π S H [d] vs) : ∃ v, vs = [v] ∧ VR Γ π S H d v := by
  simp only [VsRel] at r
  obtain ⟨v, r, rfl, h, rfl⟩ := r
  exact ⟨v, rfl, h⟩
theorem VsR_two {π : List Addr} {S : Sto} {H : Hp} {d e : D} {vs : List V} (r : VsR Γ π S H [d, e] vs) : ∃ v u, vs = [v, u] ∧ VR Γ π S H d v ∧ VR Γ π S H e u := by
  simp only [VsRel] at r
  obtain ⟨v, r, rfl, h, u, r2, rfl, h2, rfl⟩ := r
  exact ⟨v, u, rfl, h, h2⟩
/-- len -/
def rLenD : List V → Hp → VK → Prop := fun xs H Q => ∃ a kvs, xs = [.ref a] ∧ Rd H a (.dK kvs) ∧ Q (.int kvs.length) H
theorem call_lenDQ : CallR X (.builtin "len") rLenD := by
  intro pins s σ H xs us Q I r h
  obtain ⟨a, kvs, rfl, hd, q⟩ := h
  obtain ⟨u, rfl, r1⟩ := vals1 r
  cases r1
  exact d_len I hd fun t s' I' => ⟨.int kvs.length, H, I', ⟨_, rfl⟩, q⟩
def rLenA (K : PySem.W.Frag) : List V → Hp → VK → Prop := fun xs H Q => (∃ z, xs = [.str z] ∧ z.length ≤ sizeLine ∧ Q (.int z.length) H) ∨ (∃ p ys, xs = [.ref p] ∧ (SqL K H p ys ∨ SqT K H p ys) ∧ Q (.int ys.length) H) ∨ rLenD xs H Q
theorem call_lenA : CallR X (.builtin "len") (rLenA X.K) := call_len_str.or (call_len_seq.or call_lenDQ)
theorem bd_len : BD Γ (rLenA Γ.K) bLen := by
  intro W σ π S H ds vs Q g r p
  unfold bLen at p
  split at p
  · obtain ⟨v, rfl, rv⟩ := VsR_one r
    simp only [VRel] at rv
    subst rv
    split at p
    · rename_i hl
      exact .inl ⟨_, rfl, by rw [lineEq]; exact hl, PostR.okI (rel := relD Γ) g VR_int p⟩
    · exact p.elim
  · obtain ⟨v, rfl, rv⟩ := VsR_one r
    split at p
    · rename_i ds hi
      obtain ⟨a, xs, rfl, sq, rs⟩ := items_ref g rv hi
      exact .inr (.inl ⟨a, xs, rfl, sq, by rw [← VsRel.length rs]; exact PostR.okI (rel := relD Γ) g VR_int p⟩)
    · split at p
      · rename_i kvs hp
        obtain ⟨a, ks, rfl, sq, rs⟩ := pairs_ref g rv hp
        exact .inr (.inr ⟨a, ks, rfl, sq, by rw [← Kv_len rs]; exact PostR.okI (rel := relD Γ) g VR_int p⟩)
      · exact p.elim
  · exact p.elim
def rListOf (K : PySem.W.Frag) : List V → Hp → VK → Prop := fun xs H Q => ∃ p ys, xs = [.ref p] ∧ (SqL K H p ys ∨ SqT K H p ys) ∧ ∀ l, H l = none → Q (.ref l) (upd H l (.lst ys))
theorem call_listA : CallR X (.type "list") (rListOf X.K) := call_list_of
theorem bd_list : BD Γ (rListOf Γ.K) bList := by
  intro W σ π S H ds vs Q g r p
  unfold bList at p
  split at p
  · obtain ⟨v, rfl, rv⟩ := VsR_one r
    split at p
    · rename_i ds hi
      obtain ⟨a, xs, rfl, sq, rs⟩ := items_ref g rv hi
      exact ⟨a, xs, rfl, sq, post_lst g rs p⟩
    · exact p.elim
  · exact p.elim
theorem bd_listM : BD Γ (rListOf Γ.K) bListM := by
  intro W σ π S H ds vs Q g r p
  unfold bListM at p
  split at p
  · obtain ⟨v, rfl, rv⟩ := VsR_one r
    split at p
    · rename_i ds hi
      obtain ⟨a, xs, rfl, sq, rs⟩ := items_ref g rv hi
      exact ⟨a, xs, rfl, sq, post_lstM g rs p⟩
    · exact p.elim
  · exact p.elim
def rTupOf (K : PySem.W.Frag) : List V → Hp → VK → Prop := fun xs H Q => ∃ p ys, xs = [.ref p] ∧ ((SqL K H p ys ∧ NewT H ys Q) ∨ (SqT K H p ys ∧ Q (.ref p) H))
theorem call_tupA : CallR X (.type "tuple") (rTupOf X.K) := call_tupleZ
theorem bd_tup : BD Γ (rTupOf Γ.K) bTuple := by
  intro W σ π S H ds vs Q g r p
  unfold bTuple at p
  split at p
  · rename_i d
    obtain ⟨v, rfl, rv⟩ := VsR_one r
    split at p
    · rename_i ds hi
      cases hd : d with
      | tup es =>
        subst hd
        cases hi
        have q := rv
        simp only [VRel] at rv
        obtain ⟨a, xs, rfl, t, rs⟩ := rv
        exact ⟨a, xs, rfl, .inr ⟨t.sq, PostR.okI (rel := relD Γ) g q p⟩⟩
      | lst es =>
        subst hd
        obtain ⟨a, xs, rfl, t, rs⟩ := litems_ref (ds := ds) g rv hi
        exact ⟨a, xs, rfl, .inl ⟨.inl t, post_tup g rs p⟩⟩
      | kls es =>
        subst hd
        cases hi
        simp only [VRel] at rv
        obtain ⟨a, xs, rfl, t, rs⟩ := rv
        exact ⟨a, xs, rfl, .inl ⟨t.sq, post_tup g rs p⟩⟩
      | ref i =>
        subst hd
        obtain ⟨a, xs, rfl, t, rs⟩ := litems_ref (ds := ds) g rv hi
        exact ⟨a, xs, rfl, .inl ⟨.inl t, post_tup g rs p⟩⟩
      | _ => subst hd; simp [items] at hi
    · exact p.elim
  · exact p.elim
theorem blsOf_rel {H : Hp} {al : Addr → Prop} {π : List Addr} {K : PySem.W.Frag} : ∀ {ds : List D} {bs : List Bool} {xs : List V}, blsOf ds = some bs → VsRel K H al π ds xs → xs = bs.map V.bl
  | [], bs, xs, h, r => by simp only [VsRel] at r; subst r; simp only [blsOf] at h; cases h; rfl
  | d :: ds, bs, xs, h, r => by
    simp only [VsRel] at r
    obtain ⟨v, r', rfl, r1, r2⟩ := r
    cases d with
    | bl b =>
      simp only [blsOf] at h
      cases e : blsOf ds with
      | none => rw [e] at h; cases h
      | some bs' =>
        rw [e] at h
        cases h
        simp only [VRel] at r1
        rw [r1, blsOf_rel e r2]
        rfl
    | _ => simp [blsOf] at h
theorem bd_all : BD Γ (rAll Γ.K) bAll := by
  intro W σ π S H ds vs Q g r p
  unfold bAll at p
  split at p
  · rename_i d
    obtain ⟨v, rfl, rv⟩ := VsR_one r
    split at p
    · rename_i bs hb
      cases hi : litems d S with
      | none => rw [hi] at hb; cases hb
      | some ds =>
        rw [hi] at hb
        obtain ⟨a, xs, rfl, t, rs⟩ := litems_ref g rv hi
        have e := blsOf_rel hb rs
        subst e
        exact ⟨a, bs, rfl, .inl t, PostR.okI (rel := relD Γ) g VR_bl p⟩
    · exact p.elim
  · exact p.elim
theorem bd_any : BD Γ (rAny Γ.K) bAny := by
  intro W σ π S H ds vs Q g r p
  unfold bAny at p
  split at p
  · rename_i d
    obtain ⟨v, rfl, rv⟩ := VsR_one r
    split at p
    · rename_i bs hb
      cases hi : litems d S with
      | none => rw [hi] at hb; cases hb
      | some ds =>
        rw [hi] at hb
        obtain ⟨a, xs, rfl, t, rs⟩ := litems_ref g rv hi
        have e := blsOf_rel hb rs
        subst e
        exact ⟨a, bs, rfl, .inl t, PostR.okI (rel := relD Γ) g VR_bl p⟩
    · exact p.elim
  · exact p.elim
end
end Mp

/-! MpO3: methods of lists and dicts, dicts made, sorted, isinstance; stores. -/
namespace Mp
open PySem PySem.Spec PyProof.Rows L2

section
variable {Γ : Gam} {W : WX} {X : Cx} {k : Nat}

/-- a list of the store is changed -/
theorem put_lst {σ : L2.St} {π : List Addr} {S : Sto} {H : Hp} {i : Nat} {a : Addr} {o : O} {ds : List D} {xs : List V} {d : D} {v : V} {Q : VK} (g : GRel Γ π S H) (hi : π[i]? = some a) (ho : S[i]? = some o) (hn : o.live = true) (r : VsR Γ π S H ds xs) (rv : VR Γ π S H d v)
    (p : PostR Γ W σ π S H (relD Γ) (.ok d (S.set i (.lst ds))) Q) : Q v (upd H a (.lst xs)) := by
  obtain ⟨g', k'⟩ := g.put (o' := .lst ds) (u := .lst xs) hi ho hn rfl fun k => ⟨xs, upd_same, VsRel.mono k _ _ r⟩
  exact p v π _ g' k' (VRel.mono k' _ _ rv)
theorem put_dct {σ : L2.St} {π : List Addr} {S : Sto} {H : Hp} {i : Nat} {a : Addr} {o : O} {ds : List (D × D)} {xs : List (Key × V)} {d : D} {v : V} {Q : VK} (g : GRel Γ π S H) (hi : π[i]? = some a) (ho : S[i]? = some o) (hn : o.live = true) (r : KvRel Γ.K H (Al Γ.rs π S) π ds xs) (rv : VR Γ π S H d v)
    (p : PostR Γ W σ π S H (relD Γ) (.ok d (S.set i (.dct false ds))) Q) : Q v (upd H a (.dK xs)) := by
  obtain ⟨g', k'⟩ := g.put (o' := .dct false ds) (u := .dK xs) hi ho hn rfl fun k => ⟨xs, upd_same, r.mono k⟩
  exact p v π _ g' k' (VRel.mono k' _ _ rv)

/-! ### methods of lists -/
def MD (Γ : Gam) (r : V → List V → Hp → VK → Prop) (g : D → List D → Sto → R D) : Prop := ∀ (W : WX) (σ : L2.St) π S H d ds x vs Q, GRel Γ π S H → VR Γ π S H d x → VsR Γ π S H ds vs → PostR Γ W σ π S H (relD Γ) (g d ds S) Q → r x vs H Q
theorem tyV_of {π : List Addr} {S : Sto} {H : Hp} {d : D} {v : V} {ds : List D} (g : GRel Γ π S H) (r : VR Γ π S H d v) (e : litems d S = some ds) : tyV Γ.K "list" v H := by
  obtain ⟨a, xs, rfl, t, _⟩ := litems_ref g r e
  exact Or.inl ⟨rfl, _, Or.inl t⟩
theorem de_ml {name : Str} {id : String} {r : V → List V → Hp → VK → Prop} {g : D → List D → Sto → R D} {o e : Expr} {es : List Expr} {f : Ev} {fa : Ea} {apos cpos : Pos} (C : Ct X Γ W k) (slot : Slot "list" name id) (hty : typeOf (.builtin id) = pure (.type "method_descriptor")) (hm : MtR X id r) (hd : MD Γ r g) (ho : DE X Γ W o f) (ha : DA X Γ W (e :: es) fa)
    (hbase : attributeBase o name X.env (eval o X.env) = eval o X.env := by rfl)
    (hfew : ((backTo cpos (starEach (e :: es) X.env)).all (fun x => !x.1) && (backToKw cpos (keywordEach [] X.env)).all (fun x => x.1.isSome)
      && decide ((e :: es).length + ([] : List Keyword).length + (if ([] : List Keyword).isEmpty then 0 else 1) < 30)) = true := by rfl)
    (hline : (apos.endLine == cpos.line) = true := by rfl) (hs : starEach (e :: es) X.env = (false, eval e X.env) :: starEach es X.env := by rfl) (hplain : (backTo cpos (starEach es X.env)).any (·.1) = false := by rfl) :
    DE X Γ W (.Call (.Attribute o name apos) (e :: es) [] cpos) (eML g f fa) := by
  have hK := C.K
  refine PEimp (pe_bm PySem.F.plainAttrs_list slot hty hm ho ha hbase hfew hline hs hplain) fun σ H Q h => ?_
  refine tG.first h fun d v H1 ρ S1 π1 x r1 p => ?_
  try dsimp only at p
  split at p
  · rename_i es' he
    refine ⟨by rw [hK]; exact tyV_of x.g r1 he, ρ, S1, π1, x, PostR.bind p fun ds S2 vs π2 H2 g2 k2 r2 p2 => ?_⟩
    exact hd W σ π2 S2 H2 d ds v vs Q g2 (VRel.mono k2 _ _ r1) r2 p2
  · exact p.elim
theorem de_ml0 {name : Str} {id : String} {r : V → List V → Hp → VK → Prop} {g : D → List D → Sto → R D} {o : Expr} {f : Ev} {apos cpos : Pos} (C : Ct X Γ W k) (slot : Slot "list" name id) (hty : typeOf (.builtin id) = pure (.type "method_descriptor")) (hm : MtR X id r) (hd : MD Γ r g) (ho : DE X Γ W o f)
    (hbase : attributeBase o name X.env (eval o X.env) = eval o X.env := by rfl) (hline : (apos.endLine == cpos.line) = true := by rfl) : DE X Γ W (.Call (.Attribute o name apos) [] [] cpos) (eML g f aNil) := by
  have hK := C.K
  refine PEimp (pe_bm0 PySem.F.plainAttrs_list slot hty hm ho hbase hline) fun σ H Q h => ?_
  refine tG.first h fun d v H1 ρ S1 π1 x r1 p => ?_
  try dsimp only at p
  split at p
  · rename_i es' he
    exact ⟨by rw [hK]; exact tyV_of x.g r1 he, hd W σ π1 S1 H1 d [] v [] Q x.g r1 VsRel.nil p⟩
  · exact p.elim
theorem md_append : MD Γ rAppend mAppend := by
  intro W σ π S H d ds x vs Q g r1 r2 p
  unfold mAppend at p
  split at p
  · rename_i i d
    obtain ⟨y, rfl, ry⟩ := VsR_one r2
    simp only [VRel] at r1
    obtain ⟨a, rfl, pa⟩ := r1
    split at p
    · rename_i es he
      split at p
      · rename_i hl
        obtain ⟨xs, hx, q⟩ := g.obj i a _ pa he
        exact ⟨a, xs, y, rfl, rfl, hx, by rw [lineEq, ← VsRel.length q]; exact hl, put_lst g pa he rfl (VsRel.append q (VsRel.one ry)) VR_non p⟩
      · exact p.elim
    · exact p.elim
  · exact p.elim
theorem VsRel.dropLast {H : Hp} {al : Addr → Prop} {π : List Addr} {K : PySem.W.Frag} {ds : List D} {xs : List V} (r : VsRel K H al π ds xs) : VsRel K H al π ds.dropLast xs.dropLast := by
  rw [List.dropLast_eq_take, List.dropLast_eq_take, ← VsRel.length r]
  exact r.take _
theorem VsRel.erase {H : Hp} {al : Addr → Prop} {π : List Addr} {K : PySem.W.Frag} {ds : List D} {xs : List V} (n : Nat) (r : VsRel K H al π ds xs) : VsRel K H al π (ds.eraseIdx n) (xs.eraseIdx n) := by
  rw [List.eraseIdx_eq_take_drop_succ, List.eraseIdx_eq_take_drop_succ]
  exact (r.take _).append (r.drop _)
theorem md_pop0 : MD Γ rPop mPop0 := by
  intro W σ π S H d ds x vs Q g r1 r2 p
  unfold mPop0 at p
  split at p
  · rename_i i
    simp only [VsRel] at r2
    subst r2
    simp only [VRel] at r1
    obtain ⟨a, rfl, pa⟩ := r1
    split at p
    · rename_i es he
      split at p
      · rename_i d hd
        obtain ⟨xs, hx, q⟩ := g.obj i a _ pa he
        obtain ⟨v, hv, rv⟩ := q.get hd
        exact ⟨a, xs, v, rfl, rfl, hx, by rw [← VsRel.length q]; exact hv, put_lst g pa he rfl q.dropLast rv p⟩
      · exact p.elim
    · exact p.elim
  · exact p.elim
theorem md_popAt : MD Γ rPopAt mPopAt := by
  intro W σ π S H d ds x vs Q g r1 r2 p
  unfold mPopAt at p
  split at p
  · rename_i i j
    obtain ⟨y, rfl, ry⟩ := VsR_one r2
    simp only [VRel] at ry r1
    subst ry
    obtain ⟨a, rfl, pa⟩ := r1
    split at p
    · rename_i es he
      obtain ⟨xs, hx, q⟩ := g.obj i a _ pa he
      split at p
      · rename_i hj
        split at p
        · rename_i n hp
          split at p
          · rename_i d hd
            obtain ⟨v, hv, rv⟩ := q.get hd
            rw [place_ix, VsRel.length q] at hp
            obtain ⟨h1, h2, h3, h4⟩ := ixN_seq hp
            exact ⟨a, xs, j, n, v, rfl, rfl, hx, hj.1, hj.2, h1, hv, put_lst g pa he rfl (q.erase n) rv p⟩
          · exact p.elim
        · exact p.elim
      · exact p.elim
    · exact p.elim
  · exact p.elim
theorem findIdx_py {a : D} (ha : a.plain = true) : ∀ {ds : List D} {j : Nat}, D.plains ds = true → ixOf ds a = some j → ∃ z, (D.pys ds)[j]? = some z ∧ PyData.eqv z a.py = true ∧ ∀ (m : Nat) (z' : PyData), m < j → (D.pys ds)[m]? = some z' → PyData.eqv z' a.py = false
  | [], j, _, h => by simp [ixOf] at h
  | d :: ds, j, hp, h => by
    simp only [D.plains, Bool.and_eq_true] at hp
    unfold ixOf at h
    rw [List.findIdx?_cons] at h
    split at h
    · rename_i he
      cases h
      exact ⟨d.py, rfl, by rw [py_eqv d a hp.1 ha]; exact he, fun m z' hm => by omega⟩
    · rename_i he
      cases e : List.findIdx? (fun z => D.eqv z a) ds with
      | none => rw [e] at h; cases h
      | some i =>
        rw [e] at h
        cases h
        obtain ⟨z, h1, h2, h3⟩ := findIdx_py ha hp.2 e
        refine ⟨z, by simpa [D.pys] using h1, h2, fun m z' hm hz => ?_⟩
        cases m with
        | zero =>
          simp [D.pys] at hz
          subst hz
          rw [py_eqv d a hp.1 ha]
          simpa using he
        | succ m => exact h3 m z' (Nat.lt_of_succ_lt_succ hm) (by simpa [D.pys] using hz)
theorem md_index : MD Γ (rIndexD Γ.K) mIndex := by
  intro W σ π S H d ds x vs Q g r1 r2 p
  unfold mIndex at p
  split at p
  · rename_i d
    obtain ⟨y, rfl, ry⟩ := VsR_one r2
    split at p
    · rename_i es he
      obtain ⟨a, xs, rfl, t, q⟩ := litems_ref g r1 he
      split at p
      · rename_i hp
        split at p
        · rename_i j hj
          obtain ⟨z, h1, h2, h3⟩ := findIdx_py hp.2.2.1 hp.1 hj
          have hl : (D.py (.lst es)).canLay0 = true := py_lay _ (by simpa only [D.plain] using hp.1)
          have hl : (PyData.list (D.pys es)).canLay0 = true := by simpa only [D.py] using hl
          refine ⟨a, y, d.py, D.pys es, j, z, rfl, rfl, .lst (.inl t) (pys_dp es xs hp.1 q), py_dp d y hp.2.2.1 ry, ?_, ?_, h1, h2, h3, PostR.okI (rel := relD Γ) g VR_int p⟩
          · show (PyData.canLay0 (.list (D.pys es)) && decide (PyData.depth (.list (D.pys es)) ≤ 64)) = true
            rw [Bool.and_eq_true]
            refine ⟨hl, decide_eq_true ?_⟩
            simp only [PyData.depth]
            rw [pys_dep]
            omega
          · show (PyData.canLay0 d.py && decide (PyData.depth d.py ≤ 64)) = true
            rw [Bool.and_eq_true]
            refine ⟨py_lay _ hp.2.2.1, decide_eq_true ?_⟩
            rw [py_dep]
            omega
        · exact p.elim
      · exact p.elim
    · exact p.elim
  · exact p.elim

/-! ### methods of dicts -/
theorem isD_of {π : List Addr} {S : Sto} {H : Hp} {d : D} {v : V} {ds : List (D × D)} (g : GRel Γ π S H) (r : VR Γ π S H d v) (e : pairs d S = some ds) : ∃ a, v = .ref a ∧ IsD H a := by
  obtain ⟨a, ks, rfl, t, _⟩ := pairs_ref g r e
  exact ⟨a, rfl, .inl ⟨ks, t⟩⟩
theorem de_dget1 (C : Ct X Γ W k) {o e : Expr} {apos cpos : Pos} {f fe : Ev} (ho : DE X Γ W o f) (he : DE X Γ W e fe) (m : M1 X o "get" apos e cpos) : DE X Γ W (.Call (.Attribute o "get" apos) [e] [] cpos) (eMD mGet1 f (aCons fe aNil)) := by
  refine PEimp (pe_dget1 (Nat.lt_of_le_of_lt (by omega) C.room.units) ho he m) fun σ H Q h => ?_
  refine tG.first h fun d v H1 ρ S1 π1 x r1 p => ?_
  try dsimp only at p
  split at p
  · rename_i es' hes
    obtain ⟨a, rfl, hd⟩ := isD_of x.g r1 hes
    refine ⟨a, rfl, hd, ρ, S1, π1, x, ?_⟩
    have p' : PostR Γ W σ π1 S1 H1 (relD Γ) ((fe ρ S1).bind fun y S2 => mGet1 d [y] S2) Q := by
      unfold aCons aNil at p
      cases e : fe ρ S1 with
      | ok y S2 => rw [e] at p; exact p
      | ex c S2 => rw [e] at p; exact p
      | bad => rw [e] at p; exact p
    refine PostR.bind p' fun y S2 yv π2 H2 g2 k2 r2 p2 => ?_
    unfold mGet1 at p2
    dsimp only at p2
    split at p2
    · rename_i kvs hp
      split at p2
      · rename_i hk
        obtain ⟨key, rfl⟩ := isKey_kD hk
        obtain ⟨b, ks, eb, sq, rs⟩ := pairs_ref g2 (VRel.mono k2 _ _ r1) hp
        cases eb
        have ex := VR_key.mp r2
        subst ex
        refine ⟨_, DGet.rd sq, ?_⟩
        rcases Kv_get (key := key) rs with ⟨e1, e2⟩ | ⟨d', v, e1, e2, rv⟩
        · rw [e1] at p2; rw [e2]
          exact PostR.okI (rel := relD Γ) g2 VR_non p2
        · rw [e1] at p2; rw [e2]
          exact PostR.okI (rel := relD Γ) g2 rv p2
      · exact p2.elim
    · exact p2.elim
  · exact p.elim
/-- two arguments, one after the other -/
theorem two_args {fe fz : Ev} {σ : L2.St} {ρ : Env} {S1 : Sto} {π1 : List Addr} {H1 : Hp} {g : D → List D → Sto → R D} {d : D} {Q : VK} (p : PostR Γ W σ π1 S1 H1 (relD Γ) ((aCons fe (aCons fz aNil) ρ S1).bind fun ds S2 => g d ds S2) Q) :
    PostR Γ W σ π1 S1 H1 (relD Γ) ((fe ρ S1).bind fun y S2 => (fz ρ S2).bind fun z S3 => g d [y, z] S3) Q := by
  unfold aCons at p
  cases e : fe ρ S1 with
  | ok y S2 =>
    rw [e] at p
    simp only [R.bind] at p ⊢
    unfold aNil at p
    cases e2 : fz ρ S2 with
    | ok z S3 => rw [e2] at p; exact p
    | ex c S3 => rw [e2] at p; exact p
    | bad => rw [e2] at p; exact p
  | ex c S2 => rw [e] at p; exact p
  | bad => rw [e] at p; exact p
theorem de_dget2 (C : Ct X Γ W k) {o e z : Expr} {apos cpos : Pos} {f fe fz : Ev} (ho : DE X Γ W o f) (he : DE X Γ W e fe) (hz : DE X Γ W z fz) (m : M2 X o "get" apos e z cpos) : DE X Γ W (.Call (.Attribute o "get" apos) [e, z] [] cpos) (eMD mGet2 f (aCons fe (aCons fz aNil))) := by
  refine PEimp (pe_dget2 (Nat.lt_of_le_of_lt (by omega) C.room.units) ho he hz m) fun σ H Q h => ?_
  refine tG.first h fun d v H1 ρ S1 π1 x r1 p => ?_
  try dsimp only at p
  split at p
  · rename_i es' hes
    obtain ⟨a, rfl, hd⟩ := isD_of x.g r1 hes
    refine ⟨a, rfl, hd, ρ, S1, π1, x, ?_⟩
    refine PostR.bind (two_args p) fun y S2 yv π2 H2 g2 k2 r2 p2 => ?_
    have x2 := x.to g2 k2
    refine ⟨ρ, S2, π2, x2, PostR.bind p2 fun w S3 wv π3 H3 g3 k3 r3 p3 => ?_⟩
    unfold mGet2 at p3
    dsimp only at p3
    split at p3
    · rename_i kvs hp
      split at p3
      · rename_i hk
        obtain ⟨key, rfl⟩ := isKey_kD hk
        obtain ⟨b, ks, eb, sq, rs⟩ := pairs_ref g3 (VRel.mono (k2.trans k3) _ _ r1) hp
        cases eb
        have ex := VR_key.mp r2
        subst ex
        refine ⟨_, DGet.rd sq, ?_⟩
        rcases Kv_get (key := key) rs with ⟨e1, e2⟩ | ⟨d', v, e1, e2, rv⟩
        · rw [e1] at p3; rw [e2]
          exact PostR.okI (rel := relD Γ) g3 r3 p3
        · rw [e1] at p3; rw [e2]
          exact PostR.okI (rel := relD Γ) g3 rv p3
      · exact p3.elim
    · exact p3.elim
  · exact p.elim
theorem de_dpop1 (C : Ct X Γ W k) {o e : Expr} {apos cpos : Pos} {f fe : Ev} (ho : DE X Γ W o f) (he : DE X Γ W e fe) (m : M1 X o "pop" apos e cpos) : DE X Γ W (.Call (.Attribute o "pop" apos) [e] [] cpos) (eMD mDPop f (aCons fe aNil)) := by
  refine PEimp (pe_dpop1 ho he m) fun σ H Q h => ?_
  refine tG.first h fun d v H1 ρ S1 π1 x r1 p => ?_
  try dsimp only at p
  split at p
  · rename_i es' hes
    obtain ⟨a, rfl, hd⟩ := isD_of x.g r1 hes
    refine ⟨a, rfl, hd, ρ, S1, π1, x, ?_⟩
    have p' : PostR Γ W σ π1 S1 H1 (relD Γ) ((fe ρ S1).bind fun y S2 => mDPop d [y] S2) Q := by
      unfold aCons aNil at p
      cases e : fe ρ S1 with
      | ok y S2 => rw [e] at p; exact p
      | ex c S2 => rw [e] at p; exact p
      | bad => rw [e] at p; exact p
    refine PostR.bind p' fun y S2 yv π2 H2 g2 k2 r2 p2 => ?_
    unfold mDPop at p2
    split at p2
    · rename_i i y' ed
      cases ed
      split at p2
      · rename_i kvs he'
        split at p2
        · rename_i hk
          obtain ⟨key, rfl⟩ := isKey_kD hk
          have ex := VR_key.mp r2
          subst ex
          have r1' := VRel.mono k2 _ _ r1
          simp only [VRel] at r1'
          obtain ⟨b, eb, pb⟩ := r1'
          cases eb
          obtain ⟨ks, hx, q⟩ := g2.obj i a _ pb he'
          split at p2
          · rename_i d' hd'
            rcases Kv_get (key := key) q with ⟨e1, e2⟩ | ⟨d2, v, e1, e2, rv⟩
            · rw [hd'] at e1; cases e1
            · rw [hd'] at e1; cases e1
              exact ⟨ks, key, v, hx, rfl, e2, put_dct g2 pb he' rfl (Kv_del q) rv p2⟩
          · exact p2.elim
        · exact p2.elim
      · exact p2.elim
    · exact p2.elim
  · exact p.elim
theorem de_dpop2 (C : Ct X Γ W k) {o e z : Expr} {apos cpos : Pos} {f fe fz : Ev} (ho : DE X Γ W o f) (he : DE X Γ W e fe) (hz : DE X Γ W z fz) (m : M2 X o "pop" apos e z cpos) : DE X Γ W (.Call (.Attribute o "pop" apos) [e, z] [] cpos) (eMD mDPop2 f (aCons fe (aCons fz aNil))) := by
  refine PEimp (pe_dpop2 ho he hz m) fun σ H Q h => ?_
  refine tG.first h fun d v H1 ρ S1 π1 x r1 p => ?_
  try dsimp only at p
  split at p
  · rename_i es' hes
    obtain ⟨a, rfl, hd⟩ := isD_of x.g r1 hes
    refine ⟨a, rfl, hd, ρ, S1, π1, x, ?_⟩
    refine PostR.bind (two_args p) fun y S2 yv π2 H2 g2 k2 r2 p2 => ?_
    have x2 := x.to g2 k2
    refine ⟨ρ, S2, π2, x2, PostR.bind p2 fun w S3 wv π3 H3 g3 k3 r3 p3 => ?_⟩
    unfold mDPop2 at p3
    split at p3
    · rename_i i y' z' ed
      cases ed
      split at p3
      · rename_i kvs he'
        split at p3
        · rename_i hk
          obtain ⟨key, rfl⟩ := isKey_kD hk
          have ex := VR_key.mp r2
          subst ex
          have r1' := VRel.mono (k2.trans k3) _ _ r1
          simp only [VRel] at r1'
          obtain ⟨b, eb, pb⟩ := r1'
          cases eb
          obtain ⟨ks, hx, q⟩ := g3.obj i a _ pb he'
          rcases Kv_get (key := key) q with ⟨e1, e2⟩ | ⟨d2, v, e1, e2, rv⟩
          · rw [e1] at p3
            exact ⟨ks, key, hx, rfl, (fun v hv => by rw [e2] at hv; cases hv), fun _ => PostR.okI (rel := relD Γ) g3 r3 p3⟩
          · rw [e1] at p3
            refine ⟨ks, key, hx, rfl, (fun v' hv => ?_), fun hn => by rw [e2] at hn; cases hn⟩
            rw [e2] at hv; cases hv
            exact put_dct g3 pb he' rfl (Kv_del q) rv p3
        · exact p3.elim
      · exact p3.elim
    · exact p3.elim
  · exact p.elim

/-! ### dicts made -/
theorem new_dct {σ : L2.St} {π : List Addr} {S : Sto} {H : Hp} {ds : List (D × D)} {xs : List (Key × V)} {Q : VK} (g : GRel Γ π S H) (r : KvRel Γ.K H (Al Γ.rs π S) π ds xs) (p : PostR Γ W σ π S H (relD Γ) (.ok (.ref S.length) (S ++ [.dct false ds])) Q) : ∀ a, H a = none → Q (.ref a) (upd H a (.dK xs)) := fun a ha => by
  obtain ⟨g', k'⟩ := g.push (u := .dK xs) (o := .dct false ds) ha fun k => ⟨xs, upd_same, r.mono k⟩
  refine p (.ref a) _ _ g' k' ?_
  show VRel _ _ _ _ _ _
  simp only [VRel]
  exact ⟨a, rfl, by rw [← g.len]; simp⟩
theorem de_dnew {pos : Pos} : DE X Γ W (.Dict [] [] pos) eDNew := PEimp pe_dnewK fun σ H Q ⟨ρ, S, π, x, p⟩ => new_dct x.g (show KvRel _ _ _ _ [] [] from rfl) p
theorem pairOf_rel {H : Hp} {al : Addr → Prop} {π : List Addr} {K : PySem.W.Frag} {d : D} {p : D × D} {v : V} (h : pairOf d = some p) (r : VRel K H al π d v) : ∃ a key w, v = .ref a ∧ SqT K H a [kV key, w] ∧ p.1 = kD key ∧ VRel K H al π p.2 w := by
  unfold pairOf at h
  split at h
  · rename_i kk vv
    split at h
    · rename_i hk
      cases h
      obtain ⟨key, rfl⟩ := isKey_kD hk
      simp only [VRel, VsRel] at r
      obtain ⟨a, xs, rfl, t, k1, r1, e1, rk, w, r2, e2, rw', e3⟩ := r
      subst e3; subst e2; subst e1
      have := VR_key.mp rk
      subst this
      exact ⟨a, key, w, rfl, t.sq, rfl, rw'⟩
    · cases h
  · cases h
theorem pairsOf_rel {H : Hp} {al : Addr → Prop} {π : List Addr} {K : PySem.W.Frag} : ∀ {ds : List D} {ps : List (D × D)} {vs : List V}, pairsOf ds = some ps → VsRel K H al π ds vs → ∃ as kvs, vs = as.map V.ref ∧ Paired (fun p (kv : Key × V) => SqT K H p [kV kv.1, kv.2]) as kvs ∧ KvRel K H al π ps kvs
  | [], ps, vs, h, r => by
    simp only [VsRel] at r
    simp only [pairsOf] at h
    cases h
    exact ⟨[], [], by rw [r]; rfl, .nil, rfl⟩
  | d :: ds, ps, vs, h, r => by
    simp only [VsRel] at r
    obtain ⟨v, r', rfl, r1, r2⟩ := r
    simp only [pairsOf] at h
    split at h
    · rename_i p q h1 h2
      cases h
      obtain ⟨a, key, w, rfl, t, e, rv⟩ := pairOf_rel h1 r1
      obtain ⟨as, kvs, rfl, pr, kr⟩ := pairsOf_rel h2 r2
      exact ⟨a :: as, (key, w) :: kvs, rfl, .cons t pr, ⟨key, w, kvs, rfl, e, rv, kr⟩⟩
    · cases h
theorem Kv_merge {H : Hp} {al : Addr → Prop} {π : List Addr} {K : PySem.W.Frag} : ∀ {ps acc : List (D × D)} {kvs ks : List (Key × V)}, KvRel K H al π ps kvs → KvRel K H al π acc ks → KvRel K H al π (kmerge acc ps) (mergeK ks kvs)
  | [], acc, kvs, ks, r, r' => by cases (show kvs = [] from r); exact r'
  | p :: ps, acc, kvs, ks, r, r' => by
    obtain ⟨key, v, kvs', rfl, e, rv, r2⟩ := r
    show KvRel K H al π (kmerge (kput acc p.1 p.2) ps) (mergeK (putK ks key v) kvs')
    rw [e]
    exact Kv_merge r2 (Kv_put rv r')
def rDictOf (K : PySem.W.Frag) : List V → Hp → VK → Prop := fun xs H Q => (∃ (a : Addr) (ps : List Addr) (kvs : List (Key × V)), xs = [.ref a] ∧ SqL K H a (ps.map V.ref) ∧ Paired (fun p kv => SqT K H p [kV kv.1, kv.2]) ps kvs ∧ ∀ p, H p = none → Q (.ref p) (upd H p (.dK (mergeK [] kvs)))) ∨
  (∃ (a : Addr) (ps : List Addr) (kvs : List (Key × V)), xs = [.ref a] ∧ BareT K H a (ps.map V.ref) ∧ Paired (fun p kv => SqT K H p [kV kv.1, kv.2]) ps kvs ∧ ∀ p, H p = none → Q (.ref p) (upd H p (.dK (mergeK [] kvs))))
theorem call_dictA (hc : X.calm = true) : CallR X (.type "dict") (rDictOf X.K) := (call_dictP hc).or (call_dictT hc)
theorem bd_dict : BD Γ (rDictOf Γ.K) bDictM := by
  intro W σ π S H ds vs Q g r p
  unfold bDictM at p
  split at p
  · rename_i d
    obtain ⟨v, rfl, rv⟩ := VsR_one r
    split at p
    · rename_i ps hps
      cases hi : items d S with
      | none => rw [hi] at hps; cases hps
      | some es =>
        rw [hi] at hps
        have hps : pairsOf es = some ps := hps
        have fin : ∀ {kvs : List (Key × V)}, KvRel Γ.K H (Al Γ.rs π S) π ps kvs → ∀ p, H p = none → Q (.ref p) (upd H p (.dK (mergeK [] kvs))) := fun kr => new_dct g (Kv_merge kr (show KvRel _ _ _ _ [] [] from rfl)) p
        cases d with
        | tup es' =>
          cases hi
          simp only [VRel] at rv
          obtain ⟨a, xs, rfl, t, rs⟩ := rv
          obtain ⟨as, kvs, rfl, pr, kr⟩ := pairsOf_rel hps rs
          exact .inr ⟨a, as, kvs, rfl, t.imp (fun ⟨ob, h1, h2, _⟩ => ⟨ob, h1, h2⟩) id, pr, fin kr⟩
        | lst es' =>
          obtain ⟨a, xs, rfl, t, rs⟩ := litems_ref (ds := es) g rv hi
          obtain ⟨as, kvs, rfl, pr, kr⟩ := pairsOf_rel hps rs
          exact .inl ⟨a, as, kvs, rfl, .inl t, pr, fin kr⟩
        | kls es' =>
          cases hi
          simp only [VRel] at rv
          obtain ⟨a, xs, rfl, t, rs⟩ := rv
          obtain ⟨as, kvs, rfl, pr, kr⟩ := pairsOf_rel hps rs
          exact .inl ⟨a, as, kvs, rfl, t.sq, pr, fin kr⟩
        | ref i =>
          obtain ⟨a, xs, rfl, t, rs⟩ := litems_ref (ds := es) g rv hi
          obtain ⟨as, kvs, rfl, pr, kr⟩ := pairsOf_rel hps rs
          exact .inl ⟨a, as, kvs, rfl, .inl t, pr, fin kr⟩
        | _ => simp [items] at hi
    · exact p.elim
  · exact p.elim
/-- dict(d) -/
def rDictCp : List V → Hp → VK → Prop := fun xs H Q => ∃ a kvs, xs = [.ref a] ∧ Rd H a (.dK kvs) ∧ ∀ p, H p = none → Q (.ref p) (upd H p (.dK kvs))
theorem call_dictC : CallR X (.type "dict") rDictCp := by
  intro pins s σ H xs us Q I r h
  obtain ⟨a, kvs, rfl, hd, q⟩ := h
  obtain ⟨u, rfl, r1⟩ := vals1 r
  cases r1
  exact d_copyOf I hd fun p s' hp I' => ⟨.ref p, _, I', rfl, q p hp⟩
theorem bd_dictC : BD Γ rDictCp bDictCM := by
  intro W σ π S H ds vs Q g r p
  unfold bDictCM at p
  split at p
  · obtain ⟨v, rfl, rv⟩ := VsR_one r
    split at p
    · rename_i kvs hp
      obtain ⟨a, ks, rfl, t, q⟩ := pairs_ref g rv hp
      exact ⟨a, ks, rfl, t, new_dct g q p⟩
    · exact p.elim
  · exact p.elim

/-! ### sorted -/
theorem insI_perm (x : Int) : ∀ l, (insI x l).Perm (x :: l)
  | [] => .refl _
  | y :: r => by
    unfold insI
    split
    · exact .refl _
    · exact ((insI_perm x r).cons y).trans (.swap x y r)
theorem sortI_perm : ∀ l, (sortI l).Perm l
  | [] => .refl _
  | x :: r => (insI_perm x _).trans ((sortI_perm r).cons x)
theorem insI_sorted (x : Int) : ∀ l : List Int, l.Pairwise (· ≤ ·) → (insI x l).Pairwise (· ≤ ·)
  | [], _ => by simp [insI]
  | y :: r, h => by
    have h' := List.pairwise_cons.mp h
    unfold insI
    split
    · rename_i hle
      exact List.pairwise_cons.mpr ⟨fun z hz => by
        rcases List.mem_cons.mp hz with e | hz
        · rw [e]; exact hle
        · exact Int.le_trans hle (h'.1 z hz), h⟩
    · rename_i hle
      refine List.pairwise_cons.mpr ⟨fun z hz => ?_, insI_sorted x r h'.2⟩
      rcases List.mem_cons.mp ((insI_perm x r).mem_iff.mp hz) with e | hz
      · rw [e]; omega
      · exact h'.1 z hz
theorem sortI_sorted : ∀ l : List Int, (sortI l).Pairwise (· ≤ ·)
  | [] => .nil
  | x :: r => insI_sorted x _ (sortI_sorted r)
theorem sortI_unique {ns ms : List Int} (h : ms.Perm ns) (hs : ms.Pairwise (· ≤ ·)) : ms = sortI ns := PySem.W.ksm_same (h.trans (sortI_perm ns).symm) hs (sortI_sorted ns)
theorem intsOf_rel {H : Hp} {al : Addr → Prop} {π : List Addr} {K : PySem.W.Frag} : ∀ {ds : List D} {ns : List Int} {xs : List V}, intsOf ds = some ns → VsRel K H al π ds xs → xs = ns.map V.int
  | [], ns, xs, h, r => by simp only [VsRel] at r; subst r; simp only [intsOf] at h; cases h; rfl
  | d :: ds, ns, xs, h, r => by
    simp only [VsRel] at r
    obtain ⟨v, r', rfl, r1, r2⟩ := r
    cases d with
    | int b =>
      simp only [intsOf] at h
      cases e : intsOf ds with
      | none => rw [e] at h; cases h
      | some bs' =>
        rw [e] at h
        cases h
        simp only [VRel] at r1
        rw [r1, intsOf_rel e r2]
        rfl
    | _ => simp [intsOf] at h
theorem ints_rel {H : Hp} {al : Addr → Prop} {π : List Addr} {K : PySem.W.Frag} : ∀ ns : List Int, VsRel K H al π (ns.map D.int) (ns.map V.int)
  | [] => VsRel.nil
  | n :: ns => VsRel.cons (by simp only [VRel]) (ints_rel ns)
theorem bd_sortedI : BD Γ (rSortedI Γ.K) bSortedI := by
  intro W σ π S H ds vs Q g r p
  unfold bSortedI at p
  split at p
  · rename_i d
    obtain ⟨v, rfl, rv⟩ := VsR_one r
    split at p
    · rename_i ns hns
      cases hi : litems d S with
      | none => rw [hi] at hns; cases hns
      | some es =>
        rw [hi] at hns
        have hns : intsOf es = some ns := hns
        obtain ⟨a, xs, rfl, t, rs⟩ := litems_ref g rv hi
        have e := intsOf_rel hns rs
        subst e
        refine ⟨a, ns, rfl, .inl t, fun ms q h1 h2 h3 => ?_⟩
        rw [sortI_unique h1 h2]
        exact post_lst g (ints_rel _) p q h3
    · exact p.elim
  · exact p.elim
theorem keys_ints {H : Hp} {al : Addr → Prop} {π : List Addr} {K : PySem.W.Frag} : ∀ {kvs : List (D × D)} {ks : List (Key × V)} {ns : List Int}, KvRel K H al π kvs ks → intsOf (kvs.map (·.1)) = some ns → ks.map (·.1) = ns.map Sum.inl
  | [], ks, ns, r, h => by cases (show ks = [] from r); simp only [List.map_nil, intsOf] at h; cases h; rfl
  | p :: kvs, ks, ns, r, h => by
    obtain ⟨key, v, ks', rfl, e, rv, r'⟩ := r
    cases key with
    | inr x => simp only [List.map_cons, e, kD, intsOf] at h; cases h
    | inl i =>
      simp only [List.map_cons, e, kD, intsOf] at h
      cases e2 : intsOf (kvs.map (·.1)) with
      | none => rw [e2] at h; cases h
      | some ms =>
        rw [e2] at h
        cases h
        simp only [List.map_cons]
        rw [keys_ints r' e2]
def rSortedDI : List V → Hp → VK → Prop := fun xs H Q => ∃ (a : Addr) (kvs : List (Key × V)) (ks : List Int), xs = [.ref a] ∧ Rd H a (.dK kvs) ∧ kvs.map (·.1) = ks.map Sum.inl ∧ ks.length < 64 ∧
    ∀ (ys : List Int) (p : Addr), ys.Perm ks → ys.Pairwise (· ≤ ·) → H p = none → Q (.ref p) (upd H p (.lst (ys.map V.int)))
theorem call_sortedDIQ (hc : X.calm = true) : CallR X (.builtin "sorted") rSortedDI := call_sortedDI hc
theorem bd_sortedDI : BD Γ rSortedDI bSortedDI := by
  intro W σ π S H ds vs Q g r p
  unfold bSortedDI at p
  split at p
  · rename_i d
    obtain ⟨v, rfl, rv⟩ := VsR_one r
    split at p
    · rename_i kvs hp
      split at p
      · rename_i ns hns
        split at p
        · rename_i hl
          obtain ⟨a, ks, rfl, t, q⟩ := pairs_ref g rv hp
          refine ⟨a, ks, ns, rfl, t, keys_ints q hns, hl, fun ms q h1 h2 h3 => ?_⟩
          rw [sortI_unique h1 h2]
          exact post_lst g (ints_rel _) p q h3
        · exact p.elim
      · exact p.elim
    · exact p.elim
  · exact p.elim

/-! ### isinstance -/
def Ty.name : Ty → String
  | .bool => "bool"
  | .int => "int"
  | .str => "str"
  | .tuple => "tuple"
  | .list => "list"
  | .dict => "dict"
theorem kit_all (t : Ty) : kitB "NoneType" t.name = some false ∧ kitB "bool" t.name = some (t == .bool || t == .int) ∧ kitB "int" t.name = some (t == .int) ∧ kitB "str" t.name = some (t == .str) ∧ kitB "tuple" t.name = some (t == .tuple) ∧ kitB "list" t.name = some (t == .list) ∧ kitB "dict" t.name = some (t == .dict) := by
  cases t <;> decide +kernel
theorem isT_ok {π : List Addr} {S : Sto} {H : Hp} {d : D} {v : V} {t : Ty} {b : Bool} (g : GRel Γ π S H) (r : VR Γ π S H d v) (h : isT t d S = some b) : ∃ u, TyX Γ.K H v u ∧ PySem.W.kitOne Γ.K u (.type t.name) = some b := by
  obtain ⟨k0, k1, k2, k3, k4, k5, k6⟩ := kit_all t
  cases d with
  | non => simp only [VRel] at r; subst r; simp only [isT] at h; cases h; exact ⟨_, .base .non, kit_ty k0⟩
  | bl x => simp only [VRel] at r; subst r; simp only [isT] at h; cases h; exact ⟨_, .base (.bl x), kit_ty k1⟩
  | int x => simp only [VRel] at r; subst r; simp only [isT] at h; cases h; exact ⟨_, .base (.int x), kit_ty k2⟩
  | str x => simp only [VRel] at r; subst r; simp only [isT] at h; cases h; exact ⟨_, .base (.str x), kit_ty k3⟩
  | tup ds =>
    simp only [VRel] at r
    obtain ⟨a, xs, rfl, t, _⟩ := r
    simp only [isT] at h; cases h
    rcases t with ⟨ob, h1, _⟩ | ⟨o, its, n, h1, h2, _⟩
    · exact ⟨_, .fTuple h1, kit_ty k4⟩
    · exact ⟨_, .kTuple h1 h2, kit_ty k4⟩
  | lst ds =>
    simp only [VRel] at r
    obtain ⟨a, xs, rfl, t, _⟩ := r
    simp only [isT] at h; cases h
    rcases t.1 with h1 | ⟨o, h1⟩
    · exact ⟨_, .base (.lst h1), kit_ty k5⟩
    · exact ⟨_, .base (.frz h1), kit_ty k5⟩
  | kls ds => simp [isT] at h
  | dct ks vs => simp only [VRel] at r
  | ref i =>
    simp only [VRel] at r
    obtain ⟨a, rfl, pa⟩ := r
    simp only [isT] at h
    split at h
    · rename_i ds e
      cases h
      obtain ⟨xs, hx, _⟩ := g.obj i a _ pa e
      exact ⟨_, .base (.lst hx), kit_ty k5⟩
    · rename_i lk kvs e
      cases h
      obtain ⟨ks, hx, _⟩ := g.obj i a _ pa e
      cases lk with
      | false => exact ⟨_, .base (.dK hx), kit_ty k6⟩
      | true => obtain ⟨od, hx⟩ := hx; exact ⟨_, .fDict hx, kit_ty k6⟩
    · cases h
/-- isinstance(e, T) -/
theorem de_isT (C : Ct X Γ W k) {t : Ty} {T : Str} {p q pos : Pos} {e : Expr} {f : Ev} (he : DE X Γ W e f) (hg : Gl X "isinstance") (hm : X.mg "isinstance" = none) (hgT : Gl X T) (hmT : X.mg T = none) (hT : bootBuiltins T = some (.type t.name)) (hTn : T ≠ "__name__" := by decide) (hTd : (T == ("__debug__" : Str)) = false := by decide)
    (hv : bootBuiltins "isinstance" = some (.builtin "isinstance") := by decide +kernel)
    (hs1 : starEach [.Name T q] X.env = [(false, eval (.Name T q) X.env)] := by rfl) (hs : starEach [e, .Name T q] X.env = (false, eval e X.env) :: starEach [.Name T q] X.env := by rfl) (hpl : (backTo pos (starEach [.Name T q] X.env)).any (·.1) = false := by rfl) :
    DE X Γ W (.Call (.Name "isinstance" p) [e, .Name T q] [] pos) (eUn (gIsT t) f) := by
  have hK := C.K
  have hpt : PE X (.Name T q) (tC (.ty t.name)) := pe_bltn hgT hmT hT rfl hTn hTd
  refine PEimp (pe_callB call_isi hg hm hv (pa_cons he (pa_cons hpt pa_nil hs1) hs) (by decide) (by decide) hs hpl) fun σ H Q h => ?_
  refine tG.first h fun d v H1 ρ S1 π1 x r p => ?_
  unfold gIsT at p
  split at p
  · rename_i b hb
    obtain ⟨u, ty, kt⟩ := isT_ok x.g r hb
    rw [hK]
    exact ⟨v, .ty t.name, u, .type t.name, b, rfl, .ty _, ty, kt, PostR.okI (rel := relD Γ) x.g VR_bl p⟩
  · exact p.elim

/-! ### int, max, min -/
def rInt1 : List V → Hp → VK → Prop := fun xs H Q => (∃ i, xs = [.int i] ∧ Q (.int i) H) ∨ ∃ k, xs = [.bl k] ∧ Q (.int (if k then 1 else 0)) H
theorem call_intQ : CallR X (.type "int") rInt1 := call_int1
theorem bd_int : BD Γ rInt1 bInt := by
  intro W σ π S H ds vs Q g r p
  unfold bInt at p
  split at p
  · obtain ⟨v, rfl, rv⟩ := VsR_one r
    simp only [VRel] at rv
    subst rv
    exact .inl ⟨_, rfl, PostR.okI (rel := relD Γ) g VR_int p⟩
  · obtain ⟨v, rfl, rv⟩ := VsR_one r
    simp only [VRel] at rv
    subst rv
    exact .inr ⟨_, rfl, PostR.okI (rel := relD Γ) g VR_int p⟩
  · exact p.elim
def rMax2 : List V → Hp → VK → Prop := fun xs H Q => ∃ i j, xs = [.int i, .int j] ∧ Q (.int (if j > i then j else i)) H
def rMin2 : List V → Hp → VK → Prop := fun xs H Q => ∃ i j, xs = [.int i, .int j] ∧ Q (.int (if j < i then j else i)) H
theorem call_maxQ (hc : X.calm = true) : CallR X (.builtin "max") rMax2 := call_max2 hc
theorem call_minQ (hc : X.calm = true) : CallR X (.builtin "min") rMin2 := call_min2 hc
theorem bd_max : BD Γ rMax2 bMax2 := by
  intro W σ π S H ds vs Q g r p
  unfold bMax2 at p
  split at p
  · obtain ⟨v, u, rfl, rv, ru⟩ := VsR_two r
    simp only [VRel] at rv ru
    subst rv; subst ru
    exact ⟨_, _, rfl, PostR.okI (rel := relD Γ) g VR_int p⟩
  · exact p.elim
theorem bd_min : BD Γ rMin2 bMin2 := by
  intro W σ π S H ds vs Q g r p
  unfold bMin2 at p
  split at p
  · obtain ⟨v, u, rfl, rv, ru⟩ := VsR_two r
    simp only [VRel] at rv ru
    subst rv; subst ru
    exact ⟨_, _, rfl, PostR.okI (rel := relD Γ) g VR_int p⟩
  · exact p.elim

/-! ### frozen from here on -/
theorem de_frz {e : Expr} {f : Ev} (h : DE X Γ W e f) : DE X Γ W e (eFrz f) := by
  refine PEimp h fun σ H Q h => tG.first h fun d v H1 ρ S1 π1 x r p => ?_
  cases d with
  | ref i =>
    dsimp only at p
    split at p
    · rename_i ds e
      simp only [relD, VRel] at r
      obtain ⟨a, rfl, pa⟩ := r
      have il : i < S1.length := (List.getElem?_eq_some_iff.mp e).1
      obtain ⟨xs, hx, q⟩ := x.g.obj i a _ pa e
      obtain ⟨g', k'⟩ := x.g.freeze il
      refine p (.ref a) π1 H1 g' k' ?_
      show VRel _ _ _ _ _ _
      simp only [VRel]
      refine ⟨a, xs, rfl, ⟨.inl hx, fun z => ?_⟩, VsRel.mono k' _ _ q⟩
      rcases z with z | ⟨j, o, hj, ho, hg⟩
      · exact x.g.rsN a z (List.mem_of_getElem? pa)
      · have : j = i := nd_ix x.g.nd hj pa
        subst this
        rw [List.getElem?_set_self il] at ho
        cases ho
        cases hg
    · exact p.elim
  | _ => exact p.elim

/-! ### stores -/
theorem ds_par (C : Ct X Γ W k) {i j : Nat} {x y : Str} {a b : Expr} {f g : Ev} {px py pt : Pos} {kt k2 pt2} {pos : Pos} (hi : X.N[i]? = some x) (hj : X.N[j]? = some y) (hij : i ≠ j)
    (hx : X.env.scope.names.lookup x = some .local) (hy : X.env.scope.names.lookup y = some .local) (ha : DA X Γ W [a, b] (aCons f (aCons g aNil)))
    (hw : swappedStores [.Tuple [.Name x px, .Name y py] kt pt] (.Tuple [a, b] k2 pt2) X.env = pure (some [x, y]))
    (hs : swapsWithSole [.Tuple [.Name x px, .Name y py] kt pt] (.Tuple [a, b] k2 pt2) pos.line X.env = pure false := by rfl) :
    DS X Γ W (.Assign [.Tuple [.Name x px, .Name y py] kt pt] (.Tuple [a, b] k2 pt2) pos) (sPar i j (aCons f (aCons g aNil))) := by
  refine PSimp (ps_par C.calm C.nd hi hj hij hx hy ha hw hs) fun E σ H h => tS.first h fun ds vs H1 ρ S1 π1 x r p => ?_
  try dsimp only at p
  split at p
  · obtain ⟨v, w, rfl, rv, rw'⟩ := VsR_two r
    exact ⟨v, w, rfl, p _ π1 H1 ((x.set i rv).set j rw') Keep.refl⟩
  · exact p.elim
theorem PSetOr {t t' : TSet} (h : PSet X t) (h' : PSet X t') : PSet X (fun o i v H Q => t o i v H Q ∨ t' o i v H Q) := by
  intro pins s σ H o i v ov iv u Q I r1 r2 r3 q
  rcases q with q | q
  · exact h pins s σ H o i v ov iv u Q I r1 r2 r3 q
  · exact h' pins s σ H o i v ov iv u Q I r1 r2 r3 q
def rSetD : TSet := fun o i v H Q => ∃ a H', o = .ref a ∧ DPut H a i v H' ∧ Q H'
theorem set_dict (hu : X.A.units + 64 < cLine) : PSet X rSetD := by
  intro pins s σ H o i v ov iv u Q I r1 r2 r3 h
  obtain ⟨a, H', rfl, g, q⟩ := h
  cases r1
  exact d_setItem (by omega) I g r2 r3 fun s' I' => ⟨H', I', q⟩
theorem ds_sub {o i e : Expr} {fo fi fe : Ev} {pos pos' : Pos} {t : TSet} {g : D → D → D → Sto → Option Sto} (ht : PSet X t)
    (hg : ∀ (W : WX) (π : List Addr) (S S' : Sto) (H : Hp) (a b c : D) (x y z : V) (Q : Hp → Prop), GRel Γ π S H → VR Γ π S H a x → VR Γ π S H b y → VR Γ π S H c z → g a b c S = some S' → (∀ H', GRel Γ π S' H' → Kp Γ π S H π S' H' → Q H') → t x y z H Q)
    (ho : DE X Γ W o fo) (hi : DE X Γ W i fi) (he : DE X Γ W e fe) (hs : swapsWithSole [.Subscript o i pos'] e pos.line X.env = pure false := by rfl) (hw : swappedStores [.Subscript o i pos'] e X.env = pure none := by rfl)
    (h1 : (assignEach [.Subscript o i pos'] X.env).map (·.2) = [assign (.Subscript o i pos') X.env] := by rfl)
    (ha : ∀ v, assign (.Subscript o i pos') X.env v = (do
      let ov ← holding [v] (eval o X.env)
      let iv ← holding [v, ov] (eval i X.env)
      standAt pos'
      holding [v, ov, iv] (setItem ov iv v)
      release [v, ov, iv] []) := by intro _; rfl) : DS X Γ W (.Assign [.Subscript o i pos'] e pos) (sSub g fo fi fe) := by
  refine PSimp (ps_asg he (pg_sub ho hi ht ha) hs hw h1) fun E σ H h => ?_
  refine tS.first h fun d v H1 ρ S1 π1 x r p => ?_
  have hx : tS Γ W (fun ρ S => (fo ρ S).then ρ fun x S2 => (fi ρ S2).then ρ fun y S3 => match g x y d S3 with
    | some S4 => .nx ρ S4
    | none => .bad) E σ H1 := ⟨ρ, S1, π1, x, p⟩
  obtain ⟨ρ, S1, π1, x, p⟩ : ∃ ρ S π, Rel Γ π ρ S σ H1 ∧ VR Γ π S H1 d v ∧ PostS Γ W E π S H1 ((fo ρ S).then ρ fun x S2 => (fi ρ S2).then ρ fun y S3 => match g x y d S3 with
    | some S4 => .nx ρ S4
    | none => .bad) := ⟨ρ, S1, π1, x, r, p⟩
  obtain ⟨r, p⟩ := p
  refine ⟨ρ, S1, π1, x, ?_⟩
  cases eo : fo ρ S1 with
  | bad => rw [eo] at p; exact p
  | ex c S2 => rw [eo] at p; exact fun π' H' g' k' => p σ π' H' (x.to g' k') k'
  | ok a S2 =>
  rw [eo] at p
  intro ov π2 H2 g2 k2 r2
  have x2 := x.to g2 k2
  have p2 := PostS.later k2 p
  refine ⟨ρ, S2, π2, x2, ?_⟩
  simp only [R.then] at p2
  cases ei : fi ρ S2 with
  | bad => rw [ei] at p2; exact p2
  | ex c S3 => rw [ei] at p2; exact fun π' H' g' k' => p2 σ π' H' (x2.to g' k') k'
  | ok b S3 =>
  rw [ei] at p2
  intro iv π3 H3 g3 k3 r3
  have p3 := PostS.later k3 p2
  simp only at p3
  split at p3
  · rename_i S4 eg
    exact hg W π3 S3 S4 H3 a b d ov iv v _ g3 (VRel.mono k3 _ _ r2) r3 (VRel.mono (k2.trans k3) _ _ r) eg fun H' g' k' => p3 σ π3 H' ((x2.to g3 k3).to g' k') k'
  · exact p3.elim
theorem sg_lst (W : WX) (π : List Addr) (S S' : Sto) (H : Hp) (a b c : D) (x y z : V) (Q : Hp → Prop) (g : GRel Γ π S H) (r1 : VR Γ π S H a x) (r2 : VR Γ π S H b y) (r3 : VR Γ π S H c z) (e : gSetL a b c S = some S') (q : ∀ H', GRel Γ π S' H' → Kp Γ π S H π S' H' → Q H') : rSetL x y z H Q := by
  unfold gSetL at e
  split at e
  · rename_i n j
    split at e
    · rename_i ds he
      split at e
      · rename_i m hm
        cases e
        simp only [VRel] at r1 r2
        obtain ⟨p, rfl, pa⟩ := r1
        subst r2
        obtain ⟨xs, hx, rs⟩ := g.obj n p _ pa he
        obtain ⟨g', k'⟩ := g.put (o' := .lst (ds.set m c)) (u := .lst (xs.set m z)) pa he rfl rfl fun k => ⟨_, upd_same, VsRel.mono k _ _ (rs.set r3 m)⟩
        exact ⟨p, xs, j, m, rfl, rfl, hx, by rw [← VsRel.length rs, ← place_ix]; exact hm, q _ g' k'⟩
      · cases e
    · cases e
  · cases e
theorem sg_dct (W : WX) (π : List Addr) (S S' : Sto) (H : Hp) (a b c : D) (x y z : V) (Q : Hp → Prop) (g : GRel Γ π S H) (r1 : VR Γ π S H a x) (r2 : VR Γ π S H b y) (r3 : VR Γ π S H c z) (e : gSetD a b c S = some S') (q : ∀ H', GRel Γ π S' H' → Kp Γ π S H π S' H' → Q H') : rSetD x y z H Q := by
  unfold gSetD at e
  split at e
  · rename_i n
    split at e
    · rename_i kvs he
      split at e
      · rename_i hk
        cases e
        simp only [VRel] at r1
        obtain ⟨p, rfl, pa⟩ := r1
        obtain ⟨key, rfl⟩ := isKey_kD hk.1
        have := VR_key.mp r2
        subst this
        obtain ⟨ks, hx, rs⟩ := g.obj n p _ pa he
        obtain ⟨g', k'⟩ := g.put (o' := .dct false (kput kvs (kD key) c)) (u := .dK (putK ks key z)) pa he rfl rfl fun k => ⟨_, upd_same, (Kv_put r3 rs).mono k⟩
        exact ⟨p, _, rfl, DPut.k hx (by rw [lineEq, ← Kv_len rs]; exact hk.2), q _ g' k'⟩
      · cases e
    · cases e
  · cases e
end
end Mp

/-! MpO4: enumerate, zip: over lists, tuples, texts. -/
namespace Mp
open PySem PySem.Spec PyProof.Rows L2

/-- what an iterator runs over -/
inductive Src where
  | lst (a : Addr)
  | tup (a : Addr)
  | txt (x : Str)
theorem valsV {xs : List V} {us : List Value} (h : Vals xs us) : ∀ {j : Nat} {v : Value}, us[j]? = some v → ∃ x, xs[j]? = some x ∧ RelV x v := by
  induction h with
  | nil => intro j v e; simp at e
  | cons r rr ih =>
    intro j v e
    cases j with
    | zero => simp at e; subst e; exact ⟨_, rfl, r⟩
    | succ j => obtain ⟨x, hx, rx⟩ := ih (j := j) (v := v) (by simpa using e); exact ⟨x, by simpa using hx, rx⟩
namespace Src
def fp : Src → List Addr
  | .lst a => [a]
  | .tup a => [a]
  | .txt _ => []
def val : Src → V
  | .lst a => .ref a
  | .tup a => .ref a
  | .txt x => .str x
def items (K : PySem.W.Frag) (H : Hp) : Src → List V → Prop
  | .lst a, xs => SqL K H a xs
  | .tup a, xs => SqT K H a xs
  | .txt x, xs => xs = x.cps.toList.map fun c => V.str ⟨#[c]⟩
def iter (it : Addr) (i : Nat) (h : Heap) : Src → Prop
  | .lst a => h.IsListIter it a i
  | .tup a => h.IsTupleIter it a i
  | .txt x => ∃ t, h.IsStrIter it (strIterType x) x t i
theorem iter_obj {it : Addr} {i : Nat} {h : Heap} : ∀ {S : Src}, S.iter it i h → ∃ o, h.get? it = some o ∧ ∀ v, o.data ≠ .cell v
  | .lst a, ⟨o, ho, _, hd⟩ => ⟨o, ho, fun v q => by rw [hd] at q; cases q⟩
  | .tup a, ⟨o, ho, _, hd⟩ => ⟨o, ho, fun v q => by rw [hd] at q; cases q⟩
  | .txt x, ⟨t, o, ho, _, hd⟩ => ⟨o, ho, fun v q => by rw [hd] at q; cases q⟩
theorem iter_at {it : Addr} {i : Nat} {h h' : Heap} : ∀ {S : Src}, S.iter it i h → (∀ o, h.get? it = some o → h'.get? it = some o) → S.iter it i h'
  | .lst a, ⟨o, ho, r⟩, k => ⟨o, k o ho, r⟩
  | .tup a, ⟨o, ho, r⟩, k => ⟨o, k o ho, r⟩
  | .txt x, ⟨t, o, ho, r⟩, k => ⟨t, o, k o ho, r⟩
section
variable {X : Cx} {pins : List (Addr × Obj)} {σ : L2.St} {H : Hp} {s : Shared}
theorem inj (I : Inv X pins σ H s) : ∀ {S : Src} {xs ys : List V}, S.items X.K H xs → S.items X.K H ys → xs = ys
  | .lst a, _, _, h, h' => I.list_inj h h'
  | .tup a, _, _, h, h' => I.tuple_inj h h'
  | .txt x, _, _, h, h' => by rw [show _ = _ from h, show _ = _ from h']
theorem lt (I : Inv X pins σ H s) : ∀ {S : Src} {xs : List V}, S.items X.K H xs → ∀ b ∈ S.fp, b < s.heap.objs.size
  | .lst a, xs, h, b, hb => by
    obtain ⟨its, rv, p, _⟩ := I.list h
    rw [List.mem_singleton.mp hb]
    exact p.lt
  | .tup a, xs, h, b, hb => by
    obtain ⟨its, rv, ⟨o, p, _⟩, _⟩ := I.tuple h
    rw [List.mem_singleton.mp hb]
    exact Heap.lt_size p
  | .txt x, xs, h, b, hb => by cases hb
theorem draws (I : Inv X pins σ H s) {A : Around} (hh : A.handled = none) {it : Addr} {i : Nat} : ∀ {S : Src} {xs : List V}, S.items X.K H xs → S.iter it i s.heap → it ∉ S.fp →
    ∃ P St, Draws X.prog X.w A it (it :: S.fp) xs.length P St ∧ St i s.heap ∧ (∀ j h, St j h → S.iter it j h) ∧ ∀ j v, P j v → ∃ x, xs[j]? = some x ∧ RelV x v
  | .lst a, xs, hq, st, hn => by
    obtain ⟨its, rv, p, _⟩ := I.list hq
    have el : its.toArray.size = xs.length := by rw [List.size_toArray]; exact rv.length.symm
    refine ⟨_, _, el ▸ Draws.list hh it a (fun z => hn (by rw [z]; exact List.mem_cons_self)) its.toArray, ⟨st, p.isList⟩, fun j h z => z.1, fun j v z => ?_⟩
    obtain ⟨x, hx, rx⟩ := valsV rv (by simpa using z)
    exact ⟨x, hx, rx⟩
  | .tup a, xs, hq, st, hn => by
    obtain ⟨its, rv, p, _⟩ := I.tuple hq
    have el : its.toArray.size = xs.length := by rw [List.size_toArray]; exact rv.length.symm
    refine ⟨_, _, el ▸ Draws.tuple hh it a (fun z => hn (by rw [z]; exact List.mem_cons_self)) its.toArray, ⟨st, p⟩, fun j h z => z.1, fun j v z => ?_⟩
    obtain ⟨x, hx, rx⟩ := valsV rv (by simpa using z)
    exact ⟨x, hx, rx⟩
  | .txt x, xs, hq, ⟨t, st⟩, hn => by
    have hq' : xs = x.cps.toList.map fun c => V.str ⟨#[c]⟩ := hq
    have el : x.cps.size = xs.length := by rw [hq']; simp
    refine ⟨_, _, el ▸ Draws.text hh it x t, st, fun j h z => ⟨t, z⟩, fun j v ⟨c, u, z, e⟩ => ?_⟩
    have z' : x.cps.toList[j]? = some c := by simpa using z
    exact ⟨.str ⟨#[c]⟩, by rw [hq', List.getElem?_map, z']; rfl, by rw [e]; exact ⟨_, rfl⟩⟩
theorem begins (I : Inv X pins σ H s) : ∀ {S : Src} {xs : List V} {u : Value}, S.items X.K H xs → RelV S.val u → ∃ o Hc, Begins u o Hc ∧ Hc s.heap ∧ ∀ h it, h.get? it = some o → S.iter it 0 h
  | .lst a, xs, u, hq, r => by
    cases r
    obtain ⟨its, rv, p, _⟩ := I.list hq
    exact ⟨_, _, begins_list a its.toArray, p.isList, fun h it e => ⟨_, e, rfl, rfl⟩⟩
  | .tup a, xs, u, hq, r => by
    cases r
    obtain ⟨its, rv, p, _⟩ := I.tuple hq
    exact ⟨_, _, begins_tuple a its.toArray, p, fun h it e => ⟨_, e, rfl, rfl⟩⟩
  | .txt x, xs, u, hq, r => by
    obtain ⟨k, rfl⟩ := r
    exact ⟨_, _, begins_text x k, trivial, fun h it e => ⟨k, _, e, rfl, rfl⟩⟩
end
end Src

/-! ### enumerate -/
def ItE (K : PySem.W.Frag) (S : Src) : It :=
  ⟨fun i H => ∃ xs x, S.items K H xs ∧ xs[i]? = some x, fun i H v H' => ∃ T ob x, v = .ref T ∧ H T = none ∧ ob.dict = none ∧ H' = upd H T (.frz ob (.tup [.int (i : Nat), x])) ∧ ∀ xs, S.items K H xs → xs[i]? = some x,
    fun i H => ∃ xs, S.items K H xs ∧ i = xs.length⟩
theorem turnE {P : Program} {w : World} {K : PySem.W.Frag} {elts : List Expr} {kk : Nat} {tpos : Pos} (S : Src) (e it : Addr) (hne : e ≠ it) (h1 : it ∉ S.fp) (h2 : e ∉ S.fp) :
    Turn P w K (.Tuple elts kk tpos) (ItE K S) [e, it] e (fun i h => (∃ old, IsEnum h e it ((i : Nat) : Int) old) ∧ S.iter it i h) where
  mem := List.mem_cons_self
  obj := fun i h ⟨⟨old, he⟩, hi⟩ b hb => by
    rcases List.mem_cons.mp hb with z | z
    · rw [z]; exact ⟨_, he, fun v q => nomatch q⟩
    · rw [List.mem_singleton.mp z]; exact Src.iter_obj hi
  keep := fun i h h' ⟨⟨old, he⟩, hi⟩ k => ⟨⟨old, k e List.mem_cons_self _ he⟩, Src.iter_at hi fun o q => k it (List.mem_cons_of_mem _ List.mem_cons_self) o q⟩
  item := by
    intro X hP hw hK hc i pins s σ H E I hf ⟨⟨old, he⟩, hi⟩ ⟨xs, x, hq, hx⟩
    subst hP hw hK
    have hil : i < xs.length := (List.getElem?_eq_some_iff.mp hx).1
    obtain ⟨P, St, D, st, back, pv⟩ := Src.draws I (A := X.A.in1) (show X.A.in1.handled = none from I.ok.hd hc) hq hi h1
    have hel : e < s.heap.objs.size := Heap.lt_size he
    have hitl : it < s.heap.objs.size := by obtain ⟨_, q, _⟩ := Src.iter_obj hi; exact Heap.lt_size q
    refine wpAny_pyNext_enum_itemC D he st hil hne (fun z => (List.mem_cons.mp z).elim hne h2) fun u g tk pu ho st2 hT hsz hk => ?_
    obtain ⟨x', hx', ru⟩ := pv _ _ pu
    rw [hx] at hx'
    cases hx'
    refine ⟨_, rfl, wpAny_letOwnedTupleGo_enum (s := { s with heap := g, toks := tk + 1 }) ho fun g2 he2 sb => ?_⟩
    have hT2 : g2.get? s.heap.objs.size = some { cls := .type "tuple", data := .seq #[.int i tk, u] } := (sb.2 _ (Nat.ne_of_gt hel)).trans hT
    have new : ObjOk X.prog X.w (upd H s.heap.objs.size (.frz { cls := .type "tuple", data := .seq #[.int i tk, u] } (.tup [.int (i : Nat), x]))) g2 s.heap.objs.size (.frz { cls := .type "tuple", data := .seq #[.int i tk, u] } (.tup [.int (i : Nat), x])) :=
      ⟨hT2, by show 2 ≤ sizeLine; decide, [.int i tk, u], .cons ⟨_, rfl⟩ (.cons ru .nil), ⟨_, hT2, rfl, _, rfl⟩⟩
    have I1 := I.turnedNew (t' := tk + 1) (ch := [e, it]) (T := s.heap.objs.size) (fun b ob hb q => (sb.2 b (fun z => hb (by rw [z]; exact List.mem_cons_self))).trans (hk b ob (fun z => hb (by rw [z]; exact List.mem_cons_self)) (fun z => hb (by rw [z]; exact List.mem_cons_of_mem _ List.mem_cons_self)) q)) hf (Nat.le_refl _) new
    refine ⟨.ref s.heap.objs.size, _, I1, rfl, ⟨_, _, x, rfl, I.hok.fresh (Nat.le_refl _), rfl, rfl, fun ys hy => by rw [Src.inj I hy hq]; exact hx⟩, ⟨⟨u, ?_⟩, Src.iter_at (back _ _ st2) fun o q => (sb.2 it (Ne.symm hne)).trans q⟩, fun b hb => ?_⟩
    · have e1 : ((i + 1 : Nat) : Int) = (i : Int) + 1 := by omega
      rw [e1]; exact he2
    · have hb' : b < s.heap.objs.size := by
        rcases List.mem_cons.mp hb with z | z
        · rw [z]; exact hel
        · rw [List.mem_singleton.mp z]; exact hitl
      rw [upd_ne (Nat.ne_of_lt hb')]
      exact (hf b hb).1
  done := by
    intro X hP hw hK hc i pins s σ H E I hf ⟨⟨old, he⟩, hi⟩ ⟨xs, hq, hx⟩
    subst hP hw hK
    obtain ⟨P, St, D, st, back, pv⟩ := Src.draws I (A := X.A.in1) (show X.A.in1.handled = none from I.ok.hd hc) hq hi h1
    obtain ⟨f0, f1, f2, f3, f4, f5⟩ := hf it (List.mem_cons_of_mem _ List.mem_cons_self)
    exact wpAny_pyNext_enum_endD D he (hx ▸ st) fun g eb => ⟨rfl, I.turned (t' := s.toks) (fun b o hb q => eb b o hb q) f0 f1 f3 f4 f5⟩
  self := fun A i s Q E ⟨⟨_, he⟩, _⟩ h => wpAny_pyIter_enum he h

set_option maxHeartbeats 2000000 in
theorem meets_enum1 {u : Value} {o : Obj} {Hc : Heap → Prop} (B : Begins u o Hc) :
    Meets (Builtin.«enumerate.__new__» ⟨[.type "enumerate", u], []⟩) (fun _ R s => Hc s.heap ∧
      R (.ok (.ret (.ref (s.heap.push o).objs.size))) { s with heap := (s.heap.push o).push { cls := .type "enumerate", data := .fields #[.none, .bool false, .ref s.heap.objs.size, rawInt 0, .none, .none] } }) :=
  .of_wp fun pr ww Ar Rr sh hsh => by
    obtain ⟨p0, p1, p2, p3, p4⟩ := sh
    obtain ⟨hc0, hr⟩ := hsh
    have hsub := sub_enumerate
    have ask : ∀ {A' : Around} {E : Value → Shared → Prop} {Q : Value → Shared → Prop}, Q (.ref p0.objs.size) ⟨p0.push o, p1, p2, p3, p4⟩ → wpAny (model pr ww) A' (pyIter u) Q E ⟨p0, p1, p2, p3, p4⟩ :=
      fun q => B.iter pr ww _ _ ⟨p0, p1, p2, p3, p4⟩ _ hc0 q
    wp_walk using ask
    refine wpAny_stack_any fun st => wpAny_pure ?_
    split
    · rename_i c _ _ _ _ _
      cases (c == Value.type "enumerate")
      · wp_walk using ask
        exact ⟨_, rfl, hr⟩
      · wp_walk using ask
        exact ⟨_, rfl, hr⟩
    · wp_walk using ask
      exact ⟨_, rfl, hr⟩
theorem call_enum1 {prog : Program} {w : World} {A : Around} {E : Value → Shared → Prop} {s : Shared} {u : Value} {o : Obj} {Hc : Heap → Prop} {Q : Value → Shared → Prop} (B : Begins u o Hc) (hc0 : Hc s.heap)
    (hq : ∀ g, IsEnum g (s.heap.objs.size + 1) s.heap.objs.size 0 .none → g.get? s.heap.objs.size = some o → (∀ b o, s.heap.get? b = some o → g.get? b = some o) → Q (.ref (s.heap.objs.size + 1)) { s with heap := g }) :
    wpAny (model prog w) A (call (.type "enumerate") [u]) Q E s := by
  refine callType_new F.called_enumerate (by decide) (F.typeCall_enumerate_1 _) (F.newCall_enumerate_1 _) (fun obj => F.args_object_init_2 obj _) F.entry_enumerate_new (meets_enum1 B) ⟨hc0, ?_⟩
  have hz : (s.heap.push o).objs.size = s.heap.objs.size + 1 := Heap.size_push ..
  show _ ∧ _
  rw [hz]
  have he : IsEnum ((s.heap.push o).push { cls := .type "enumerate", data := .fields #[.none, .bool false, .ref s.heap.objs.size, rawInt 0, .none, .none] }) (s.heap.objs.size + 1) s.heap.objs.size 0 .none :=
    hz ▸ Heap.get?_push_size (s.heap.push o) (o := { cls := .type "enumerate", data := .fields #[.none, .bool false, .ref s.heap.objs.size, rawInt 0, .none, .none] }) rfl
  exact ⟨⟨_, he, rfl⟩, hq _ he (Heap.get?_push_of_some _ (Heap.get?_push_size _ B.free)) fun b ob z => Heap.get?_push_of_some _ (Heap.get?_push_of_some _ z)⟩
def iEnumT (K : PySem.W.Frag) (ta : TA) : TI := fun σ H R => ta σ H fun vs H1 => ∃ S xs, vs = [S.val] ∧ S.items K H1 xs ∧ R (ItE K S) H1
theorem pi_enumT {X : Cx} {e : Expr} {ta : TA} {p pos tpos : Pos} {elts : List Expr} {kk : Nat} (hg : Gl X "enumerate") (hm : X.mg "enumerate" = none) (ha : PA X [e] ta) (hs : starEach [e] X.env = [(false, eval e X.env)] := by rfl) :
    PI X (.Tuple elts kk tpos) (.Call (.Name "enumerate" p) [e] [] pos) (iEnumT X.K ta) := by
  refine ⟨fun pins s σ H R I h => ?_⟩
  refine Call_ (ld_blt I hg hm boot_enumerate (PyProof.Rows.callWith_type1 (thn (ha.run pos pins s σ H _ I h) fun us s1 ⟨vs, H1, I1, r1, q1⟩ => ?_) hs rfl))
  obtain ⟨S, xs, ex, hq, q⟩ := q1
  subst ex
  cases r1 with
  | cons r rr =>
    cases rr
    obtain ⟨o, Hc, B, hc0, mk⟩ := Src.begins I1 hq r
    refine call_enum1 B hc0 fun g he ho hk => wpAny_pyIter_enum he ?_
    have I2 : Inv X pins σ H1 { s1 with heap := g } := I1.kept (t' := s1.toks) hk
    have lt := Src.lt I1 hq
    refine ⟨s1.heap.objs.size + 1, [s1.heap.objs.size + 1, s1.heap.objs.size], _, _, H1, rfl, I2, turnE S (s1.heap.objs.size + 1) s1.heap.objs.size (Nat.succ_ne_self _) (fun z => absurd (lt _ z) (Nat.lt_irrefl _)) (fun z => absurd (lt _ z) (Nat.not_lt.mpr (Nat.le_succ _))), ⟨⟨.none, he⟩, mk _ _ ho⟩, fun b hb => ?_, q⟩
    have hle : s1.heap.objs.size ≤ b := by
      rcases List.mem_cons.mp hb with z | z
      · rw [z]; exact Nat.le_add_right _ _
      · rw [List.mem_singleton.mp z]; exact Nat.le_refl _
    exact I1.fpOk hle (I1.hok.fresh hle)
end Mp

/-! MpO5: zip of as many as there are. -/
namespace Mp
open PySem PySem.Spec PyProof.Rows L2

/-- a tuple as it is made -/
abbrev Tpl (h : Heap) (T : Addr) (us : List Value) : Prop := h.get? T = some { cls := .type "tuple", data := .seq us.toArray }
structure ZApart (n : Nat) (z TI TO : Addr) (it : Nat → Addr) (fp : Nat → List Addr) : Prop where
  TIz : TI ≠ z
  TOz : TO ≠ z
  TITO : TI ≠ TO
  TIi : ∀ j, j < n → TI ≠ it j
  mem : ∀ j, j < n → it j ∈ fp j
  zf : ∀ j, j < n → z ∉ fp j
  Tf : ∀ j, j < n → TO ∉ fp j
  sep : ∀ j l, j < n → l < n → j ≠ l → it j ∉ fp l

section
variable {prog : Program} {w : World} {A : Around} {E : Value → Shared → Prop} {s : Shared} {n i : Nat} {z TI TO : Addr} {it : Nat → Addr} {fp : Nat → List Addr} {nn : Nat → Nat} {P : Nat → Nat → Value → Prop} {St : Nat → Nat → Heap → Prop}
theorem ZApart.zi (S : ZApart n z TI TO it fp) {j : Nat} (h : j < n) : z ≠ it j := fun e => S.zf j h (by rw [e]; exact S.mem j h)
theorem ZApart.Ti (S : ZApart n z TI TO it fp) {j : Nat} (h : j < n) : TO ≠ it j := fun e => S.Tf j h (by rw [e]; exact S.mem j h)
theorem zipIdx_map {α : Type} (f : Nat → α) (n : Nat) : ((List.range n).map f).zipIdx = (List.range n).map fun j => (f j, j) := by
  apply List.ext_getElem?
  intro j
  by_cases h : j < n
  · simp [List.getElem?_zipIdx, h]
  · simp [List.getElem?_zipIdx, h]
/-- k of them have been drawn from -/
structure ZMid (hp : Heap) (n i : Nat) (z TI TO : Addr) (it : Nat → Addr) (P : Nat → Nat → Value → Prop) (St : Nat → Nat → Heap → Prop) (k : Nat) (g : Heap) : Prop where
  zz : IsZip g z TI TO .ellipsis
  sz : g.objs.size = hp.objs.size
  to : ∃ us, Tpl g TO us ∧ us.length = n ∧ ∀ j, j < k → ∃ x, us[j]? = some x ∧ P j i x
  old : ∀ j, j < k → St j (i + 1) g
  new : ∀ j, k ≤ j → j < n → St j i g
  keep : ∀ c o, c ≠ z → c ≠ TO → (∀ j, j < n → c ≠ it j) → hp.get? c = some o → g.get? c = some o

theorem zipN_next (S : ZApart n z TI TO it fp) (D : ∀ j, j < n → Draws prog w A (it j) (fp j) (nn j) (P j) (St j)) {old : List Value} (hn : 0 < n) (hz : IsZip s.heap z TI TO .none) (hTI : Tpl s.heap TI ((List.range n).map fun j => .ref (it j))) (hTO : Tpl s.heap TO old) (hl : old.length = n)
    (st : ∀ j, j < n → St j i s.heap) (hle : ∀ j, j < n → i ≤ nn j) {Q : Value → Shared → Prop} (hsl : n ≤ sizeLine)
    (hQ : (∀ j, j < n → i < nn j) → ∀ us g tk, us.length = n → (∀ j, j < n → ∃ x, us[j]? = some x ∧ P j i x) → IsZip g z TI TO (rawInt s.heap.objs.size) → Tpl g TO us → (∀ j, j < n → St j (i + 1) g) → Tpl g s.heap.objs.size us →
      (∀ c o, c ≠ z → c ≠ TO → (∀ j, j < n → c ≠ it j) → s.heap.get? c = some o → g.get? c = some o) → Q (.ref s.heap.objs.size) { s with heap := g, toks := tk })
    (hE : (∃ j, j < n ∧ i = nn j) → ∀ g tk e, (∀ c o, c ≠ z → c ≠ TO → (∀ j, j < n → c ≠ it j) → s.heap.get? c = some o → g.get? c = some o) → (∃ o, g.get? e = some o ∧ o.cls = .type "StopIteration") → E (.ref e) { s with heap := g, toks := tk }) :
    wpAny (model prog w) A (Builtin.«zip.__next__» ⟨[.ref z], []⟩) (fun fin s' => ∃ v, fin = .done (.ret v) ∧ Q v s') E s := by
  obtain ⟨hp, g0, d0, tk0, os0⟩ := s
  show wpAny _ _ (field (.ref z) 2 >>= _) _ _ _
  refine wpAny_bind (wpAny_field hz rfl (x := .bool false) rfl ?_)
  show wpAny _ _ (field (.ref z) 3 >>= _) _ _ _
  refine wpAny_bind (wpAny_field hz rfl (x := .ref TI) rfl ?_)
  refine wpAny_bind (wpAny_seqItems hTI rfl ?_)
  dsimp only
  have hne : (((List.range n).map fun j => Value.ref (it j)).toArray).isEmpty = false := by
    cases n with
    | zero => exact absurd hn (Nat.lt_irrefl 0)
    | succ m => simp [List.range_succ]
  rw [hne]
  simp only [Bool.false_eq_true, if_false]
  show wpAny _ _ (Builtin.SmallTypes.ownedTupleIsFree (.ref z) >>= _) _ _ _
  refine wpAny_bind ?_
  unfold Builtin.SmallTypes.ownedTupleIsFree
  refine wpAny_bind (wpAny_field hz rfl (x := .none) rfl (wpAny_pure ?_))
  simp only [if_true]
  refine wpAny_bind (wpAny_rule ?_)
  refine wpAny_bind (wpAny_field hz rfl (x := .ref TO) rfl ?_)
  dsimp only
  refine wpAny_bind (wpAny_setField_rec hz (by simp) fun g1 hz1 hs1 => ?_)
  replace hz1 : IsZip g1 z TI TO .ellipsis := hz1
  replace hs1 : Heap.SameBut z hp g1 := hs1
  rw [zipIdx_map]
  refine wpAny_bind (wpAny_forIn_list _ (fun l b sh => b = (none, ()) ∧ ∃ k g tk, k ≤ n ∧ sh = ⟨g, g0, d0, tk, os0⟩ ∧ l = (List.range' k (n - k)).map (fun j => (Value.ref (it j), j)) ∧ (∀ j, j < k → i < nn j) ∧ ZMid hp n i z TI TO it P St k g) _ ?_ ?_ _ _ ⟨rfl, 0, g1, tk0, Nat.zero_le _, rfl, by rw [List.range_eq_range', Nat.sub_zero], fun j h => absurd h (Nat.not_lt_zero _), ?_⟩)
  · rintro ⟨u, m⟩ rest b sh ⟨rfl, k, g, tk, hk, rfl, el, hlt, M⟩
    have hkn : k < n := by
      rcases Nat.lt_or_ge k n with h | h
      · exact h
      · rw [Nat.sub_eq_zero_of_le h] at el; simp at el
    have e1 : List.range' k (n - k) = k :: List.range' (k + 1) (n - (k + 1)) := by
      rw [show n - k = (n - (k + 1)) + 1 by omega, List.range'_succ]
    rw [e1, List.map_cons] at el
    obtain ⟨ea, er⟩ := List.cons.inj el
    have hu : u = .ref (it k) := (Prod.mk.inj ea).1
    have hm : k = m := (Prod.mk.inj ea).2.symm
    subst hu
    subst hm
    refine wpAny_bind (wpAny_onRaise ?_)
    show wpAny _ _ (Builtin.SmallTypes.nextOf (.ref (it k)) >>= _) _ _ ⟨g, g0, d0, tk, os0⟩
    obtain ⟨us, hT, hul, hus⟩ := M.to
    by_cases hki : i < nn k
    · refine wpAny_bind ((D k hkn).item i _ _ _ hki (M.new k (Nat.le_refl _) hkn) fun x g2 tk2 hx sn hs2 => wpAny_pure ?_)
      replace hs2 : Heap.SameBut (it k) g g2 := hs2
      have hT2 : Tpl g2 TO us := hs2.extBut _ _ (S.Ti hkn) hT
      refine wpAny_bind (wpAny_seqItems (s := ⟨g2, g0, d0, tk2, os0⟩) hT2 rfl ?_)
      dsimp only
      refine wpAny_bind (wpAny_updateSeq (s := ⟨g2, g0, d0, tk2, os0⟩) hT2 rfl ?_ (by rw [List.size_toArray, hul]; exact hsl) (by simp only [Array.size_setIfInBounds, List.size_toArray, hul]; exact Nat.le_succ_of_le hsl))
      refine wpAny_bind (wpAny_letGo (wpAny_pure ?_))
      dsimp only
      have hs3 : Heap.SameBut TO g2 (g2.update TO (Obj.mapSeq fun x_2 => x_2.setIfInBounds k x)) := Heap.SameBut.update ..
      have hT3 : Tpl (g2.update TO (Obj.mapSeq fun x_2 => x_2.setIfInBounds k x)) TO (us.set k x) := by
        show Heap.get? _ _ = _
        rw [Heap.get?_update_self _ hT2 rfl]
        simp [Obj.mapSeq]
      generalize g2.update TO (Obj.mapSeq fun x_2 => x_2.setIfInBounds k x) = g3 at hs3 hT3
      refine ⟨rfl, k + 1, g3, tk2, hkn, rfl, er, fun j hj => ?_, ?_⟩
      · rcases Nat.lt_succ_iff_lt_or_eq.mp hj with h | h
        · exact hlt j h
        · rw [h]; exact hki
      · refine ⟨hs3.extBut _ _ S.TOz.symm (hs2.extBut _ _ (S.zi hkn) M.zz), by rw [hs3.1, hs2.1, M.sz], ⟨_, hT3, by rw [List.length_set]; exact hul, fun j hj => ?_⟩, fun j hj => ?_, fun j hj hjn => ?_, fun c o c1 c2 c3 e => ?_⟩
        · rcases Nat.lt_succ_iff_lt_or_eq.mp hj with h | h
          · obtain ⟨y, hy, py⟩ := hus j h
            exact ⟨y, by rw [List.getElem?_set_ne (Nat.ne_of_gt h)]; exact hy, py⟩
          · rw [h]
            exact ⟨x, by rw [List.getElem?_set_self (by rw [hul]; exact hkn)], hx⟩
        · have hjn : j < n := Nat.lt_of_lt_of_le hj hkn
          rcases Nat.lt_succ_iff_lt_or_eq.mp hj with h | h
          · exact (D j hjn).over ((D j hjn).over (M.old j h) hs2 (S.sep k j hkn hjn (Nat.ne_of_gt h))) hs3 (S.Tf j hjn)
          · subst h
            exact (D j hjn).over sn hs3 (S.Tf j hjn)
        · exact (D j hjn).over ((D j hjn).over (M.new j (Nat.le_of_succ_le hj) hjn) hs2 (S.sep k j hkn hjn (Nat.ne_of_lt hj))) hs3 (S.Tf j hjn)
        · exact hs3.extBut _ _ c2 (hs2.extBut _ _ (c3 k hkn) (M.keep c o c1 c2 c3 e))
    · have hik : i = nn k := Nat.le_antisymm (hle k hkn) (Nat.not_lt.mp hki)
      refine wpAny_bind ((D k hkn).done ⟨g, g0, d0, tk, os0⟩ _ _ (by rw [← hik]; exact M.new k (Nat.le_refl _) hkn) fun q e hq he => ?_)
      replace hq : Heap.ExtBut (it k) g q := hq
      obtain ⟨oe, hoe, hce⟩ := he
      replace hoe : q.get? e = some oe := hoe
      have hzq : IsZip q z TI TO .ellipsis := hq _ _ (S.zi hkn) M.zz
      have hez : e ≠ z := fun y => by rw [y, hzq] at hoe; cases hoe; simp at hce
      refine wpAny_setField_rec (s := ⟨q, g0, d0, tk, os0⟩) hzq (by simp) fun q2 _ hq2 => ?_
      replace hq2 : Heap.SameBut z q q2 := hq2
      exact hE ⟨k, hkn, hik⟩ q2 tk e (fun c o c1 c2 c3 y => hq2.extBut _ _ c1 (hq _ _ (c3 k hkn) (M.keep c o c1 c2 c3 y))) ⟨oe, hq2.extBut _ _ hez hoe, hce⟩
  · rintro b sh ⟨rfl, k, g, tk, hk, rfl, el, hlt, M⟩
    have hkn : k = n := by
      rcases Nat.lt_or_ge k n with h | h
      · rw [show n - k = (n - (k + 1)) + 1 by omega, List.range'_succ] at el; simp at el
      · exact Nat.le_antisymm hk h
    subst hkn
    dsimp only
    obtain ⟨us, hT, hul, hus⟩ := M.to
    refine wpAny_bind (wpAny_seqItems (s := ⟨g, g0, d0, tk, os0⟩) hT rfl ?_)
    dsimp only
    refine wpAny_bind (wpAny_newTuple ?_ (by rw [hul]; exact hsl))
    have hzlt : z < g.objs.size := Heap.lt_size M.zz
    refine wpAny_bind ?_
    unfold Builtin.SmallTypes.ownedTupleHandOut
    have hz6 : IsZip (g.push { cls := .type "tuple", data := .seq us.toArray }) z TI TO .ellipsis := Heap.get?_push_of_some _ M.zz
    refine wpAny_bind (wpAny_setField_rec hz6 (by simp) fun g7 hz7 hs7 => ?_)
    replace hz7 : IsZip g7 z TI TO (rawInt g.objs.size) := hz7
    refine wpAny_setField_rec hz7 (by simp) fun g8 hz8 hs8 => ?_
    replace hz8 : IsZip g8 z TI TO (rawInt g.objs.size) := hz8
    replace hs7 : Heap.SameBut z (g.push { cls := .type "tuple", data := .seq us.toArray }) g7 := hs7
    replace hs8 : Heap.SameBut z g7 g8 := hs8
    have up : ∀ c o, c ≠ z → g.get? c = some o → g8.get? c = some o := fun c o c1 y => hs8.extBut _ _ c1 (hs7.extBut _ _ c1 (Heap.get?_push_of_some _ y))
    have hT8 : Tpl g8 g.objs.size us := hs8.extBut _ _ (Nat.ne_of_gt hzlt) (hs7.extBut _ _ (Nat.ne_of_gt hzlt) (Heap.get?_push_size _ rfl))
    have hsz := M.sz
    rw [hsz] at hz8 hT8
    refine wpAny_pure ⟨_, rfl, ?_⟩
    show Q (.ref g.objs.size) ⟨g8, g0, d0, tk, os0⟩
    rw [hsz]
    exact hQ hlt us g8 tk hul hus hz8 (up _ _ S.TOz hT) (fun j hj => (D j hj).frame _ _ _ (M.old j hj) fun b hb o y => up b o (fun q => S.zf j hj (q ▸ hb)) y) hT8 fun c o c1 c2 c3 y => up c o c1 (M.keep c o c1 c2 c3 y)
  · exact ⟨hz1, hs1.1, ⟨old, hs1.extBut _ _ S.TOz hTO, hl, fun j h => absurd h (Nat.not_lt_zero _)⟩, fun j h => absurd h (Nat.not_lt_zero _), fun j _ h => (D j h).over (st j h) hs1 (S.zf j h), fun c o c1 _ _ y => hs1.extBut _ _ c1 y⟩
theorem pyNext_zipN_item (S : ZApart n z TI TO it fp) (D : ∀ j, j < n → Draws prog w A.in1 (it j) (fp j) (nn j) (P j) (St j)) {old : List Value} (hn : 0 < n) (hz : IsZip s.heap z TI TO .none) (hTI : Tpl s.heap TI ((List.range n).map fun j => .ref (it j))) (hTO : Tpl s.heap TO old) (hl : old.length = n)
    (st : ∀ j, j < n → St j i s.heap) (hlt : ∀ j, j < n → i < nn j) {Q : Option Value → Shared → Prop} (hsl : n ≤ sizeLine)
    (hQ : ∀ us g tk, us.length = n → (∀ j, j < n → ∃ x, us[j]? = some x ∧ P j i x) → IsZip g z TI TO (rawInt s.heap.objs.size) → Tpl g TO us → (∀ j, j < n → St j (i + 1) g) → Tpl g s.heap.objs.size us →
      (∀ c o, c ≠ z → c ≠ TO → (∀ j, j < n → c ≠ it j) → s.heap.get? c = some o → g.get? c = some o) → Q (some (.ref s.heap.objs.size)) { s with heap := g, toks := tk }) : wpAny (model prog w) A (pyNext (.ref z)) Q E s := by
  have hT : s.TypeIs (.ref z) "zip" := ⟨_, hz, rfl⟩
  unfold pyNext
  refine wpAny_bind (wpAny_attempt (wpAny_callSpecial?_slot (name := Str.ofString "__next__") hT F.slot_zip_next (wpAny_call_entry F.slot_zip_next hT F.entry_zip_next (zipN_next S D hn hz hTI hTO hl st (fun j h => Nat.le_of_lt (hlt j h)) hsl (fun _ us g tk a b c d e f k => wpAny_pure (hQ us g tk a b c d e f k)) ?_) (F.args_zip_next_1 _))))
  rintro ⟨j, hj, e⟩
  exact absurd (hlt j hj) (by rw [e]; exact Nat.lt_irrefl _)
theorem pyNext_zipN_end (hh : A.handled = none) (S : ZApart n z TI TO it fp) (D : ∀ j, j < n → Draws prog w A.in1 (it j) (fp j) (nn j) (P j) (St j)) {old : List Value} (hn : 0 < n) (hz : IsZip s.heap z TI TO .none) (hTI : Tpl s.heap TI ((List.range n).map fun j => .ref (it j))) (hTO : Tpl s.heap TO old) (hl : old.length = n)
    (st : ∀ j, j < n → St j i s.heap) (hle : ∀ j, j < n → i ≤ nn j) (hend : ∃ j, j < n ∧ i = nn j) {Q : Option Value → Shared → Prop} (hsl : n ≤ sizeLine)
    (hQ : ∀ g tk, (∀ c o, c ≠ z → c ≠ TO → (∀ j, j < n → c ≠ it j) → s.heap.get? c = some o → g.get? c = some o) → Q none { s with heap := g, toks := tk }) : wpAny (model prog w) A (pyNext (.ref z)) Q E s := by
  have hT : s.TypeIs (.ref z) "zip" := ⟨_, hz, rfl⟩
  unfold pyNext
  refine wpAny_bind (wpAny_attempt (wpAny_callSpecial?_slot (name := Str.ofString "__next__") hT F.slot_zip_next (wpAny_call_entry F.slot_zip_next hT F.entry_zip_next (zipN_next S D hn hz hTI hTO hl st hle hsl ?_ fun _ g tk e kp he => ?_) (F.args_zip_next_1 _))))
  · intro hlt
    obtain ⟨j, hj, e⟩ := hend
    exact absurd (hlt j hj) (by rw [e]; exact Nat.lt_irrefl _)
  · obtain ⟨o, ho, hc⟩ := he
    refine wpAny_bind (wpAny_isInstance (T := "StopIteration") (b := true) ⟨o, ho, hc⟩ isSubtype_stop ?_)
    exact wpAny_pure (hQ _ _ kp)

/-! ### it begins -/
theorem wpAny_iterAll {us : List Value} {o : Nat → Obj} {Hc : Nat → Heap → Prop} (B : ∀ j u, us[j]? = some u → Begins u (o j) (Hc j)) (hc0 : ∀ j, j < us.length → Hc j s.heap) {Q : List Value → Shared → Prop}
    (hq : ∀ g, g.objs.size = s.heap.objs.size + us.length → (∀ j, j < us.length → g.get? (s.heap.objs.size + j) = some (o j)) → (∀ c ob, s.heap.get? c = some ob → g.get? c = some ob) → Q ((List.range us.length).map fun j => .ref (s.heap.objs.size + j)) { s with heap := g }) :
    wpAny (model prog w) A (Builtin.SmallTypes.iterAll us) Q E s := by
  obtain ⟨p0, p1, p2, p3, p4⟩ := s
  unfold Builtin.SmallTypes.iterAll
  dsimp only at hq hc0 ⊢
  refine wpAny_bind (wpAny_forIn_list _ (fun l acc sh => ∃ k g, k ≤ us.length ∧ sh = ⟨g, p1, p2, p3, p4⟩ ∧ l = us.drop k ∧ acc.toList = (List.range k).map (fun j => Value.ref (p0.objs.size + j)) ∧ g.objs.size = p0.objs.size + k ∧ (∀ j, j < k → g.get? (p0.objs.size + j) = some (o j)) ∧ ∀ c ob, p0.get? c = some ob → g.get? c = some ob) _ ?_ ?_ _ _
    ⟨0, p0, Nat.zero_le _, rfl, rfl, rfl, rfl, fun j h => absurd h (Nat.not_lt_zero _), fun c ob h => h⟩)
  · rintro x rest acc sh ⟨k, g, hk, rfl, el, ea, hs, ho, hkp⟩
    have hkn : k < us.length := by
      rcases Nat.lt_or_ge k us.length with h | h
      · exact h
      · rw [List.drop_eq_nil_of_le h] at el; cases el
    rw [List.drop_eq_getElem_cons hkn] at el
    obtain ⟨e1, e2⟩ := List.cons.inj el
    have ex : us[k]? = some x := by rw [e1]; exact List.getElem?_eq_getElem hkn
    have B' := B k x ex
    refine wpAny_bind (wpAny_holding (B'.iter prog w _ _ ⟨g, p1, p2, p3, p4⟩ _ (B'.keeps _ _ (hc0 k hkn) hkp) (wpAny_pure ?_)))
    refine ⟨k + 1, _, hkn, rfl, e2, ?_, ?_, fun j hj => ?_, fun c ob h => Heap.get?_push_of_some _ (hkp c ob h)⟩
    · rw [Array.toList_push, ea, List.range_succ, List.map_append]
      show _ ++ [Value.ref g.objs.size] = _
      rw [hs]; rfl
    · rw [Heap.size_push, hs]; rfl
    · rcases Nat.lt_succ_iff_lt_or_eq.mp hj with h | h
      · exact Heap.get?_push_of_some _ (ho j h)
      · rw [h, ← hs]; exact Heap.get?_push_size _ B'.free
  · rintro acc sh ⟨k, g, hk, rfl, el, ea, hs, ho, hkp⟩
    have hkn : k = us.length := by
      rcases Nat.lt_or_ge k us.length with h | h
      · rw [List.drop_eq_getElem_cons h] at el; cases el
      · exact Nat.le_antisymm hk h
    subst hkn
    refine wpAny_pure ?_
    rw [ea]
    exact hq g hs ho hkp
theorem meets_zipN (us : List Value) (o : Nat → Obj) (Hc : Nat → Heap → Prop) (B : ∀ j u, us[j]? = some u → Begins u (o j) (Hc j)) (hsl : us.length ≤ sizeLine) :
    Meets (Builtin.«zip.__new__» ⟨.type "zip" :: us, []⟩) (fun _ R s => (∀ j, j < us.length → Hc j s.heap) ∧
      ∀ g, IsZip g (s.heap.objs.size + us.length + 2) (s.heap.objs.size + us.length) (s.heap.objs.size + us.length + 1) .none → Tpl g (s.heap.objs.size + us.length) ((List.range us.length).map fun j => .ref (s.heap.objs.size + j)) →
        Tpl g (s.heap.objs.size + us.length + 1) (List.replicate us.length .none) → (∀ j, j < us.length → g.get? (s.heap.objs.size + j) = some (o j)) → (∀ c ob, s.heap.get? c = some ob → g.get? c = some ob) →
        R (.ok (.ret (.ref (s.heap.objs.size + us.length + 2)))) { s with heap := g }) :=
  .of_wp fun pr ww Ar Rr sh hsh => by
    obtain ⟨p0, p1, p2, p3, p4⟩ := sh
    obtain ⟨hc0, hr⟩ := hsh
    dsimp only at hc0 hr
    have hsub := sub_zip
    have ask : ∀ {A' : Around} {E : Value → Shared → Prop} {Q : List Value → Shared → Prop}, (∀ g, g.objs.size = p0.objs.size + us.length → (∀ j, j < us.length → g.get? (p0.objs.size + j) = some (o j)) → (∀ c ob, p0.get? c = some ob → g.get? c = some ob) → Q ((List.range us.length).map fun j => .ref (p0.objs.size + j)) ⟨g, p1, p2, p3, p4⟩) →
        wpAny (model pr ww) A' (Builtin.SmallTypes.iterAll us) Q E ⟨p0, p1, p2, p3, p4⟩ := fun q => wpAny_iterAll (s := ⟨p0, p1, p2, p3, p4⟩) B hc0 q
    unfold Builtin.«zip.__new__»
    wp_walk using ask
    intro g gs go gk
    refine wpAny_bind (wpAny_newTuple ?_ (by rw [List.length_map, List.length_range]; exact hsl))
    refine wpAny_bind (wpAny_newTuple ?_ (by rw [List.length_map, List.length_map, List.length_range]; exact hsl))
    dsimp only
    have e1 : ((List.range us.length).map fun j => Value.ref (p0.objs.size + j)).map (fun x => Value.none) = List.replicate us.length .none := by
      rw [List.map_map]
      apply List.ext_getElem?
      intro j
      by_cases h : j < us.length
      · simp [h]
      · simp [h]
    rw [e1]
    unfold Builtin.SmallTypes.newRecord Builtin.SmallTypes.ownedTupleFields
    refine wpAny_bind (wpAny_newObj_type ?_ (by size_fits))
    dsimp only
    have gs1 := Heap.size_push g { cls := .type "tuple", data := .seq ((List.range us.length).map fun j => Value.ref (p0.objs.size + j)).toArray }
    have gs2 := Heap.size_push (g.push { cls := .type "tuple", data := .seq ((List.range us.length).map fun j => Value.ref (p0.objs.size + j)).toArray }) { cls := .type "tuple", data := .seq (List.replicate us.length Value.none).toArray }
    rw [gs] at gs1
    rw [gs1] at gs2
    have f1 : g.objs.size = p0.objs.size + us.length := gs
    generalize e3 : g.push { cls := .type "tuple", data := .seq ((List.range us.length).map fun j => Value.ref (p0.objs.size + j)).toArray } = g1 at gs1 gs2
    have t1 : Tpl g1 (p0.objs.size + us.length) ((List.range us.length).map fun j => Value.ref (p0.objs.size + j)) := by rw [← e3, ← f1]; exact Heap.get?_push_size _ rfl
    have k1 : ∀ c ob, g.get? c = some ob → g1.get? c = some ob := fun c ob h => by rw [← e3]; exact Heap.get?_push_of_some _ h
    generalize e4 : g1.push { cls := .type "tuple", data := .seq (List.replicate us.length Value.none).toArray } = g2 at gs2
    have t2 : Tpl g2 (p0.objs.size + us.length + 1) (List.replicate us.length Value.none) := by rw [← e4, ← gs1]; exact Heap.get?_push_size _ rfl
    have k2 : ∀ c ob, g1.get? c = some ob → g2.get? c = some ob := fun c ob h => by rw [← e4]; exact Heap.get?_push_of_some _ h
    refine wpAny_pure ⟨_, rfl, ?_⟩
    rw [gs2, f1, gs1]
    have kz : ∀ (zo : Obj) c ob, g2.get? c = some ob → (g2.push zo).get? c = some ob := fun zo c ob h => Heap.get?_push_of_some _ h
    exact hr _ (by rw [← gs2]; exact Heap.get?_push_size _ rfl) (kz _ _ _ (k2 _ _ t1)) (kz _ _ _ t2) (fun j hj => kz _ _ _ (k2 _ _ (k1 _ _ (go j hj)))) fun c ob h => kz _ _ _ (k2 _ _ (k1 _ _ (gk c ob h)))
theorem call_zipN {us : List Value} {o : Nat → Obj} {Hc : Nat → Heap → Prop} (B : ∀ j u, us[j]? = some u → Begins u (o j) (Hc j)) (hsl : us.length ≤ sizeLine) (hc0 : ∀ j, j < us.length → Hc j s.heap)
    (c1 : checkTypeCall "zip" ⟨us, []⟩ = pure ()) (c2 : checkBuiltinCall "zip.__new__" ⟨.type "zip" :: us, []⟩ = pure ()) (c3 : ∀ obj, argsOk "object.__init__" ⟨obj :: us, []⟩) {Q : Value → Shared → Prop}
    (hq : ∀ g, IsZip g (s.heap.objs.size + us.length + 2) (s.heap.objs.size + us.length) (s.heap.objs.size + us.length + 1) .none → Tpl g (s.heap.objs.size + us.length) ((List.range us.length).map fun j => .ref (s.heap.objs.size + j)) →
        Tpl g (s.heap.objs.size + us.length + 1) (List.replicate us.length .none) → (∀ j, j < us.length → g.get? (s.heap.objs.size + j) = some (o j)) → (∀ c ob, s.heap.get? c = some ob → g.get? c = some ob) →
        Q (.ref (s.heap.objs.size + us.length + 2)) { s with heap := g }) : wpAny (model prog w) A (call (.type "zip") us) Q E s :=
  callType_new F.called_zip (by decide) c1 c2 c3 F.entry_zip_new (meets_zipN us o Hc B hsl) ⟨hc0, fun g a b c d e => ⟨⟨_, a, rfl⟩, hq g a b c d e⟩⟩
end
end Mp

/-! MpO6: zip, enumerate as walks. -/
namespace Mp
open PySem PySem.Spec PyProof.Rows L2

def ItZ (K : PySem.W.Frag) (Ss : List Src) : It :=
  ⟨fun i H => ∀ S ∈ Ss, ∃ xs x, S.items K H xs ∧ xs[i]? = some x,
   fun i H v H' => ∃ T ob vs, v = .ref T ∧ H T = none ∧ ob.dict = none ∧ H' = upd H T (.frz ob (.tup vs)) ∧ vs.length = Ss.length ∧ ∀ (j : Nat) (S : Src), Ss[j]? = some S → ∃ x, vs[j]? = some x ∧ ∀ xs, S.items K H xs → xs[i]? = some x,
   fun i H => (∀ S ∈ Ss, ∃ xs, S.items K H xs ∧ i ≤ xs.length) ∧ ∃ S ∈ Ss, ∃ xs, S.items K H xs ∧ i = xs.length⟩
theorem nback {N b : Nat} (h : N ≤ b) : N + (b - N) = b := by omega
theorem ncase {N n b : Nat} (h : N + n ≤ b) (h' : b < N + n + 3) : b = N + n ∨ b = N + n + 1 ∨ b = N + n + 2 := by omega
theorem nsub {N n b : Nat} (h : N ≤ b) (l : b < N + n) : b - N < n := by omega
theorem nadd {N j l : Nat} (h : j ≠ l) : N + j ≠ N + l := by omega
theorem nne {a b : Nat} (h : a < b ∨ b < a) : a ≠ b := by omega
def fpAt (Ss : List Src) (N : Nat) (j : Nat) : List Addr := (N + j) :: (match Ss[j]? with | some S => S.fp | none => [])
theorem fpAt_some {Ss : List Src} {N j : Nat} {S : Src} (h : Ss[j]? = some S) : fpAt Ss N j = (N + j) :: S.fp := by simp only [fpAt, h]
theorem zapart {Ss : List Src} {N : Nat} (hlow : ∀ S ∈ Ss, ∀ b ∈ S.fp, b < N) : ZApart Ss.length (N + Ss.length + 2) (N + Ss.length) (N + Ss.length + 1) (fun j => N + j) (fpAt Ss N) := by
  have no : ∀ j, j < Ss.length → ∀ c, N ≤ c → c ≠ N + j → c ∉ fpAt Ss N j := fun j hj c hc hne hm => by
    rw [fpAt_some (List.getElem?_eq_getElem hj)] at hm
    rcases List.mem_cons.mp hm with e | e
    · exact hne e
    · exact absurd (hlow _ (List.getElem_mem hj) _ e) (Nat.not_lt.mpr hc)
  refine ⟨Nat.ne_of_lt (by omega), Nat.ne_of_lt (by omega), Nat.ne_of_lt (by omega), fun j hj => Nat.ne_of_gt (by omega), fun j hj => List.mem_cons_self, fun j hj => no j hj _ (by omega) (Nat.ne_of_gt (by omega)), fun j hj => no j hj _ (by omega) (Nat.ne_of_gt (by omega)), fun j l hj hl hne => no l hl _ (Nat.le_add_right _ _) (nadd hne)⟩
theorem vals_of : ∀ {xs : List V} {us : List Value}, xs.length = us.length → (∀ (j : Nat) x u, xs[j]? = some x → us[j]? = some u → RelV x u) → Vals xs us
  | [], [], _, _ => .nil
  | x :: xs, u :: us, h, r => .cons (r 0 x u rfl rfl) (vals_of (by simpa using h) fun j x u a b => r (j + 1) x u (by simpa using a) (by simpa using b))
  | [], _ :: _, h, _ => by simp at h
  | _ :: _, [], h, _ => by simp at h
def zfp (N n : Nat) : List Addr := (List.range (n + 3)).map (N + ·)
theorem mem_zfp {N n b : Nat} : b ∈ zfp N n ↔ N ≤ b ∧ b < N + n + 3 := by
  unfold zfp
  rw [List.mem_map]
  constructor
  · rintro ⟨j, hj, rfl⟩
    rw [List.mem_range] at hj
    omega
  · rintro ⟨h1, h2⟩
    exact ⟨b - N, by rw [List.mem_range]; omega, by omega⟩
def ZTn (Ss : List Src) (N : Nat) (i : Nat) (h : Heap) : Prop := IsZip h (N + Ss.length + 2) (N + Ss.length) (N + Ss.length + 1) .none ∧ Tpl h (N + Ss.length) ((List.range Ss.length).map fun j => .ref (N + j)) ∧ (∃ old, Tpl h (N + Ss.length + 1) old ∧ old.length = Ss.length) ∧ ∀ (j : Nat) (S : Src), Ss[j]? = some S → S.iter (N + j) i h
theorem zdraws {X : Cx} {pins : List (Addr × Obj)} {σ : L2.St} {H : Hp} {s : Shared} (I : Inv X pins σ H s) (hc : X.calm = true) {Ss : List Src} {N i : Nat} (hlow : ∀ S ∈ Ss, ∀ b ∈ S.fp, b < N) (hq : ∀ S ∈ Ss, ∃ xs, S.items X.K H xs) (hi : ∀ (j : Nat) (S : Src), Ss[j]? = some S → S.iter (N + j) i s.heap) :
    ∃ (nn : Nat → Nat) (P : Nat → Nat → Value → Prop) (St : Nat → Nat → Heap → Prop), (∀ j, j < Ss.length → Draws X.prog X.w X.A.in1 (N + j) (fpAt Ss N j) (nn j) (P j) (St j)) ∧ (∀ j, j < Ss.length → St j i s.heap) ∧
      (∀ (j : Nat) (S : Src), Ss[j]? = some S → ∀ m h, St j m h → S.iter (N + j) m h) ∧ (∀ (j : Nat) (S : Src) xs, Ss[j]? = some S → S.items X.K H xs → nn j = xs.length ∧ ∀ m v, P j m v → ∃ x, xs[m]? = some x ∧ RelV x v) := by
  have h : ∀ j : Nat, ∃ d : Nat × (Nat → Value → Prop) × (Nat → Heap → Prop), ∀ S, Ss[j]? = some S → Draws X.prog X.w X.A.in1 (N + j) (fpAt Ss N j) d.1 d.2.1 d.2.2 ∧ d.2.2 i s.heap ∧ (∀ m h, d.2.2 m h → S.iter (N + j) m h) ∧ ∀ xs, S.items X.K H xs → d.1 = xs.length ∧ ∀ m v, d.2.1 m v → ∃ x, xs[m]? = some x ∧ RelV x v := by
    intro j
    cases e : Ss[j]? with
    | none => exact ⟨(0, fun _ _ => True, fun _ _ => True), fun S z => by cases z⟩
    | some S =>
      obtain ⟨xs, hx⟩ := hq S (List.mem_of_getElem? e)
      obtain ⟨P, St, D, st, back, pv⟩ := Src.draws I (A := X.A.in1) (show X.A.in1.handled = none from I.ok.hd hc) hx (hi j S e) (fun z => absurd (hlow S (List.mem_of_getElem? e) _ z) (Nat.not_lt.mpr (Nat.le_add_right _ _)))
      refine ⟨(xs.length, P, St), fun S' z => ?_⟩
      cases z
      refine ⟨by rw [fpAt_some e]; exact D, st, back, fun ys hy => ?_⟩
      have := Src.inj I hy hx
      subst this
      exact ⟨rfl, pv⟩
  obtain ⟨f, hf⟩ := Classical.axiomOfChoice h
  exact ⟨fun j => (f j).1, fun j => (f j).2.1, fun j => (f j).2.2, fun j hj => (hf j _ (List.getElem?_eq_getElem hj)).1, fun j hj => (hf j _ (List.getElem?_eq_getElem hj)).2.1, fun j S e m h z => (hf j S e).2.2.1 m h z, fun j S xs e hx => (hf j S e).2.2.2 xs hx⟩
theorem turnZ {P : Program} {w : World} {K : PySem.W.Frag} {elts : List Expr} {kk : Nat} {tpos : Pos} {Ss : List Src} {N : Nat} (h0 : 0 < Ss.length) (hsl : Ss.length ≤ sizeLine) (hlow : ∀ S ∈ Ss, ∀ b ∈ S.fp, b < N) :
    Turn P w K (.Tuple elts kk tpos) (ItZ K Ss) (zfp N Ss.length) (N + Ss.length + 2) (ZTn Ss N) where
  mem := mem_zfp.mpr ⟨by omega, by omega⟩
  obj := fun i h ⟨hz, hTI, ⟨old, hTO, _⟩, hi⟩ b hb => by
    obtain ⟨b1, b2⟩ := mem_zfp.mp hb
    rcases Nat.lt_or_ge b (N + Ss.length) with l | l
    · obtain ⟨o, ho, r⟩ := Src.iter_obj (hi (b - N) _ (List.getElem?_eq_getElem (nsub b1 l)))
      rw [nback b1] at ho
      exact ⟨o, ho, r⟩
    · rcases ncase l b2 with e | e | e
      · rw [e]; exact ⟨_, hTI, fun v q => nomatch q⟩
      · rw [e]; exact ⟨_, hTO, fun v q => nomatch q⟩
      · rw [e]; exact ⟨_, hz, fun v q => nomatch q⟩
  keep := fun i h h' ⟨hz, hTI, ⟨old, hTO, ol⟩, hi⟩ k => ⟨k _ (mem_zfp.mpr ⟨by omega, by omega⟩) _ hz, k _ (mem_zfp.mpr ⟨by omega, by omega⟩) _ hTI, ⟨old, k _ (mem_zfp.mpr ⟨by omega, by omega⟩) _ hTO, ol⟩,
    fun j S e => Src.iter_at (hi j S e) fun o q => k _ (mem_zfp.mpr ⟨by omega, by have := (List.getElem?_eq_some_iff.mp e).1; omega⟩) o q⟩
  item := by
    intro X hP hw hK hc i pins s σ H E I hf st hg
    have st0 := st
    obtain ⟨hz, hTI, ⟨old, hTO, ol⟩, hi⟩ := st
    subst hP hw hK
    obtain ⟨nn, Pd, St, D, st, back, pv⟩ := zdraws I hc hlow (fun S hS => let ⟨xs, _, h, _⟩ := hg S hS; ⟨xs, h⟩) hi
    have hzl : N + Ss.length + 2 < s.heap.objs.size := Heap.lt_size hz
    refine pyNext_zipN_item (zapart hlow) D h0 hz hTI hTO ol st (fun j hj => ?_) hsl fun us g tk ul uv z2 t2 s2 tT hk => ?_
    · have e := List.getElem?_eq_getElem hj
      obtain ⟨xs, x, h1, h2⟩ := hg _ (List.mem_of_getElem? e)
      rw [(pv j _ xs e h1).1]
      exact (List.getElem?_eq_some_iff.mp h2).1
    · have hx : ∀ j : Nat, ∃ x : V, ∀ S, Ss[j]? = some S → ∃ xs, S.items X.K H xs ∧ xs[i]? = some x := fun j => by
        cases e : Ss[j]? with
        | none => exact ⟨.non, fun S z => by cases z⟩
        | some S =>
          obtain ⟨xs, x, h1, h2⟩ := hg _ (List.mem_of_getElem? e)
          exact ⟨x, fun S' z => by cases z; exact ⟨xs, h1, h2⟩⟩
      obtain ⟨fx, hfx⟩ := Classical.axiomOfChoice hx
      have hv : ∀ j, j < Ss.length → ((List.range Ss.length).map fx)[j]? = some (fx j) := fun j hj => by simp [hj]
      have rv : Vals ((List.range Ss.length).map fx) us := vals_of (by simp [ul]) fun j x u a b => by
        have hj : j < Ss.length := by have := (List.getElem?_eq_some_iff.mp a).1; simpa using this
        rw [hv j hj] at a
        cases a
        obtain ⟨xs, h1, h2⟩ := hfx j _ (List.getElem?_eq_getElem hj)
        obtain ⟨u', hu', pu⟩ := uv j hj
        rw [b] at hu'
        cases hu'
        obtain ⟨x', hx', rx⟩ := (pv j _ xs (List.getElem?_eq_getElem hj) h1).2 i u pu
        rw [h2] at hx'
        cases hx'
        exact rx
      refine ⟨_, rfl, wpAny_letOwnedTupleGo_zip (s := { s with heap := g, toks := tk }) z2 fun g2 z3 sb => ?_⟩
      have hT2 : Tpl g2 s.heap.objs.size us := (sb.2 _ (Nat.ne_of_gt hzl)).trans tT
      have new : ObjOk X.prog X.w (upd H s.heap.objs.size (.frz { cls := .type "tuple", data := .seq us.toArray } (.tup ((List.range Ss.length).map fx)))) g2 s.heap.objs.size (.frz { cls := .type "tuple", data := .seq us.toArray } (.tup ((List.range Ss.length).map fx))) :=
        ⟨hT2, by simpa using hsl, us, rv, ⟨_, hT2, rfl, _, rfl⟩⟩
      have nz : ∀ b, b ∉ zfp N Ss.length → b ≠ N + Ss.length + 2 ∧ b ≠ N + Ss.length + 1 ∧ ∀ j, j < Ss.length → b ≠ N + j := fun b hb => by
        rw [mem_zfp] at hb
        exact ⟨nne (by omega), nne (by omega), fun j hj => nne (by omega)⟩
      have I1 := I.turnedNew (t' := tk) (ch := zfp N Ss.length) (T := s.heap.objs.size) (fun b ob hb q => let ⟨n1, n2, n3⟩ := nz b hb; (sb.2 b n1).trans (hk b ob n1 n2 n3 q)) hf (Nat.le_refl _) new
      refine ⟨.ref s.heap.objs.size, _, I1, rfl, ⟨_, _, _, rfl, I.hok.fresh (Nat.le_refl _), rfl, rfl, by simp, fun j S e => ?_⟩, ⟨z3, ?_, ⟨us, ?_, ul⟩, fun j S e => ?_⟩, fun b hb => ?_⟩
      · have hj : j < Ss.length := (List.getElem?_eq_some_iff.mp e).1
        refine ⟨fx j, hv j hj, fun ys hy => ?_⟩
        obtain ⟨xs, h1, h2⟩ := hfx j S e
        rw [Src.inj I hy h1]
        exact h2
      · exact (sb.2 _ (nne (by omega))).trans (hk _ _ (nne (by omega)) (nne (by omega)) (fun j hj => nne (by omega)) hTI)
      · exact (sb.2 _ (nne (by omega))).trans t2
      · have hj : j < Ss.length := (List.getElem?_eq_some_iff.mp e).1
        exact Src.iter_at (back j S e _ _ (s2 j hj)) fun o q => (sb.2 _ (nne (by omega))).trans q
      · obtain ⟨o, ho, _⟩ : ∃ o, s.heap.get? b = some o ∧ True := by
          obtain ⟨b1, b2⟩ := mem_zfp.mp hb
          rcases Nat.lt_or_ge b (N + Ss.length) with l | l
          · obtain ⟨o, ho, r⟩ := Src.iter_obj (hi (b - N) _ (List.getElem?_eq_getElem (nsub b1 l)))
            rw [nback b1] at ho
            exact ⟨o, ho, trivial⟩
          · rcases ncase l b2 with e | e | e
            · rw [e]; exact ⟨_, hTI, trivial⟩
            · rw [e]; exact ⟨_, hTO, trivial⟩
            · rw [e]; exact ⟨_, hz, trivial⟩
        rw [upd_ne (Nat.ne_of_lt (Heap.lt_size ho))]
        exact (hf b hb).1
  done := by
    intro X hP hw hK hc i pins s σ H E I hf st hg
    obtain ⟨hz, hTI, ⟨old, hTO, ol⟩, hi⟩ := st
    subst hP hw hK
    obtain ⟨hle, S0, hS0, xs0, hx0, he0⟩ := hg
    obtain ⟨nn, Pd, St, D, st, back, pv⟩ := zdraws I hc hlow (fun S hS => let ⟨xs, h, _⟩ := hle S hS; ⟨xs, h⟩) hi
    refine pyNext_zipN_end (I.ok.hd hc) (zapart hlow) D h0 hz hTI hTO ol st (fun j hj => ?_) ?_ hsl fun g tk hk => ⟨rfl, I.turnedL (t' := tk) (ch := zfp N Ss.length) (fun b ob hb q => ?_) hf⟩
    · have e := List.getElem?_eq_getElem hj
      obtain ⟨xs, h1, h2⟩ := hle _ (List.mem_of_getElem? e)
      rw [(pv j _ xs e h1).1]
      exact h2
    · obtain ⟨j, hj, e⟩ := List.mem_iff_getElem.mp hS0
      have e' : Ss[j]? = some S0 := by rw [List.getElem?_eq_getElem hj, e]
      exact ⟨j, hj, by rw [(pv j _ xs0 e' hx0).1]; exact he0⟩
    · rw [mem_zfp] at hb
      exact hk b ob (nne (by omega)) (nne (by omega)) (fun j hj => nne (by omega)) q
  self := fun A i s Q E ⟨hz, _⟩ h => wpAny_pyIter_zip hz h

def iZipT (K : PySem.W.Frag) (n : Nat) (ta : TA) : TI := fun σ H R => ta σ H fun vs H1 => ∃ Ss : List Src, Ss.length = n ∧ vs = Ss.map Src.val ∧ (∀ S ∈ Ss, ∃ xs, S.items K H1 xs) ∧ R (ItZ K Ss) H1
theorem vals_get {xs : List V} {us : List Value} (h : Vals xs us) : xs.length = us.length := h.length
theorem pi_zipT {X : Cx} {es : List Expr} {ta : TA} {p pos tpos : Pos} {elts : List Expr} {kk : Nat} (hg : Gl X "zip") (hm : X.mg "zip" = none) (ha : PA X es ta) (e : Expr) (er : List Expr) (ees : es = e :: er) (hsl : es.length ≤ sizeLine)
    (hc : ∀ us : List Value, us.length = es.length → checkTypeCall "zip" ⟨us, []⟩ = pure () ∧ checkBuiltinCall "zip.__new__" ⟨.type "zip" :: us, []⟩ = pure () ∧ ∀ obj, argsOk "object.__init__" ⟨obj :: us, []⟩)
    (hs : starEach es X.env = (false, eval e X.env) :: starEach er X.env) (hpl : (backTo pos (starEach er X.env)).any (·.1) = false) :
    PI X (.Tuple elts kk tpos) (.Call (.Name "zip" p) es [] pos) (iZipT X.K es.length ta) := by
  refine ⟨fun pins s σ H R I h => ?_⟩
  subst ees
  refine Call_ (ld_blt I hg hm PyProof.Rows.boot_zip (PyProof.Rows.callWith_type1 (thn (ha.run pos pins s σ H _ I h) fun us s1 ⟨vs, H1, I1, r1, q1⟩ => ?_) hs hpl))
  obtain ⟨Ss, hel, ex, hq, q⟩ := q1
  subst ex
  have hul : Ss.length = us.length := by rw [← r1.length, List.length_map]
  have B0 : ∀ j : Nat, ∃ d : Obj × (Heap → Prop), ∀ u, us[j]? = some u → Begins u d.1 d.2 ∧ d.2 s1.heap ∧ ∀ S, Ss[j]? = some S → ∀ h it, h.get? it = some d.1 → S.iter it 0 h := fun j => by
    cases eu : us[j]? with
    | none => exact ⟨({ cls := .none, data := .cell .none }, fun _ => True), fun u z => by cases z⟩
    | some u =>
      have hj : j < Ss.length := by rw [hul]; exact (List.getElem?_eq_some_iff.mp eu).1
      have e1 : Ss[j]? = some Ss[j] := List.getElem?_eq_getElem hj
      obtain ⟨xs, hx⟩ := hq _ (List.mem_of_getElem? e1)
      obtain ⟨u', hu', ru⟩ := r1.get (i := j) (x := Ss[j].val) (by rw [List.getElem?_map, e1]; rfl)
      rw [eu] at hu'
      cases hu'
      obtain ⟨o, Hc, B, hc0, mk⟩ := Src.begins I1 hx ru
      exact ⟨(o, Hc), fun u' z => by cases z; exact ⟨B, hc0, fun S z => by rw [e1] at z; cases z; exact mk⟩⟩
  obtain ⟨fd, hfd⟩ := Classical.axiomOfChoice B0
  obtain ⟨c1, c2, c3⟩ := hc us (by rw [← hul, hel])
  refine call_zipN (us := us) (o := fun j => (fd j).1) (Hc := fun j => (fd j).2) (fun j u z => (hfd j u z).1) (by rw [← hul, hel]; exact hsl) (fun j hj => (hfd j _ (List.getElem?_eq_getElem hj)).2.1) c1 c2 c3 fun g z0 tI tO go kp => wpAny_pyIter_zip z0 ?_
  rw [← hul] at z0 tI tO go ⊢
  have I2 : Inv X pins σ H1 { s1 with heap := g } := I1.kept (t' := s1.toks) kp
  have hlow : ∀ S ∈ Ss, ∀ b ∈ S.fp, b < s1.heap.objs.size := fun S hS => let ⟨xs, hx⟩ := hq S hS; Src.lt I1 hx
  refine ⟨_, zfp s1.heap.objs.size Ss.length, ZTn Ss s1.heap.objs.size, _, H1, rfl, I2, turnZ (by rw [hel]; exact Nat.succ_pos _) (by rw [hel]; exact hsl) hlow, ⟨z0, tI, ⟨_, tO, List.length_replicate⟩, fun j S eS => ?_⟩, fun b hb => ?_, q⟩
  · have hj : j < Ss.length := (List.getElem?_eq_some_iff.mp eS).1
    have hju : j < us.length := by rw [← hul]; exact hj
    exact (hfd j _ (List.getElem?_eq_getElem hju)).2.2 S eS _ _ (go j hj)
  · exact I1.fpOk (mem_zfp.mp hb).1 (I1.hok.fresh (mem_zfp.mp hb).1)
end Mp

/-! MpO7: enumerate, zip: the rules. -/
namespace Mp
open PySem PySem.Spec PyProof.Rows L2
section
variable {Γ : Gam} {W : WX} {X : Cx} {k : Nat}

/-- the source stands through the walk -/
def SrcOk (Γ : Gam) (R : Src) (ds : List D) (hd : List (Nat × List D)) (π0 : List Addr) (S0 : Sto) (H0 : Hp) : Prop := ∀ (rs' : List Addr) π S H, GRel { Γ with rs := rs' } π S H → Keep Γ.rs H0 (Al Γ.rs π0 S0) π0 H (Al rs' π S) π → (∀ p, p ∈ hd → S[p.1]? = some (.lst p.2)) →
  ∃ xs, R.items Γ.K H xs ∧ VsR { Γ with rs := rs' } π S H ds xs
theorem src_of {π0 : List Addr} {S0 : Sto} {H0 : Hp} {x : D} {v : V} {ds : List D} (g : GRel Γ π0 S0 H0) (r : VR Γ π0 S0 H0 x v) (h : witems x S0 = some ds) : ∃ R : Src, v = R.val ∧ SrcOk Γ R ds (held x ds) π0 S0 H0 := by
  cases x with
  | str z =>
    cases h
    simp only [VRel] at r
    subst r
    refine ⟨.txt z, rfl, fun rs' π S H g' k' _ => ⟨_, rfl, ?_⟩⟩
    generalize z.cps.toList = l
    induction l with
    | nil => exact VsRel.nil
    | cons c l ih => exact VsRel.cons (by simp only [VRel]) ih
  | tup es =>
    cases h
    simp only [VRel] at r
    obtain ⟨a, xs, rfl, s, q⟩ := r
    exact ⟨.tup a, rfl, fun rs' π S H g' k' _ => ⟨xs, (k'.tup s).sq, VsRel.mono k' _ _ q⟩⟩
  | lst es =>
    cases h
    simp only [VRel] at r
    obtain ⟨a, xs, rfl, s, q⟩ := r
    exact ⟨.lst a, rfl, fun rs' π S H g' k' _ => ⟨xs, (k'.lst s).sq, VsRel.mono k' _ _ q⟩⟩
  | kls es =>
    cases h
    simp only [VRel] at r
    obtain ⟨a, xs, rfl, s, q⟩ := r
    exact ⟨.lst a, rfl, fun rs' π S H g' k' _ => ⟨xs, (k'.lstK s).sq, VsRel.mono k' _ _ q⟩⟩
  | ref i =>
    simp only [VRel] at r
    obtain ⟨a, rfl, pa⟩ := r
    refine ⟨.lst a, rfl, fun rs' π S H g' k' st => ?_⟩
    have e1 : S[i]? = some (.lst ds) := st (i, ds) (List.mem_singleton.mpr rfl)
    obtain ⟨xs, hx, r⟩ := g'.obj i a _ (k'.pre _ _ pa) e1
    exact ⟨xs, SqL.of hx, r⟩
  | _ => simp [witems, items] at h
theorem srcs_of {π0 : List Addr} {S0 : Sto} {H0 : Hp} (g : GRel Γ π0 S0 H0) : ∀ {xs : List D} {vs : List V} {dss : List (List D)}, VsR Γ π0 S0 H0 xs vs → srcs xs S0 = some dss →
    ∃ Rs : List Src, vs = Rs.map Src.val ∧ Rs.length = xs.length ∧ dss.length = xs.length ∧ ∀ (j : Nat) R ds, Rs[j]? = some R → dss[j]? = some ds → SrcOk Γ R ds (heldAll xs dss) π0 S0 H0
  | [], vs, dss, r, h => by
    cases h
    simp only [VsRel] at r
    exact ⟨[], by rw [r]; rfl, rfl, rfl, fun j R ds e => by simp at e⟩
  | x :: xs, vs, dss, r, h => by
    simp only [VsRel] at r
    obtain ⟨v, vs, rfl, r1, r2⟩ := r
    simp only [srcs] at h
    split at h
    · rename_i ds dss' e1 e2
      cases h
      obtain ⟨R, rfl, ok⟩ := src_of g r1 e1
      obtain ⟨Rs, rfl, l1, l2, ok2⟩ := srcs_of g r2 e2
      refine ⟨R :: Rs, rfl, by simp [l1], by simp [l2], fun j R' ds' a b => ?_⟩
      cases j with
      | zero =>
        simp at a b
        subst a
        subst b
        exact fun rs' π S H g' k' st => ok rs' π S H g' k' fun p hp => st p (List.mem_append_left _ hp)
      | succ j => exact fun rs' π S H g' k' st => ok2 j R' ds' (by simpa using a) (by simpa using b) rs' π S H g' k' fun p hp => st p (List.mem_append_right _ hp)
    · cases h
theorem enumD_get : ∀ (ds : List D) (i : Nat) (b : Int) (d : D), (enumD b ds)[i]? = some d → ∃ e, ds[i]? = some e ∧ d = .tup [.int (b + i), e]
  | [], i, b, d, h => by simp [enumD] at h
  | e :: ds, 0, b, d, h => by simp [enumD] at h; exact ⟨e, rfl, by simp [← h]⟩
  | e :: ds, i + 1, b, d, h => by
    simp only [enumD, List.getElem?_cons_succ] at h
    obtain ⟨e', h1, h2⟩ := enumD_get ds i (b + 1) d h
    exact ⟨e', by simpa using h1, by rw [h2]; congr 3; omega⟩
theorem enumD_length : ∀ (ds : List D) (b : Int), (enumD b ds).length = ds.length
  | [], b => rfl
  | d :: ds, b => by simp [enumD, enumD_length ds]
theorem walks_enum {R : Src} {ds : List D} {hd : List (Nat × List D)} {π0 : List Addr} {S0 : Sto} {H0 : Hp} (ok : SrcOk Γ R ds hd π0 S0 H0) : Walks Γ (ItE Γ.K R) ⟨enumD 0 ds, hd⟩ π0 S0 H0 := by
  intro i rs' π S H g k st
  obtain ⟨xs, hx, r⟩ := ok rs' π S H g k st
  refine ⟨fun d h => ?_, fun e => ⟨xs, hx, by rw [e, enumD_length, VsRel.length r]⟩⟩
  obtain ⟨e, he, rfl⟩ := enumD_get ds i 0 d h
  obtain ⟨v, hv, rv⟩ := r.get he
  refine ⟨⟨xs, v, hx, hv⟩, fun x H' ⟨T, ob, y, e1, hT, hob, e2, hy⟩ => ?_⟩
  subst e1
  subst e2
  have := hy xs hx
  rw [hv] at this
  cases this
  obtain ⟨g', k'⟩ := g.fresh (.frz ob (.tup [.int (i : Nat), v])) hT
  refine ⟨g', k', ?_⟩
  simp only [VRel]
  exact ⟨T, _, rfl, .inl ⟨ob, upd_same, hob, g.free hT⟩, VsRel.cons (by simp only [VRel, Int.zero_add]) (VsRel.one (VRel.mono k' _ _ rv))⟩
theorem di_enum (C : Ct X Γ W k) {e : Expr} {f : Ev} {p pos tpos : Pos} {elts : List Expr} {kk : Nat} (hg : Gl X "enumerate") (hm : X.mg "enumerate" = none) (h : DE X Γ W e f) (hs : starEach [e] X.env = [(false, eval e X.env)] := by rfl) :
    DI X Γ W (.Tuple elts kk tpos) (.Call (.Name "enumerate" p) [e] [] pos) (iEnum (aCons f aNil)) := by
  refine PIimp (pi_enumT hg hm (da_cons h da_nil hs) hs) fun σ H Q h => tI.first h fun ds vs H1 ρ S1 π1 x r q => ?_
  try dsimp only at q
  split at q
  · rename_i d
    split at q
    · rename_i es he
      simp only [relA, VsRel] at r
      obtain ⟨v, r', rfl, rv, rfl⟩ := r
      obtain ⟨R, rfl, ok⟩ := src_of x.g rv he
      obtain ⟨xs, hx, _⟩ := ok Γ.rs π1 S1 H1 x.g Keep.refl (fun p hp => by
        cases d with
        | ref i =>
          obtain rfl : p = (i, es) := List.mem_singleton.mp hp
          simp only [witems, items] at he
          split at he
          · cases he; assumption
          · cases he
        | _ => cases hp)
      refine ⟨R, xs, rfl, by rw [C.K]; exact hx, ?_⟩
      rw [C.K]
      exact PostI.okI x.g (walks_enum ok) q
    · exact q.elim
  · exact q.elim
theorem minLen_le : ∀ {dss : List (List D)} {ds : List D}, ds ∈ dss → minLen dss ≤ ds.length
  | [a], ds, h => by rw [List.mem_singleton.mp h]; exact Nat.le_refl _
  | a :: b :: r, ds, h => by
    rcases List.mem_cons.mp h with e | e
    · rw [e]; exact Nat.min_le_left _ _
    · exact Nat.le_trans (Nat.min_le_right _ _) (minLen_le e)
theorem minLen_mem : ∀ {dss : List (List D)}, dss ≠ [] → ∃ ds ∈ dss, minLen dss = ds.length
  | [a], _ => ⟨a, List.mem_cons_self, rfl⟩
  | a :: b :: r, _ => by
    obtain ⟨ds, h1, h2⟩ := minLen_mem (dss := b :: r) (by simp)
    rcases Nat.le_total a.length (minLen (b :: r)) with h | h
    · exact ⟨a, List.mem_cons_self, Nat.min_eq_left h⟩
    · exact ⟨ds, List.mem_cons_of_mem _ h1, by rw [← h2]; exact Nat.min_eq_right h⟩
theorem zipN_length {dss : List (List D)} : (zipN dss).length = minLen dss := by simp [zipN]
theorem zipN_get {dss : List (List D)} {i : Nat} {d : D} (h : (zipN dss)[i]? = some d) : i < minLen dss ∧ d = .tup (dss.map fun ds => ds.getD i .non) := by
  simp only [zipN, List.getElem?_map] at h
  by_cases hi : i < minLen dss
  · rw [List.getElem?_range hi] at h
    exact ⟨hi, (Option.some.inj h).symm⟩
  · rw [List.getElem?_eq_none (by simpa using Nat.not_lt.mp hi)] at h
    cases h
theorem vsr_of {K : PySem.W.Frag} {H : Hp} {al : Addr → Prop} {π : List Addr} : ∀ {ds : List D} {xs : List V}, ds.length = xs.length → (∀ (j : Nat) d x, ds[j]? = some d → xs[j]? = some x → VRel K H al π d x) → VsRel K H al π ds xs
  | [], [], _, _ => VsRel.nil
  | d :: ds, x :: xs, h, r => VsRel.cons (r 0 d x rfl rfl) (vsr_of (by simpa using h) fun j d x a b => r (j + 1) d x (by simpa using a) (by simpa using b))
  | [], _ :: _, h, _ => by simp at h
  | _ :: _, [], h, _ => by simp at h
theorem walks_zip {Rs : List Src} {dss : List (List D)} {hd : List (Nat × List D)} {π0 : List Addr} {S0 : Sto} {H0 : Hp} (hl : Rs.length = dss.length) (h0 : dss ≠ []) (ok : ∀ (j : Nat) R ds, Rs[j]? = some R → dss[j]? = some ds → SrcOk Γ R ds hd π0 S0 H0) :
    Walks Γ (ItZ Γ.K Rs) ⟨zipN dss, hd⟩ π0 S0 H0 := by
  intro i rs' π S H g k st
  have both : ∀ (j : Nat) R, Rs[j]? = some R → ∃ ds xs, dss[j]? = some ds ∧ R.items Γ.K H xs ∧ VsR { Γ with rs := rs' } π S H ds xs := fun j R e => by
    have hj : j < dss.length := by rw [← hl]; exact (List.getElem?_eq_some_iff.mp e).1
    obtain ⟨xs, h1, h2⟩ := ok j R _ e (List.getElem?_eq_getElem hj) rs' π S H g k st
    exact ⟨_, xs, List.getElem?_eq_getElem hj, h1, h2⟩
  refine ⟨fun d h => ?_, fun e => ⟨fun R hR => ?_, ?_⟩⟩
  · obtain ⟨hi, rfl⟩ := zipN_get h
    refine ⟨fun R hR => ?_, fun x H' ⟨T, ob, vs, e1, hT, hob, e2, hvl, hy⟩ => ?_⟩
    · obtain ⟨j, e⟩ := List.mem_iff_getElem?.mp hR
      obtain ⟨ds, xs, h1, h2, h3⟩ := both j R e
      have hlt : i < ds.length := Nat.lt_of_lt_of_le hi (minLen_le (List.mem_of_getElem? h1))
      obtain ⟨v, hv, _⟩ := h3.get (List.getElem?_eq_getElem hlt)
      exact ⟨xs, v, h2, hv⟩
    · subst e1
      subst e2
      obtain ⟨g', k'⟩ := g.fresh (.frz ob (.tup vs)) hT
      refine ⟨g', k', ?_⟩
      simp only [VRel]
      refine ⟨T, _, rfl, .inl ⟨ob, upd_same, hob, g.free hT⟩, vsr_of (by rw [List.length_map, hvl, hl]) fun j d v a b => ?_⟩
      have hj : j < Rs.length := by rw [← hvl]; exact (List.getElem?_eq_some_iff.mp b).1
      obtain ⟨ds, xs, h1, h2, h3⟩ := both j _ (List.getElem?_eq_getElem hj)
      rw [List.getElem?_map, h1] at a
      have a' := Option.some.inj a
      subst a'
      have hlt : i < ds.length := Nat.lt_of_lt_of_le hi (minLen_le (List.mem_of_getElem? h1))
      obtain ⟨v', hv', rv⟩ := h3.get (List.getElem?_eq_getElem hlt)
      obtain ⟨x, hx, hxs⟩ := hy j _ (List.getElem?_eq_getElem hj)
      rw [b] at hx
      cases hx
      have := hxs xs h2
      rw [hv'] at this
      cases this
      have eg : ds.getD i .non = ds[i] := by rw [List.getD_eq_getElem?_getD, List.getElem?_eq_getElem hlt]; rfl
      show VRel _ _ _ _ (ds.getD i .non) _
      rw [eg]
      exact VRel.mono k' _ _ rv
  · obtain ⟨j, e'⟩ := List.mem_iff_getElem?.mp hR
    obtain ⟨ds, xs, h1, h2, h3⟩ := both j R e'
    refine ⟨xs, h2, ?_⟩
    rw [e, ← VsRel.length h3]
    show (zipN dss).length ≤ _
    rw [zipN_length]
    exact minLen_le (List.mem_of_getElem? h1)
  · obtain ⟨ds, hm, e2⟩ := minLen_mem h0
    obtain ⟨j, e3⟩ := List.mem_iff_getElem?.mp hm
    have hj : j < Rs.length := by rw [hl]; exact (List.getElem?_eq_some_iff.mp e3).1
    obtain ⟨ds', xs, h1, h2, h3⟩ := both j _ (List.getElem?_eq_getElem hj)
    rw [e3] at h1
    cases h1
    refine ⟨_, List.getElem_mem hj, xs, h2, ?_⟩
    rw [e, ← VsRel.length h3, ← e2]
    exact zipN_length
theorem heldAll_now {S1 : Sto} : ∀ {xs : List D} {dss : List (List D)}, srcs xs S1 = some dss → ∀ p, p ∈ heldAll xs dss → S1[p.1]? = some (.lst p.2)
  | [], dss, h, p, hp => by cases h; cases hp
  | x :: xs, dss, h, p, hp => by
    simp only [srcs] at h
    split at h
    · rename_i ds dss' e1 e2
      cases h
      rcases List.mem_append.mp hp with hp | hp
      · cases x with
        | ref i =>
          obtain rfl : p = (i, ds) := List.mem_singleton.mp hp
          simp only [witems, items] at e1
          split at e1
          · cases e1; assumption
          · cases e1
        | _ => cases hp
      · exact heldAll_now e2 p hp
    · cases h
theorem di_zip (C : Ct X Γ W k) {e : Expr} {er : List Expr} {f : Ea} {p pos tpos : Pos} {elts : List Expr} {kk n : Nat} (hg : Gl X "zip") (hm : X.mg "zip" = none) (h : DA X Γ W (e :: er) f) (hn : (e :: er).length = n)
    (hc : ∀ us : List Value, us.length = (e :: er).length → checkTypeCall "zip" ⟨us, []⟩ = pure () ∧ checkBuiltinCall "zip.__new__" ⟨.type "zip" :: us, []⟩ = pure () ∧ ∀ obj, argsOk "object.__init__" ⟨obj :: us, []⟩)
    (hsl : (e :: er).length ≤ sizeLine) (hs : starEach (e :: er) X.env = (false, eval e X.env) :: starEach er X.env) (hpl : (backTo pos (starEach er X.env)).any (·.1) = false) :
    DI X Γ W (.Tuple elts kk tpos) (.Call (.Name "zip" p) (e :: er) [] pos) (iZip n f) := by
  subst hn
  refine PIimp (pi_zipT hg hm h e er rfl hsl hc hs hpl) fun σ H Q h => tI.first h fun ds vs H1 ρ S1 π1 x r q => ?_
  try dsimp only at q
  split at q
  · rename_i dss he
    split at q
    · rename_i hl
      obtain ⟨Rs, rfl, l1, l2, ok⟩ := srcs_of x.g r he
      refine ⟨Rs, by rw [l1, hl], rfl, fun R hR => ?_, ?_⟩
      · obtain ⟨j, e⟩ := List.mem_iff_getElem?.mp hR
        have hj : j < dss.length := by rw [l2, ← l1]; exact (List.getElem?_eq_some_iff.mp e).1
        obtain ⟨xs, h1, _⟩ := ok j R _ e (List.getElem?_eq_getElem hj) Γ.rs π1 S1 H1 x.g Keep.refl (heldAll_now he)
        exact ⟨xs, by rw [C.K]; exact h1⟩
      · rw [C.K]
        exact PostI.okI x.g (walks_zip (by rw [l1, l2]) (fun z => by rw [z] at l2; rw [hl] at l2; simp at l2) ok) q
    · exact q.elim
  · exact q.elim
theorem zip_c2 : ∀ us : List Value, us.length = 2 → checkTypeCall "zip" ⟨us, []⟩ = pure () ∧ checkBuiltinCall "zip.__new__" ⟨.type "zip" :: us, []⟩ = pure () ∧ ∀ obj, argsOk "object.__init__" ⟨obj :: us, []⟩
  | [a, b], _ => ⟨F.typeCall_zip_2 a b, F.newCall_zip_2 a b, fun obj => F.args_object_init_3 obj a b⟩
theorem zip_c3 : ∀ us : List Value, us.length = 3 → checkTypeCall "zip" ⟨us, []⟩ = pure () ∧ checkBuiltinCall "zip.__new__" ⟨.type "zip" :: us, []⟩ = pure () ∧ ∀ obj, argsOk "object.__init__" ⟨obj :: us, []⟩
  | [a, b, c], _ => ⟨F.typeCall_zip_3 a b c, F.newCall_zip_3 a b c, fun obj => F.args_object_init_4 obj a b c⟩
theorem zip_c4 : ∀ us : List Value, us.length = 4 → checkTypeCall "zip" ⟨us, []⟩ = pure () ∧ checkBuiltinCall "zip.__new__" ⟨.type "zip" :: us, []⟩ = pure () ∧ ∀ obj, argsOk "object.__init__" ⟨obj :: us, []⟩
  | [a, b, c, d], _ => ⟨by kernel_rfl, by kernel_rfl, fun obj => by unfold argsOk; kernel_rfl⟩
theorem zip_c5 : ∀ us : List Value, us.length = 5 → checkTypeCall "zip" ⟨us, []⟩ = pure () ∧ checkBuiltinCall "zip.__new__" ⟨.type "zip" :: us, []⟩ = pure () ∧ ∀ obj, argsOk "object.__init__" ⟨obj :: us, []⟩
  | [a, b, c, d, e], _ => ⟨by kernel_rfl, by kernel_rfl, fun obj => by unfold argsOk; kernel_rfl⟩
end
end Mp

/-! MpE: defs of a text, the head. -/
namespace Mp
open PySem PySem.Spec PyProof.Rows L2

structure DefAt (K : PySem.W.Frag) (mg : Str → Option Value) (x : Str) (st : Stmt) (ps : List Str) : Prop where
  ex : ∃ f fd, Fun K x x st f fd ∧ mg x = some (.ref f) ∧ Binds K fd ps []
section
variable {P : Program} {w : World} {mg : Str → Option Value} {base : Heap} {Γ : Gam}
theorem DefAt.fn {x : Str} {st : Stmt} {N ps : List Str} {n k : Nat} {b : Ex} (D : DefAt Γ.K mg x st ps) (S : FnScope N ps (defScope st)) (hn : ps.length = n)
    (hb : ∀ (f : Addr) (cdv : Value) (A : Around) (outer : List PySem.Env) (s : Shared) (H : Hp) (E : XK) (rs : List Addr), Ct (cxB P w Γ.K mg base N x st f cdv A outer s H E) (Γ.wr rs) (fun cls d _ H' => E cls d H') k →
      DSs (cxB P w Γ.K mg base N x st f cdv A outer s H E) (Γ.wr rs) (fun cls d _ H' => E cls d H') (defBody st) b) : FnAt P w mg base Γ (k + 1) x n (run N.length b) := by
  obtain ⟨f, fd, F, hm, bi⟩ := D.ex
  exact fnAt_of F S hn hm bi (hb f)
/-- a def of which nothing is asked -/
theorem DefAt.none {x : Str} {st : Stmt} {ps : List Str} {n k : Nat} (D : DefAt Γ.K mg x st ps) (hn : ps.length = n) : FnAt P w mg base Γ k x n (fun _ _ => .bad) := by
  obtain ⟨f, fd, F, hm, bi⟩ := D.ex
  refine ⟨f, fd, ps, ⟨fun vs H Q E h => h.1.trans hn.symm, fun A outer s H args us vs Q E hr he hb hv h => ?_⟩, hm, F.kp, bi, hn⟩
  obtain ⟨_, rs, ds, S, π, g, r, p⟩ := h
  exact p.elim
theorem FnAt.wr {j n : Nat} {x : Str} {m : Fn} (F : FnAt P w mg base Γ j x n m) (rs : List Addr) : FnAt P w mg base (Γ.wr rs) j x n m := F
theorem FnAt.mono {j k n : Nat} {x : Str} {m : Fn} (F : FnAt P w mg base Γ j x n m) (h : j ≤ k) : FnAt P w mg base Γ k x n m := by
  obtain ⟨f, fd, ps, ok, r⟩ := F
  exact ⟨f, fd, ps, ok.mono h, r⟩
/-- the law's own promise -/
def spLaw (K : PySem.W.Frag) (n : Nat) : Sp := fun vs H Q _ => ∃ (a : Addr) (ns : List Int), vs = [.ref a] ∧ ns.length ≤ n ∧ Only H ∧ SqL K H a (ns.map V.int) ∧ ∀ H', Q (.bl true) H'
theorem law_ok {k n : Nat} {m : Fn} {f : Addr} {fd : FuncData} {ps : List Str} (F : FnOk P w Γ.K mg base (L2.CX P w) k f fd ps (spM Γ 1 m)) (hm : ∀ ns : List Int, ns.length ≤ n → ∃ S, m [.kls (ns.map .int)] [] = .ok (.bl true) S) :
    FnOk P w Γ.K mg base (L2.CX P w) k f fd ps (spLaw Γ.K n) := by
  refine F.imp fun vs H Q E ⟨a, ns, ev, hl, hO, hS, q⟩ => ?_
  subst ev
  have lt : LstK Γ.K H (Al [] [] []) a (ns.map V.int) := by
    rcases hS with h | h
    · exact .inl ⟨h, fun z => by rcases z with z | ⟨i, o, z, _⟩ <;> simp at z⟩
    · exact .inr h
  refine ⟨rfl, [], [.kls (ns.map .int)], [], [], ⟨rfl, List.nodup_nil, fun i a o e => by simp at e, fun a h => by simp at h, fun a h => by simp at h, fun a h => by simp at h⟩, ?_, ?_⟩
  · refine VsRel.one ?_
    simp only [VRel]
    exact ⟨a, _, rfl, lt, ints_rel ns⟩
  · obtain ⟨S, e⟩ := hm ns hl
    rw [e]
    intro v π' H' g k r
    have : v = .bl true := by simpa only [relD, VRel] using r
    subst this
    exact q H'
end
theorem walk_law {l : PySem.W.OpenLaw} {k : Nat} {q : Program} {loose : List Str} {XP : (Str → Option Value) → Heap → Prop} {YP : World → Heap → Prop} {d : DefRec} {K : Params → PySem.W.Frag} (hn : l.most = some 63) (hdf : d.params.defaults = []) (hr : Room k callerA)
    (hY : ∀ (w : World) (h : Heap), YP w h → (K w.params).In h)
    (F : ∀ (w : World) (mg : Str → Option Value) (fa : Addr) (h : Heap), (K w.params).In h → h.Ns mainGlobals mg → mg d.name = some (.ref fa) →
      ∃ fd : FuncData, (∀ (s : Shared) (u : Value), BindsTo s fd ⟨[u], []⟩ [("_law_script", u)]) ∧ ∀ base : Heap, (K w.params).In base → base.Ns mainGlobals mg → FnOk l.prog w (K w.params) mg base (L2.CX l.prog w) k fa fd ["_law_script"] (spLaw (K w.params) 63)) :
    PySem.W.WalkO q loose XP YP l.row.toRowW d [] (fun f vs => PySem.call f vs) :=
  L2.walk_of (n := 63) (k := k) (x := "_law_script") (CX := fun w => L2.CX l.prog w) (sp := fun w => spLaw (K w.params) 63) hn (by decide) hdf hr hY F (fun _ _ a ns hl hO hS => ⟨a, ns, rfl, hl, hO, hS, fun _ => rfl⟩) fun w H s e s' z => by
    obtain ⟨a, B, H', cls, d, _, _, _, _, _, _, _, z⟩ := z
    exact z
theorem names_of {X : Cx} {x : Str} {C : Addr} (hg : Gl X x) (hd : (x == ("__debug__" : Str)) = false) (h : X.mg x = some (.ref C)) : Names X x (.ref C) := ⟨hg, hd, .inl h⟩
end Mp

/-! MpW: what a run of the mirror gives, read backwards. -/
namespace Mp
open PySem

def R.sat {α : Type} (r : R α) (Q : α → Sto → Prop) (E : Nat → Sto → Prop) : Prop := match r with
  | .ok a S => Q a S
  | .ex c S => E c S
  | .bad => False
structure Po where
  nx : Env → Sto → Prop
  rt : D → Sto → Prop
  bk : Env → Sto → Prop
  ct : Env → Sto → Prop
  ex : Nat → Env → Sto → Prop
def Out.sat (o : Out) (P : Po) : Prop := match o with
  | .nx ρ S => P.nx ρ S
  | .rt d S => P.rt d S
  | .bk ρ S => P.bk ρ S
  | .ct ρ S => P.ct ρ S
  | .ex c ρ S => P.ex c ρ S
  | .bad => False
section
variable {α β : Type} {Q : α → Sto → Prop} {E : Nat → Sto → Prop} {ρ : Env} {S : Sto} {P : Po}
@[simp] theorem sat_ok {a : α} : (R.ok a S).sat Q E = Q a S := (rfl)
@[simp] theorem sat_ex {c : Nat} : (R.ex c S : R α).sat Q E = E c S := (rfl)
@[simp] theorem sat_bad : (R.bad : R α).sat Q E = False := (rfl)
@[simp] theorem osat_nx : (Out.nx ρ S).sat P = P.nx ρ S := (rfl)
@[simp] theorem osat_rt {d : D} : (Out.rt d S).sat P = P.rt d S := (rfl)
@[simp] theorem osat_bad : (Out.bad).sat P = False := (rfl)
@[simp] theorem sat_bind {r : R β} {k : β → Sto → R α} : (r.bind k).sat Q E = r.sat (fun a S => (k a S).sat Q E) E := by cases r <;> rfl
@[simp] theorem sat_then {r : R β} {k : β → Sto → Out} : (r.then ρ k).sat P = r.sat (fun a S => (k a S).sat P) (fun c S => P.ex c ρ S) := by cases r <;> rfl
theorem R.sat.mono {r : R α} {Q' : α → Sto → Prop} {E' : Nat → Sto → Prop} (h : r.sat Q E) (q : ∀ a S, Q a S → Q' a S) (e : ∀ c S, E c S → E' c S) : r.sat Q' E' := by
  cases r with
  | ok a S => exact q a S h
  | ex c S => exact e c S h
  | bad => exact h
theorem Out.sat.mono {o : Out} {P' : Po} (h : o.sat P) (h1 : ∀ ρ S, P.nx ρ S → P'.nx ρ S) (h2 : ∀ d S, P.rt d S → P'.rt d S) (h3 : ∀ ρ S, P.bk ρ S → P'.bk ρ S) (h4 : ∀ ρ S, P.ct ρ S → P'.ct ρ S) (h5 : ∀ c ρ S, P.ex c ρ S → P'.ex c ρ S) : o.sat P' := by
  cases o with
  | nx ρ S => exact h1 _ _ h
  | rt d S => exact h2 _ _ h
  | bk ρ S => exact h3 _ _ h
  | ct ρ S => exact h4 _ _ h
  | ex c ρ S => exact h5 _ _ _ h
  | bad => exact h
theorem sat_eq {r : R α} {a : α} {S' : Sto} (h : r.sat (fun x S1 => x = a ∧ S1 = S') (fun _ _ => False)) : r = .ok a S' := by
  cases r with
  | ok x S1 => obtain ⟨h1, h2⟩ := h; rw [h1, h2]
  | ex c S1 => exact h.elim
  | bad => exact h.elim

/-! ### expressions -/
variable {QD : D → Sto → Prop} {QB : Bool → Sto → Prop} {QA : List D → Sto → Prop} {QW : Wk → Sto → Prop}
@[simp] theorem eVar_sat {i : Nat} : (eVar i ρ S).sat QD E = (match ρ[i]? with | some (some d) => QD d S | _ => False) := by
  unfold eVar; cases ρ[i]? with
  | none => rfl
  | some o => cases o <;> rfl
@[simp] theorem eC_sat {d : D} : (eC d ρ S).sat QD E = QD d S := (rfl)
@[simp] theorem aNil_sat : (aNil ρ S).sat QA E = QA [] S := (rfl)
@[simp] theorem aCons_sat {a : Ev} {r : Ea} : (aCons a r ρ S).sat QA E = (a ρ S).sat (fun d S1 => (r ρ S1).sat (fun ds S2 => QA (d :: ds) S2) E) E := by
  unfold aCons; simp only [sat_bind, sat_ok]
@[simp] theorem eTup_sat {a : Ea} : (eTup a ρ S).sat QD E = (a ρ S).sat (fun ds S1 => ds.length ≤ line ∧ QD (.tup ds) S1) E := by
  unfold eTup; simp only [sat_bind]; congr; funext ds S1; split <;> simp [*]
@[simp] theorem eLst_sat {a : Ea} : (eLst a ρ S).sat QD E = (a ρ S).sat (fun ds S1 => ds.length ≤ line ∧ QD (.lst ds) S1) E := by
  unfold eLst; simp only [sat_bind]; congr; funext ds S1; split <;> simp [*]
@[simp] theorem eLstM_sat {a : Ea} : (eLstM a ρ S).sat QD E = (a ρ S).sat (fun ds S1 => ds.length ≤ line ∧ QD (.ref S1.length) (S1 ++ [.lst ds])) E := by
  unfold eLstM; simp only [sat_bind]; congr; funext ds S1; split <;> simp [*]
@[simp] theorem eBin_sat {g : D → D → Sto → R D} {a b : Ev} : (eBin g a b ρ S).sat QD E = (a ρ S).sat (fun x S1 => (b ρ S1).sat (fun y S2 => (g x y S2).sat QD E) E) E := by
  unfold eBin; simp only [sat_bind]
@[simp] theorem eUn_sat {g : D → Sto → R D} {a : Ev} : (eUn g a ρ S).sat QD E = (a ρ S).sat (fun x S1 => (g x S1).sat QD E) E := by
  unfold eUn; simp only [sat_bind]
@[simp] theorem eCall_sat {m : Fn} {a : Ea} : (eCall m a ρ S).sat QD E = (a ρ S).sat (fun ds S1 => (m ds S1).sat QD E) E := by
  unfold eCall; simp only [sat_bind]
@[simp] theorem eB_sat {g : List D → Sto → R D} {a : Ea} : (eB g a ρ S).sat QD E = (a ρ S).sat (fun ds S1 => (g ds S1).sat QD E) E := by
  unfold eB; simp only [sat_bind]
@[simp] theorem eIf_sat {t : Et} {a b : Ev} : (eIf t a b ρ S).sat QD E = (t ρ S).sat (fun c S1 => if c = true then (a ρ S1).sat QD E else (b ρ S1).sat QD E) E := by
  unfold eIf; simp only [sat_bind]; congr; funext c S1; split <;> rfl
@[simp] theorem eAnd_sat {a b : Ev} : (eAnd a b ρ S).sat QD E = (a ρ S).sat (fun x S1 => match truth x S1 with | some true => (b ρ S1).sat QD E | some false => QD x S1 | none => False) E := by
  unfold eAnd; simp only [sat_bind]; congr; funext c S1; cases truth c S1 with
  | none => rfl
  | some b => cases b <;> rfl
@[simp] theorem eOr_sat {a b : Ev} : (eOr a b ρ S).sat QD E = (a ρ S).sat (fun x S1 => match truth x S1 with | some true => QD x S1 | some false => (b ρ S1).sat QD E | none => False) E := by
  unfold eOr; simp only [sat_bind]; congr; funext c S1; cases truth c S1 with
  | none => rfl
  | some b => cases b <;> rfl
@[simp] theorem eNot_sat {a : Ev} : (eNot a ρ S).sat QD E = (a ρ S).sat (fun x S1 => match truth x S1 with | some b => QD (.bl (!b)) S1 | none => False) E := by
  unfold eNot; simp only [sat_bind]; congr; funext c S1; cases truth c S1 <;> rfl
@[simp] theorem eT_sat {t : Et} : (eT t ρ S).sat QD E = (t ρ S).sat (fun b S1 => QD (.bl b) S1) E := by
  unfold eT; simp only [sat_bind, sat_ok]
@[simp] theorem eML_sat {g : D → List D → Sto → R D} {a : Ev} {r : Ea} : (eML g a r ρ S).sat QD E = (a ρ S).sat (fun x S1 => match litems x S1 with | some _ => (r ρ S1).sat (fun ds S2 => (g x ds S2).sat QD E) E | none => False) E := by
  unfold eML; simp only [sat_bind]; congr; funext c S1; cases litems c S1 <;> simp
@[simp] theorem eMD_sat {g : D → List D → Sto → R D} {a : Ev} {r : Ea} : (eMD g a r ρ S).sat QD E = (a ρ S).sat (fun x S1 => match pairs x S1 with | some _ => (r ρ S1).sat (fun ds S2 => (g x ds S2).sat QD E) E | none => False) E := by
  unfold eMD; simp only [sat_bind]; congr; funext c S1; cases pairs c S1 <;> simp
@[simp] theorem eDNew_sat : (eDNew ρ S).sat QD E = QD (.ref S.length) (S ++ [.dct false []]) := (rfl)
@[simp] theorem eSl_sat {a : Ev} {lo hi : Eo} : (eSl a lo hi ρ S).sat QD E = (a ρ S).sat (fun x S1 => (lo ρ S1).sat (fun l S2 => (hi ρ S2).sat (fun h S3 => (gSl x l h S3).sat QD E) E) E) E := by
  unfold eSl; simp only [sat_bind]
@[simp] theorem oNone_sat {Q : Option Int → Sto → Prop} : (oNone ρ S).sat Q E = Q none S := (rfl)
@[simp] theorem oSome_sat {Q : Option Int → Sto → Prop} {a : Ev} : (oSome a ρ S).sat Q E = (a ρ S).sat (fun x S1 => match x with | .int i => Q (some i) S1 | _ => False) E := by
  unfold oSome; simp only [sat_bind]; congr; funext c S1; cases c <;> rfl

/-! ### tests -/
@[simp] theorem tTru_sat {a : Ev} : (tTru a ρ S).sat QB E = (a ρ S).sat (fun x S1 => match truth x S1 with | some b => QB b S1 | none => False) E := by
  unfold tTru; simp only [sat_bind]; congr; funext c S1; cases truth c S1 <;> rfl
@[simp] theorem tNot_sat {t : Et} : (tNot t ρ S).sat QB E = (t ρ S).sat (fun b S1 => QB (!b) S1) E := by
  unfold tNot; simp only [sat_bind, sat_ok]
@[simp] theorem tAnd_sat {t u : Et} : (tAnd t u ρ S).sat QB E = (t ρ S).sat (fun b S1 => if b = true then (u ρ S1).sat QB E else QB false S1) E := by
  unfold tAnd; simp only [sat_bind]; congr; funext c S1; split <;> rfl
@[simp] theorem tOr_sat {t u : Et} : (tOr t u ρ S).sat QB E = (t ρ S).sat (fun b S1 => if b = true then QB true S1 else (u ρ S1).sat QB E) E := by
  unfold tOr; simp only [sat_bind]; congr; funext c S1; split <;> rfl
@[simp] theorem tYes_sat : (tYes ρ S).sat QB E = QB true S := (rfl)

@[simp] theorem tCmp_sat {g : D → D → Sto → R D} {a b : Ev} : (tCmp g a b ρ S).sat QB E = (a ρ S).sat (fun x S1 => (b ρ S1).sat (fun y S2 => (g x y S2).sat (fun z S3 => match z with | .bl k => QB k S3 | _ => False) E) E) E := by
  unfold tCmp; simp only [sat_bind, eBin_sat]; congr; funext x S1; congr; funext y S2; congr; funext z S3; cases z <;> rfl
@[simp] theorem tVal_sat {a : Ev} : (tVal a ρ S).sat QB E = (a ρ S).sat (fun z S3 => match z with | .bl k => QB k S3 | _ => False) E := by
  unfold tVal; simp only [sat_bind]; congr; funext z S3; cases z <;> rfl
@[simp] theorem eChain_sat {g g' : D → D → Sto → R D} {a b c : Ev} : (eChain g g' a b c ρ S).sat QD E = (a ρ S).sat (fun x S1 => (b ρ S1).sat (fun y S2 => (g x y S2).sat (fun z S3 => match z with | .bl k => if k = true then (c ρ S3).sat (fun w S4 => (g' y w S4).sat QD E) E else QD (.bl false) S3 | _ => False) E) E) E := by
  unfold eChain; simp only [sat_bind]; congr; funext x S1; congr; funext y S2; congr; funext z S3
  cases z <;> first | rfl | skip
  rename_i k
  cases k <;> simp

/-! ### statements -/
@[simp] theorem sNil_sat : (sNil ρ S).sat P = P.nx ρ S := (rfl)
@[simp] theorem sSeq_sat {a b : Ex} : (sSeq a b ρ S).sat P = (a ρ S).sat { P with nx := fun ρ S => (b ρ S).sat P } := by
  unfold sSeq; cases a ρ S <;> rfl
@[simp] theorem sSet_sat {i : Nat} {e : Ev} : (sSet i e ρ S).sat P = (e ρ S).sat (fun d S1 => P.nx (ρ.set i (some d)) S1) (fun c S => P.ex c ρ S) := by
  unfold sSet; simp only [sat_then, osat_nx]
@[simp] theorem sPar_sat {i j : Nat} {a : Ea} : (sPar i j a ρ S).sat P = (a ρ S).sat (fun ds S1 => match ds with | [x, y] => P.nx ((ρ.set i (some x)).set j (some y)) S1 | _ => False) (fun c S => P.ex c ρ S) := by
  unfold sPar; simp only [sat_then]; congr; funext c S1; rcases c with _ | ⟨x, _ | ⟨y, _ | ⟨z, r⟩⟩⟩ <;> rfl
@[simp] theorem sSub_sat {g : D → D → D → Sto → Option Sto} {o i e : Ev} : (sSub g o i e ρ S).sat P = (e ρ S).sat (fun v S1 => (o ρ S1).sat (fun x S2 => (i ρ S2).sat (fun y S3 => match g x y v S3 with | some S4 => P.nx ρ S4 | none => False) (fun c S => P.ex c ρ S)) (fun c S => P.ex c ρ S)) (fun c S => P.ex c ρ S) := by
  unfold sSub; simp only [sat_then]; congr; funext v S1; congr; funext x S2; congr; funext y S3; cases g x y v S3 <;> rfl
@[simp] theorem sAsg_sat {tg : Tg} {e : Ev} : (sAsg tg e ρ S).sat P = (e ρ S).sat (fun d S1 => match tg.asg d S1 ρ with | some ρ1 => P.nx ρ1 S1 | none => False) (fun c S => P.ex c ρ S) := by
  unfold sAsg; simp only [sat_then]; congr; funext c S1; cases tg.asg c S1 ρ <;> rfl
@[simp] theorem sExpr_sat {e : Ev} : (sExpr e ρ S).sat P = (e ρ S).sat (fun _ S1 => P.nx ρ S1) (fun c S => P.ex c ρ S) := by
  unfold sExpr; simp only [sat_then, osat_nx]
@[simp] theorem sRet_sat {e : Ev} : (sRet e ρ S).sat P = (e ρ S).sat (fun d S1 => P.rt d S1) (fun c S => P.ex c ρ S) := by
  unfold sRet; simp only [sat_then, osat_rt]
@[simp] theorem sRaise_sat {c : Nat} : (sRaise c ρ S).sat P = P.ex c ρ S := (rfl)
@[simp] theorem sBreak_sat : (sBreak ρ S).sat P = P.bk ρ S := (rfl)
@[simp] theorem sCont_sat : (sCont ρ S).sat P = P.ct ρ S := (rfl)
@[simp] theorem sIf_sat {t : Et} {a b : Ex} : (sIf t a b ρ S).sat P = (t ρ S).sat (fun c S1 => if c = true then (a ρ S1).sat P else (b ρ S1).sat P) (fun c S => P.ex c ρ S) := by
  unfold sIf; simp only [sat_then]; congr; funext c S1; split <;> rfl
theorem run_sat {n : Nat} {b : Ex} {ds : List D} (h : (b (ds.map some ++ List.replicate (n - ds.length) none) S).sat { nx := fun _ S1 => QD .non S1, rt := QD, bk := fun _ _ => False, ct := fun _ _ => False, ex := fun c _ S1 => E c S1 }) : (run n b ds S).sat QD E := by
  unfold run
  cases e : b (ds.map some ++ List.replicate (n - ds.length) none) S <;> rw [e] at h <;> exact h

/-! ### loops -/
theorem fLoop_sat {tg : Tg} {b : Ex} {w : Wk} (Pv : Nat → Env → Sto → Prop) (hst : ∀ i ρ S, Pv i ρ S → w.still S)
    (hs : ∀ i d ρ S, w.ds[i]? = some d → Pv i ρ S → ∃ ρ1, tg.asg d S ρ = some ρ1 ∧ (b ρ1 S).sat { P with nx := Pv (i + 1), ct := Pv (i + 1), bk := P.nx }) (he : ∀ ρ S, Pv w.ds.length ρ S → P.nx ρ S) :
    ∀ (l : List D) (i : Nat) (ρ : Env) (S : Sto), w.ds.drop i = l → i ≤ w.ds.length → Pv i ρ S → (fLoop tg b w l ρ S).sat P
  | [], i, ρ, S, hd, hi, h => by
    have e : i = w.ds.length := by
      rcases Nat.lt_or_ge i w.ds.length with z | z
      · rw [List.drop_eq_getElem_cons z] at hd; cases hd
      · exact Nat.le_antisymm hi z
    subst e
    unfold fLoop
    rw [if_pos (hst _ _ _ h)]
    exact he _ _ h
  | d :: l, i, ρ, S, hd, hi, h => by
    have z : i < w.ds.length := by
      rcases Nat.lt_or_ge i w.ds.length with z | z
      · exact z
      · rw [List.drop_eq_nil_of_le z] at hd; cases hd
    rw [List.drop_eq_getElem_cons z] at hd
    obtain ⟨e1, e2⟩ := List.cons.inj hd
    obtain ⟨ρ1, h1, h2⟩ := hs i d ρ S (by rw [← e1]; exact List.getElem?_eq_getElem z) h
    unfold fLoop
    rw [if_pos (hst _ _ _ h), h1]
    dsimp only
    have ih := fun ρ' S' (q : Pv (i + 1) ρ' S') => fLoop_sat Pv hst hs he l (i + 1) ρ' S' e2 z q
    cases eb : b ρ1 S <;> rw [eb] at h2 <;> first | exact ih _ _ h2 | exact h2
theorem sFor_sat {it : Ei} {tg : Tg} {b : Ex} (h : (it ρ S).sat (fun w S1 => ∃ Pv : Nat → Env → Sto → Prop, Pv 0 ρ S1 ∧ (∀ i ρ S, Pv i ρ S → w.still S) ∧
    (∀ i d ρ S, w.ds[i]? = some d → Pv i ρ S → ∃ ρ1, tg.asg d S ρ = some ρ1 ∧ (b ρ1 S).sat { P with nx := Pv (i + 1), ct := Pv (i + 1), bk := P.nx }) ∧ (∀ ρ S, Pv w.ds.length ρ S → P.nx ρ S)) (fun c S => P.ex c ρ S)) : (sFor it tg b ρ S).sat P := by
  unfold sFor
  rw [sat_then]
  refine h.mono (fun w S1 ⟨Pv, h0, hst, hs, he⟩ => ?_) fun _ _ z => z
  exact fLoop_sat Pv hst hs he w.ds 0 ρ S1 rfl (Nat.zero_le _) h0
theorem wLoop_sat {t : Et} {b : Ex} (Pv : Nat → Env → Sto → Prop) (hs : ∀ k ρ S, Pv k ρ S → (t ρ S).sat (fun c S1 => if c = true then ∃ j, j < k ∧ (b ρ S1).sat { P with nx := Pv j, ct := Pv j, bk := P.nx } else P.nx ρ S1) (fun c S => P.ex c ρ S)) :
    ∀ (n k : Nat) (ρ : Env) (S : Sto), k < n → Pv k ρ S → (wLoop t b n ρ S).sat P
  | 0, k, ρ, S, h, _ => absurd h (Nat.not_lt_zero _)
  | n + 1, k, ρ, S, hk, h => by
    have h1 := hs k ρ S h
    unfold wLoop
    cases et : t ρ S with
    | bad => rw [et] at h1; exact h1
    | ex c S1 => rw [et] at h1; exact h1
    | ok c S1 =>
      rw [et] at h1
      cases c with
      | false => exact h1
      | true =>
        obtain ⟨j, hj, h2⟩ : ∃ j, j < k ∧ (b ρ S1).sat { P with nx := Pv j, ct := Pv j, bk := P.nx } := h1
        dsimp only
        have ih := fun ρ' S' (q : Pv j ρ' S') => wLoop_sat Pv hs n j ρ' S' (by omega) q
        cases eb : b ρ S1 <;> rw [eb] at h2 <;> first | exact ih _ _ h2 | exact h2
theorem sWhile_sat {t : Et} {b : Ex} {n : Nat} (k : Nat) (hk : k < n) (Pv : Nat → Env → Sto → Prop) (h0 : Pv k ρ S)
    (hs : ∀ k ρ S, Pv k ρ S → (t ρ S).sat (fun c S1 => if c = true then ∃ j, j < k ∧ (b ρ S1).sat { P with nx := Pv j, ct := Pv j, bk := P.nx } else P.nx ρ S1) (fun c S => P.ex c ρ S)) : (sWhile n t b ρ S).sat P :=
  wLoop_sat Pv hs n k ρ S hk h0
theorem sFor_of {it : Ei} {tg : Tg} {b : Ex} {w : Wk} {S0 : Sto} (hit : (it ρ S).sat (fun w' S1 => w' = w ∧ S1 = S0) (fun _ _ => False)) (Pv : Nat → Env → Sto → Prop) (h0 : Pv 0 ρ S0) (hst : ∀ i ρ S, Pv i ρ S → w.still S)
    (hs : ∀ i d ρ S, w.ds[i]? = some d → Pv i ρ S → ∃ ρ1, tg.asg d S ρ = some ρ1 ∧ (b ρ1 S).sat { P with nx := Pv (i + 1), ct := Pv (i + 1), bk := P.nx }) (he : ∀ ρ S, Pv w.ds.length ρ S → P.nx ρ S) : (sFor it tg b ρ S).sat P :=
  sFor_sat (hit.mono (fun w' S1 ⟨e1, e2⟩ => by subst e1; subst e2; exact ⟨Pv, h0, hst, hs, he⟩) fun _ _ z => z.elim)
/-- a comprehension: each item gives f of it, while I stands -/
theorem cLoop_sat {tg : Tg} {t : Et} {e : Ev} {w : Wk} {ρ0 : Env} (I : Sto → Prop) (f : D → Option D) (hst : ∀ S, I S → w.still S)
    (hs : ∀ d ∈ w.ds, ∀ S, I S → ∃ ρ1, tg.asg d S ρ0 = some ρ1 ∧ (t ρ1 S).sat (fun c S1 => if c = true then (e ρ1 S1).sat (fun x S2 => I S2 ∧ f d = some x) (fun _ _ => False) else I S1 ∧ f d = none) (fun _ _ => False)) :
    ∀ (l acc : List D) (S : Sto), (∀ d ∈ l, d ∈ w.ds) → acc.length + l.length ≤ line → I S → (cLoop tg t e w ρ0 l acc S).sat (fun ys S' => I S' ∧ ys = acc ++ l.filterMap f) (fun _ _ => False)
  | [], acc, S, _, _, h => by
    unfold cLoop
    rw [if_pos (hst S h)]
    exact ⟨h, by simp⟩
  | d :: l, acc, S, hm, hl, h => by
    have hm' : ∀ x ∈ l, x ∈ w.ds := fun x hx => hm x (List.mem_cons_of_mem _ hx)
    obtain ⟨ρ1, h1, h2⟩ := hs d (hm d List.mem_cons_self) S h
    simp only [List.length_cons] at hl
    unfold cLoop
    rw [if_pos (hst S h), h1]
    dsimp only
    cases et : t ρ1 S with
    | bad => rw [et] at h2; exact h2.elim
    | ex c S1 => rw [et] at h2; exact h2.elim
    | ok c S1 =>
      rw [et] at h2
      cases c with
      | false =>
        obtain ⟨h3, h4⟩ : I S1 ∧ f d = none := h2
        have := cLoop_sat I f hst hs l acc S1 hm' (by omega) h3
        simpa [h4] using this
      | true =>
        have h2 : (e ρ1 S1).sat (fun x S2 => I S2 ∧ f d = some x) (fun _ _ => False) := h2
        dsimp only
        cases ee : e ρ1 S1 with
        | bad => rw [ee] at h2; exact h2.elim
        | ex c S1 => rw [ee] at h2; exact h2.elim
        | ok x S2 =>
          rw [ee] at h2
          obtain ⟨h3, h4⟩ := h2
          dsimp only
          rw [if_pos (by omega)]
          have := cLoop_sat I f hst hs l (acc ++ [x]) S2 hm' (by simp; omega) h3
          simpa [h4] using this
theorem eComp_sat {it : Ei} {tg : Tg} {t : Et} {e : Ev} {own : List Nat} (h : (it ρ S).sat (fun w S1 => ∃ (I : Sto → Prop) (f : D → Option D), I S1 ∧ (∀ S, I S → w.still S) ∧ w.ds.length ≤ line ∧
    (∀ d ∈ w.ds, ∀ S, I S → ∃ ρ1, tg.asg d S (wipe ρ own) = some ρ1 ∧ (t ρ1 S).sat (fun c S1 => if c = true then (e ρ1 S1).sat (fun x S2 => I S2 ∧ f d = some x) (fun _ _ => False) else I S1 ∧ f d = none) (fun _ _ => False)) ∧
    ∀ S', I S' → QD (.lst (w.ds.filterMap f)) S') E) : (eComp it tg t e own ρ S).sat QD E := by
  unfold eComp
  simp only [sat_bind, sat_ok]
  refine h.mono (fun w S1 ⟨I, f, h0, hst, hl, hs, hq⟩ => ?_) fun _ _ z => z
  refine (cLoop_sat I f hst hs w.ds [] S1 (fun d h => h) (by simpa using hl) h0).mono (fun ys S' ⟨h1, h2⟩ => ?_) fun _ _ z => z.elim
  rw [h2]
  exact hq S' h1

theorem eComp_of {it : Ei} {tg : Tg} {t : Et} {e : Ev} {own : List Nat} {w : Wk} {S0 : Sto} (hit : (it ρ S).sat (fun w' S1 => w' = w ∧ S1 = S0) (fun _ _ => False)) (I : Sto → Prop) (f : D → Option D) (h0 : I S0) (hst : ∀ S, I S → w.still S) (hl : w.ds.length ≤ line)
    (hs : ∀ d ∈ w.ds, ∀ S, I S → ∃ ρ1, tg.asg d S (wipe ρ own) = some ρ1 ∧ (t ρ1 S).sat (fun c S1 => if c = true then (e ρ1 S1).sat (fun x S2 => I S2 ∧ f d = some x) (fun _ _ => False) else I S1 ∧ f d = none) (fun _ _ => False))
    (hq : ∀ S', I S' → QD (.lst (w.ds.filterMap f)) S') : (eComp it tg t e own ρ S).sat QD E :=
  eComp_sat (hit.mono (fun w' S1 ⟨e1, e2⟩ => by subst e1; subst e2; exact ⟨I, f, h0, hst, hl, hs, hq⟩) fun _ _ z => z.elim)

/-! ### walks -/
@[simp] theorem iSeq_sat {a : Ev} : (iSeq a ρ S).sat QW E = (a ρ S).sat (fun x S1 => match items x S1 with | some ds => QW ⟨ds, held x ds⟩ S1 | none => False) E := by
  unfold iSeq; simp only [sat_bind]; congr; funext c S1; cases items c S1 <;> rfl
theorem ite_sat {α : Type} {c : Prop} [Decidable c] {r : R α} {Q : α → Sto → Prop} : (if c then r else .bad).sat Q E = (c ∧ r.sat Q E) := by
  by_cases h : c
  · rw [if_pos h]; simp [h]
  · rw [if_neg h]; simp [h]
@[simp] theorem iRng1_sat {a : Ea} : (iRng1 a ρ S).sat QW E = (a ρ S).sat (fun ds S1 => match ds with | [.int j] => (-(2 ^ 62) ≤ j ∧ j < 2 ^ 62) ∧ QW ⟨upto 0 j.toNat, []⟩ S1 | _ => False) E := by
  unfold iRng1; simp only [sat_bind]; congr; funext c S1
  rcases c with _ | ⟨x, _ | ⟨y, r⟩⟩
  · rfl
  · cases x <;> first | rfl | exact ite_sat
  · cases x <;> rfl
@[simp] theorem iRng2_sat {a : Ea} : (iRng2 a ρ S).sat QW E = (a ρ S).sat (fun ds S1 => match ds with | [.int i, .int j] => ((-(2 ^ 62) ≤ i ∧ i < 2 ^ 62) ∧ -(2 ^ 62) ≤ j ∧ j < 2 ^ 62) ∧ QW ⟨upto i (j - i).toNat, []⟩ S1 | _ => False) E := by
  unfold iRng2; simp only [sat_bind]; congr; funext c S1
  rcases c with _ | ⟨x, _ | ⟨y, _ | ⟨z, r⟩⟩⟩
  · rfl
  · cases x <;> rfl
  · cases x <;> cases y <;> first | rfl | exact ite_sat
  · cases x <;> cases y <;> rfl
@[simp] theorem iZip_sat {n : Nat} {a : Ea} : (iZip n a ρ S).sat QW E = (a ρ S).sat (fun xs S1 => match srcs xs S1 with | some dss => xs.length = n ∧ QW ⟨zipN dss, heldAll xs dss⟩ S1 | none => False) E := by
  unfold iZip; simp only [sat_bind]; congr; funext c S1
  cases srcs c S1 with
  | none => rfl
  | some dss => exact ite_sat
@[simp] theorem iEnum_sat {a : Ea} : (iEnum a ρ S).sat QW E = (a ρ S).sat (fun xs S1 => match xs with | [x] => (match witems x S1 with | some ds => QW ⟨enumD 0 ds, held x ds⟩ S1 | none => False) | _ => False) E := by
  unfold iEnum; simp only [sat_bind]; congr; funext c S1
  rcases c with _ | ⟨x, _ | ⟨y, r⟩⟩
  · rfl
  · dsimp only; cases witems x S1 <;> rfl
  · rfl
@[simp] theorem iStr_sat {a : Ev} : (iStr a ρ S).sat QW E = (a ρ S).sat (fun x S1 => match x with | .str z => QW ⟨z.cps.toList.map fun c => .str ⟨#[c]⟩, []⟩ S1 | _ => False) E := by
  unfold iStr; simp only [sat_bind]; congr; funext c S1; cases c <;> rfl
@[simp] theorem still_nil {ds : List D} : (⟨ds, []⟩ : Wk).still S = True := by simp [Wk.still]
@[simp] theorem asg_nm {i : Nat} {d : D} : (Tg.nm i).asg d S ρ = some (ρ.set i (some d)) := by simp [Tg.asg]
@[simp] theorem asg_tp {ts : List Tg} {d : D} : (Tg.tp ts).asg d S ρ = (match items d S with | some ds => if ds.length = ts.length then Tg.asgs ts ds S ρ else none | none => none) := by rw [Tg.asg] <;> rfl
@[simp] theorem asgs_cons {t : Tg} {ts : List Tg} {d : D} {ds : List D} : Tg.asgs (t :: ts) (d :: ds) S ρ = (match t.asg d S ρ with | some ρ1 => Tg.asgs ts ds S ρ1 | none => none) := by rw [Tg.asgs] <;> rfl
@[simp] theorem asgs_nil : Tg.asgs [] [] S ρ = some ρ := by simp [Tg.asgs]
@[simp] theorem wipe_nil : wipe ρ [] = ρ := (rfl)
@[simp] theorem wipe_cons {j : Nat} {vs : List Nat} : wipe ρ (j :: vs) = wipe (ρ.set j none) vs := (rfl)
@[simp] theorem items_tup {ds : List D} : items (.tup ds) S = some ds := (rfl)
@[simp] theorem items_lst {ds : List D} : items (.lst ds) S = some ds := (rfl)
@[simp] theorem items_kls {ds : List D} : items (.kls ds) S = some ds := (rfl)
@[simp] theorem held_tup {xs ds : List D} : held (.tup xs) ds = [] := (rfl)
@[simp] theorem held_lst {xs ds : List D} : held (.lst xs) ds = [] := (rfl)
@[simp] theorem held_kls {xs ds : List D} : held (.kls xs) ds = [] := (rfl)
@[simp] theorem witems_tup {ds : List D} : witems (.tup ds) S = some ds := (rfl)
@[simp] theorem witems_lst {ds : List D} : witems (.lst ds) S = some ds := (rfl)
@[simp] theorem truth_bl {b : Bool} : truth (.bl b) S = some b := (rfl)
@[simp] theorem truth_tup {ds : List D} : truth (.tup ds) S = some (!ds.isEmpty) := (rfl)
@[simp] theorem truth_lst {ds : List D} : truth (.lst ds) S = some (!ds.isEmpty) := (rfl)
@[simp] theorem truth_kls {ds : List D} : truth (.kls ds) S = some (!ds.isEmpty) := (rfl)
@[simp] theorem truth_int {i : Int} : truth (.int i) S = some (i != 0) := (rfl)
@[simp] theorem truth_non : truth .non S = some false := (rfl)
@[simp] theorem gAdd_int {i j : Int} : (gAdd (.int i) (.int j) S).sat QD E = QD (.int (i + j)) S := (rfl)
@[simp] theorem gSub_int {i j : Int} : (gSub (.int i) (.int j) S).sat QD E = QD (.int (i - j)) S := (rfl)
@[simp] theorem gLt_int {i j : Int} : (gLt (.int i) (.int j) S).sat QD E = QD (.bl (decide (i < j))) S := (rfl)
@[simp] theorem gLe_int {i j : Int} : (gLe (.int i) (.int j) S).sat QD E = QD (.bl (decide (i ≤ j))) S := (rfl)
@[simp] theorem gGt_int {i j : Int} : (gGt (.int i) (.int j) S).sat QD E = QD (.bl (decide (j < i))) S := (rfl)
@[simp] theorem gGe_int {i j : Int} : (gGe (.int i) (.int j) S).sat QD E = QD (.bl (decide (j ≤ i))) S := (rfl)
@[simp] theorem gMul_int {i j : Int} : (gMul (.int i) (.int j) S).sat QD E = (((-(2 ^ 64) < i ∧ i < 2 ^ 64) ∨ (-(2 ^ 64) < j ∧ j < 2 ^ 64)) ∧ QD (.int (i * j)) S) := by
  simp only [gMul]; exact ite_sat
@[simp] theorem gDiv_int {i j : Int} : (gDiv (.int i) (.int j) S).sat QD E = ((0 < j ∧ j < 1073741824) ∧ QD (.int (i / j)) S) := by
  simp only [gDiv]; exact ite_sat
@[simp] theorem gMod_int {i j : Int} : (gMod (.int i) (.int j) S).sat QD E = (0 < j ∧ QD (.int (i % j)) S) := by
  simp only [gMod]; exact ite_sat
@[simp] theorem gAdd_tup {xs ys : List D} : (gAdd (.tup xs) (.tup ys) S).sat QD E = (xs.length + ys.length ≤ line ∧ QD (.tup (xs ++ ys)) S) := by
  simp only [gAdd]; exact ite_sat
@[simp] theorem gAdd_lst {xs ys : List D} : (gAdd (.lst xs) (.lst ys) S).sat QD E = (xs.length + ys.length ≤ line ∧ QD (.lst (xs ++ ys)) S) := by
  simp only [gAdd, litems]; exact ite_sat
@[simp] theorem gIsN_non {a : D} : (gIsN a .non S).sat QD E = QD (.bl a.isN) S := (rfl)
@[simp] theorem gNotN_non {a : D} : (gNotN a .non S).sat QD E = QD (.bl (!a.isN)) S := (rfl)
@[simp] theorem bLen_tup {xs : List D} : (bLen [.tup xs] S).sat QD E = QD (.int xs.length) S := (rfl)
@[simp] theorem bLen_lst {xs : List D} : (bLen [.lst xs] S).sat QD E = QD (.int xs.length) S := (rfl)
@[simp] theorem bLen_kls {xs : List D} : (bLen [.kls xs] S).sat QD E = QD (.int xs.length) S := (rfl)
@[simp] theorem bTuple_lst {xs : List D} : (bTuple [.lst xs] S).sat QD E = QD (.tup xs) S := (rfl)
@[simp] theorem bTuple_tup {xs : List D} : (bTuple [.tup xs] S).sat QD E = QD (.tup xs) S := (rfl)
@[simp] theorem items_ref' {i : Nat} : items (.ref i) S = (match S[i]? with | some (.lst ds) => some ds | _ => none) := (rfl)
@[simp] theorem litems_ref' {i : Nat} : litems (.ref i) S = (match S[i]? with | some (.lst ds) => some ds | _ => none) := (rfl)
@[simp] theorem litems_lst {ds : List D} : litems (.lst ds) S = some ds := (rfl)
@[simp] theorem pairs_ref' {i : Nat} : pairs (.ref i) S = (match S[i]? with | some (.dct _ kvs) => some kvs | _ => none) := (rfl)
@[simp] theorem truth_ref {i : Nat} : truth (.ref i) S = (match S[i]? with | some (.lst ds) => some (!ds.isEmpty) | some (.dct false kvs) => some (!kvs.isEmpty) | _ => none) := (rfl)
@[simp] theorem bLen_ref {i : Nat} : (bLen [.ref i] S).sat QD E = (match S[i]? with | some (.lst ds) => QD (.int ds.length) S | some (.dct _ kvs) => QD (.int kvs.length) S | _ => False) := by
  simp only [bLen, items_ref', pairs_ref']
  cases S[i]? with
  | none => rfl
  | some o => cases o <;> rfl
@[simp] theorem gIx_tup {ds : List D} {i : Int} : (gIx (.tup ds) (.int i) S).sat QD E = (match (place ds.length i).bind (fun j => ds[j]?) with | some d => QD d S | none => False) := by
  simp only [gIx, items_tup]; cases (place ds.length i).bind (fun j => ds[j]?) <;> rfl
@[simp] theorem gIx_lst {ds : List D} {i : Int} : (gIx (.lst ds) (.int i) S).sat QD E = (match (place ds.length i).bind (fun j => ds[j]?) with | some d => QD d S | none => False) := by
  simp only [gIx, items_lst]; cases (place ds.length i).bind (fun j => ds[j]?) <;> rfl
@[simp] theorem gIx_kls {ds : List D} {i : Int} : (gIx (.kls ds) (.int i) S).sat QD E = (match (place ds.length i).bind (fun j => ds[j]?) with | some d => QD d S | none => False) := by
  simp only [gIx, items_kls]; cases (place ds.length i).bind (fun j => ds[j]?) <;> rfl
theorem place_nn {n : Nat} {i : Int} (h0 : 0 ≤ i) (h1 : i < n) : place n i = some i.toNat := by unfold place; rw [if_pos h0, if_pos h1]
theorem ix_at {ds : List D} {i : Int} (h0 : 0 ≤ i) (h1 : i < ds.length) {T : D → Prop} (h : ∀ (j : Nat) (hj : j < ds.length), (j : Int) = i → T ds[j]) : (match (place ds.length i).bind (fun j => ds[j]?) with | some d => T d | none => False) := by
  rw [place_nn h0 h1]
  have hj : i.toNat < ds.length := by omega
  show (match ds[i.toNat]? with | some d => T d | none => False)
  rw [List.getElem?_eq_getElem hj]
  exact h _ hj (by omega)
@[simp] theorem mAppend_ref {i : Nat} {d : D} : (mAppend (.ref i) [d] S).sat QD E = (match S[i]? with | some (.lst ds) => ds.length < line ∧ QD .non (S.set i (.lst (ds ++ [d]))) | _ => False) := by
  simp only [mAppend]
  cases S[i]? with
  | none => rfl
  | some o => cases o <;> first | rfl | exact ite_sat
@[simp] theorem line0 : 0 ≤ line := Nat.zero_le _
@[simp] theorem line1 : 1 ≤ line := by decide
@[simp] theorem line2 : 2 ≤ line := by decide
@[simp] theorem line3 : 3 ≤ line := by decide
@[simp] theorem line4 : 4 ≤ line := by decide
@[simp] theorem line5 : 5 ≤ line := by decide
@[simp] theorem line6 : 6 ≤ line := by decide
@[simp] theorem line7 : 7 ≤ line := by decide
@[simp] theorem line8 : 8 ≤ line := by decide
@[simp] theorem now_nonref {d : D} (h : ∀ i, d ≠ .ref i) : d.now S = d := by
  cases d <;> first | rfl | exact absurd rfl (h _)
end
end Mp

namespace Mp
open PySem
section
variable {QD : D → Sto → Prop} {E : Nat → Sto → Prop} {S : Sto} {ρ : Env} {P : Po}
@[simp] theorem sTry_sat {b : Ex} {hs : List (List Nat × List Nat × Ex)} : (sTry b hs ρ S).sat P = (b ρ S).sat { P with ex := fun c ρ1 S1 => (tryH hs c ρ1 S1).sat P } := by
  unfold sTry; cases b ρ S <;> rfl
@[simp] theorem tryH_nil {c : Nat} : (tryH [] c ρ S).sat P = P.ex c ρ S := (rfl)
@[simp] theorem tryH_cons {c : Nat} {yes no : List Nat} {s : Ex} {r : List (List Nat × List Nat × Ex)} : (tryH ((yes, no, s) :: r) c ρ S).sat P = if c ∈ yes then (s ρ S).sat { P with ex := fun _ _ _ => False } else if c ∈ no then (tryH r c ρ S).sat P else False := by
  have e : tryH ((yes, no, s) :: r) c ρ S = if c ∈ yes then (match s ρ S with | .ex _ _ _ => .bad | o => o) else if c ∈ no then tryH r c ρ S else .bad := by rw [tryH] <;> rfl
  rw [e]
  by_cases h : c ∈ yes
  · rw [if_pos h, if_pos h]; cases s ρ S <;> rfl
  · rw [if_neg h, if_neg h]
    by_cases h2 : c ∈ no
    · rw [if_pos h2, if_pos h2]
    · rw [if_neg h2, if_neg h2]; rfl
theorem gAdd_refs {i j : Nat} {xs ys : List D} (h1 : S[i]? = some (.lst xs)) (h2 : S[j]? = some (.lst ys)) : (gAdd (.ref i) (.ref j) S).sat QD E = (xs.length + ys.length ≤ line ∧ QD (.lst (xs ++ ys)) S) := by
  simp only [gAdd, litems_ref', h1, h2]; exact ite_sat
end
end Mp

/-! MpB2: more words, and how they are read backwards. -/
namespace Mp
open PySem
/-- x[::-1] -/
def gBack (x : D) (S : Sto) : R D := match x with
  | .tup ds => .ok (.tup ds.reverse) S
  | x => match litems x S with
    | some ds => .ok (.lst ds.reverse) S
    | none => .bad
/-- list(range(n)), list(range(i, j)) -/
def eRgL1 (a : Ev) : Ev := fun ρ S => (a ρ S).bind fun x S1 => match x with
  | .int n => if -(2 ^ 62) ≤ n ∧ n ≤ 16777216 then .ok (.lst (upto 0 n.toNat)) S1 else .bad
  | _ => .bad
def eRgL2 (a b : Ev) : Ev := fun ρ S => (a ρ S).bind fun x S1 => (b ρ S1).bind fun y S2 => match x, y with
  | .int i, .int j => if -(2 ^ 62) ≤ i ∧ i < 2 ^ 62 ∧ -(2 ^ 62) ≤ j ∧ j < 2 ^ 62 ∧ (j - i).toNat ≤ 16777216 then .ok (.lst (upto i (j - i).toNat)) S2 else .bad
  | _, _ => .bad
/-- a, b, c = x, y, z at plain names -/
def sPar3 (i j l : Nat) (a : Ea) : Ex := fun ρ S => (a ρ S).then ρ fun ds S1 => match ds with
  | [x, y, z] => .nx (((ρ.set i (some x)).set j (some y)).set l (some z)) S1
  | _ => .bad
section
variable {QD : D → Sto → Prop} {E : Nat → Sto → Prop} {S : Sto} {ρ : Env} {P : Po}
@[simp] theorem gBack_tup {ds : List D} : (gBack (.tup ds) S).sat QD E = QD (.tup ds.reverse) S := (rfl)
@[simp] theorem gBack_lst {ds : List D} : (gBack (.lst ds) S).sat QD E = QD (.lst ds.reverse) S := (rfl)
@[simp] theorem eRgL1_sat {a : Ev} : (eRgL1 a ρ S).sat QD E = (a ρ S).sat (fun x S1 => match x with | .int n => (-(2 ^ 62) ≤ n ∧ n ≤ 16777216) ∧ QD (.lst (upto 0 n.toNat)) S1 | _ => False) E := by
  unfold eRgL1; simp only [sat_bind]; congr; funext x S1; cases x <;> first | rfl | exact ite_sat
@[simp] theorem eRgL2_sat {a b : Ev} : (eRgL2 a b ρ S).sat QD E = (a ρ S).sat (fun x S1 => (b ρ S1).sat (fun y S2 => match x, y with | .int i, .int j => (-(2 ^ 62) ≤ i ∧ i < 2 ^ 62 ∧ -(2 ^ 62) ≤ j ∧ j < 2 ^ 62 ∧ (j - i).toNat ≤ 16777216) ∧ QD (.lst (upto i (j - i).toNat)) S2 | _, _ => False) E) E := by
  unfold eRgL2; simp only [sat_bind]; congr; funext x S1; congr; funext y S2; cases x <;> cases y <;> first | rfl | exact ite_sat
@[simp] theorem sPar3_sat {i j l : Nat} {a : Ea} : (sPar3 i j l a ρ S).sat P = (a ρ S).sat (fun ds S1 => match ds with | [x, y, z] => P.nx (((ρ.set i (some x)).set j (some y)).set l (some z)) S1 | _ => False) (fun c S => P.ex c ρ S) := by
  unfold sPar3; simp only [sat_then]; congr; funext c S1; rcases c with _ | ⟨x, _ | ⟨y, _ | ⟨z, _ | ⟨v, r⟩⟩⟩⟩ <;> rfl
end
end Mp

/-! MpO8: tuples backwards, list(range(..)), three stores at once. -/
namespace Mp
open PySem PySem.Spec PyProof.Rows L2
section
variable {prog : Program} {w : World} {A : Around} {E : Value → Shared → Prop} {s : Shared}
theorem backApplied {sl : Addr} {vl vu vs : Value} {n : Nat} {Q : Int × Int × Nat → Shared → Prop} (hs : s.heap.IsSliceOf sl vl vu vs) (pl : IsPart vl none) (pu : IsPart vu none) (ps : IsPart vs (some (-1)))
    (h : Q ((n : Int) - 1, -1, n) s) : wpAny (model prog w) A (Builtin.Slice.sliceApplied (.ref sl) (pure (n : Int))) Q E s := by
  obtain ⟨o9, h9, c9, d9⟩ := id hs
  unfold Builtin.Slice.sliceApplied Builtin.Slice.sliceFields
  refine wpAny_bind (wpAny_bind (wpAny_field h9 d9 (x := vl) rfl (wpAny_bind (wpAny_field h9 d9 (x := vu) rfl (wpAny_bind (wpAny_field h9 d9 (x := vs) rfl (wpAny_pure ?_)))))))
  refine wpAny_bind (HT.slicePart_ ps ?_)
  show wpAny _ _ (if ((-1 : Int) == 0) = true then _ else _) _ _ s
  rw [if_neg (by decide)]
  refine wpAny_bind (HT.slicePart_ pl (wpAny_bind (HT.slicePart_ pu (wpAny_bind (wpAny_pure ?_)))))
  have e1 : Builtin.Slice.sliceAdjust none none (-1) (n : Int) = ((n : Int) - 1, -1) := by
    unfold Builtin.Slice.sliceAdjust
    rfl
  have e2 : Builtin.Slice.slicePlaces ((n : Int) - 1) (-1) (-1) = n := by
    unfold Builtin.Slice.slicePlaces
    rw [if_neg (by decide)]
    by_cases hn : n = 0
    · subst hn
      rfl
    · rw [if_pos (by omega)]
      have e3 : ((n : Int) - 1 - -1 - 1) / (- -1) = (n : Int) - 1 := by
        rw [show (- -1 : Int) = 1 from rfl, Int.ediv_one]
        omega
      rw [e3]
      omega
  show wpAny _ _ (match Builtin.Slice.sliceAdjust none none (-1) (n : Int) with | (lo, hi) => pure (lo, (-1 : Int), Builtin.Slice.slicePlaces lo hi (-1))) _ _ s
  rw [e1]
  show wpAny _ _ (pure ((n : Int) - 1, (-1 : Int), Builtin.Slice.slicePlaces ((n : Int) - 1) (-1) (-1))) _ _ s
  rw [e2]
  exact wpAny_pure h
theorem back_pick (xs : Array Value) : ((List.range xs.size).filterMap fun (m : Nat) => xs[(((xs.size : Nat) : Int) - 1 + (m : Int) * (-1)).toNat]?).toArray = xs.toList.reverse.toArray := by
  have e : ((List.range xs.size).filterMap fun (m : Nat) => xs[(((xs.size : Nat) : Int) - 1 + (m : Int) * (-1)).toNat]?) = ((List.range xs.size).map fun k => xs.size - 1 - k).filterMap (xs[·]?) := by
    rw [List.filterMap_map]
    congr 1
    funext m
    have : (((xs.size : Nat) : Int) - 1 + (m : Int) * (-1)).toNat = xs.size - 1 - m := by omega
    simp only [Function.comp, this]
  rw [e, PySem.W.krv_range, List.filterMap_reverse, PySem.W.krv_all]
theorem getItem_tuple_back {t sl : Addr} {its : Array Value} {vl vu vs : Value} {Q : Value → Shared → Prop} (ht : IsTup s.heap t its) (hs : s.heap.IsSliceOf sl vl vu vs) (pl : IsPart vl none) (pu : IsPart vu none) (ps : IsPart vs (some (-1)))
    (h : Q (.ref s.heap.objs.size) { s with heap := s.heap.push { cls := .type "tuple", data := .seq its.toList.reverse.toArray } }) (hz : its.size ≤ sizeLine) : wpAny (model prog w) A (getItem (.ref t) (.ref sl)) Q E s := by
  have hok : sizeOk (.seq its.toList.reverse.toArray) := by
    show its.toList.reverse.toArray.size ≤ sizeLine
    rw [List.size_toArray, List.length_reverse, Array.length_toList]
    exact hz
  obtain ⟨o9, h9, c9, d9⟩ := id hs
  have hTs : s.TypeIs (.ref sl) "slice" := ⟨o9, h9, c9⟩
  unfold getItem
  try with_reducible refine wpAny_holding ?_
  first | refine wpAny_bind (wpAny_pure ?_) | skip
  refine wpAny_bind (wpAny_sequenceKey ht.typeIs (by decide) ?_)
  refine wpAny_bind (wpAny_callSpecial?_slot (name := Str.ofString "__getitem__") ht.typeIs PyProof.Rows.slot_tuple_getitem (wpAny_call_entry PyProof.Rows.slot_tuple_getitem ht.typeIs entry_tuple_getitem ?_ (args_tuple_getitem _ _)))
  show wpAny _ _ (Builtin.Tuple.tupleItemsOf (.ref t) >>= _) _ _ s
  refine wpAny_bind (PyProof.Rows.tupleItemsOf_ ht ?_)
  refine wpAny_bind (wpAny_typeOf hTs ?_)
  rw [if_pos (by decide)]
  refine wpAny_bind (backApplied hs pl pu ps ?_)
  have hno : ¬ (((((its.size : Nat) : Int) - 1) == 0 && (-1 : Int) == 1 && its.size == its.size) = true) := by
    intro q
    rw [Bool.and_eq_true, Bool.and_eq_true] at q
    exact absurd q.1.2 (by decide)
  show wpAny _ _ (if ((((its.size : Nat) : Int) - 1) == 0 && (-1 : Int) == 1 && its.size == its.size) = true then _ else _) _ _ s
  rw [if_neg hno, back_pick]
  first
    | exact wpAny_bind (m := Builtin.Tuple.tupleExact _) (wpAny_newObj_type (wpAny_pure ⟨_, rfl, wpAny_pure h⟩) hok)
    | exact wpAny_bind (m := Builtin.Tuple.tupleExact _) (wpAny_newObj_type (wpAny_bind (wpAny_pure (wpAny_pure ⟨_, rfl, wpAny_pure h⟩))) hok)
    | exact wpAny_bind (wpAny_bind (m := Builtin.Tuple.tupleExact _) (wpAny_newObj_type (wpAny_pure (wpAny_pure ⟨_, rfl, wpAny_pure h⟩)) hok))
    | exact wpAny_bind (wpAny_bind (m := Builtin.Tuple.tupleExact _) (wpAny_newObj_type (wpAny_pure ⟨_, rfl, wpAny_pure h⟩) hok))
end
def tBack (K : PySem.W.Frag) (te : TE) : TE := fun σ H Q => te σ H fun x H1 => ∃ a xs, x = .ref a ∧ ((SqL K H1 a xs ∧ ∀ p, H1 p = none → Q (.ref p) (upd H1 p (.lst xs.reverse))) ∨ (SqT K H1 a xs ∧ NewT H1 xs.reverse Q))
theorem pe_back {X : Cx} {e : Expr} {te : TE} {k : Nat} {p1 p2 p3 pos : Pos} (he : PE X e te) : PE X (.Subscript e (.Slice none none (some (.UnaryOp .USub (.Constant (.int 1) k p1) p2)) p3) pos) (tBack X.K te) := by
  refine ⟨fun pins s σ H Q I h => ?_⟩
  refine Subscript_ (thn (he.run pins s σ H _ I h) fun v s1 ⟨x, H1, I1, r1, a, xs, ex, q⟩ => ?_)
  subst ex
  cases r1
  have hst : PO X (some (.UnaryOp .USub (.Constant (.int 1) k p1) p2)) (tPart (tUn (rU fun i => .int (-i)) (tC (.int 1)))) := po_some (pe_un un_neg pe_int)
  refine wpAny_Slice (thn (po_none.run pins s1 σ H1 (fun o H2 => o = none ∧ H2 = H1) I1 ⟨rfl, rfl⟩) fun vl s2 ⟨l, H2, I2, pl, el, e2⟩ => ?_)
  subst el e2
  refine thn (po_none.run pins s2 σ H2 (fun o H3 => o = none ∧ H3 = H2) I2 ⟨rfl, rfl⟩) fun vu s3 ⟨u, H3, I3, pu, eu, e3⟩ => ?_
  subst eu e3
  refine thn (hst.run pins s3 σ H3 (fun o H4 => o = some (-1) ∧ H4 = H3) I3 ⟨1, rfl, -1, rfl, rfl, rfl⟩) fun vs s4 ⟨o, H4, I4, ps, eo, e4⟩ => ?_
  subst eo e4
  have I5 : Inv X pins σ H4 { s4 with heap := s4.heap.push { cls := .type "slice", data := .fields #[vl, vu, vs] } } := I4.kept (t' := s4.toks) fun b ob z => Heap.get?_push_of_some _ z
  show wpAny (model X.prog X.w) X.A (subscriptTail e (.Slice none none (some (.UnaryOp .USub (.Constant (.int 1) k p1) p2)) p3) (.ref a) (.ref s4.heap.objs.size)) (EP X pins σ Q) X.xe { s4 with heap := s4.heap.push { cls := .type "slice", data := .fields #[vl, vu, vs] } }
  rcases q with ⟨hx, q⟩ | ⟨hx, q⟩
  · obtain ⟨its, r, ht, hz⟩ := I5.list hx
    have hlen := r.length
    refine tail_any (ops := [.ref a, .ref s4.heap.objs.size]) ht.isList.typeIs (PySem.slot_list_getitem.lookup) ?_ (by with_unfolding_all rfl)
    refine wpAny_getItem_list_slice ht.isList (Heap.IsSliceOf.new _ vl vu vs) pl pu ps (by decide) ?_ (by rw [List.size_toArray]; omega)
    rw [PySem.W.krv_pick]
    refine ⟨.ref _, _, I5.laid (t' := s4.toks) (o := .lst xs.reverse) (fun b ob z => Heap.get?_push_of_some _ z) (Nat.le_refl _) ?_, rfl, q _ (I5.hok.fresh (Nat.le_refl _))⟩
    exact ⟨by rw [List.length_reverse]; exact hz, _, 0, r.reverse, Heap.get?_push_size _ rfl⟩
  · obtain ⟨its, r, ht, hz⟩ := I5.tuple hx
    have hlen := r.length
    refine tail_any (ops := [.ref a, .ref s4.heap.objs.size]) ht.typeIs (PyProof.Rows.slot_tuple_getitem.lookup) ?_ (by with_unfolding_all rfl)
    refine getItem_tuple_back ht (Heap.IsSliceOf.new _ vl vu vs) pl pu ps ?_ (by rw [List.size_toArray]; omega)
    exact ⟨.ref _, _, Inv.laidZ (t' := s4.toks) I5 r.reverse (by rw [List.length_reverse]; exact hz), rfl, q _ _ (I5.hok.fresh (Nat.le_refl _)) rfl⟩
section
variable {Γ : Gam} {W : WX} {X : Cx} {k : Nat}
theorem VsRel.snoc' {K : PySem.W.Frag} {H : Hp} {al : Addr → Prop} {π : List Addr} : ∀ {ds : List D} {xs : List V}, VsRel K H al π ds xs → VsRel K H al π ds.reverse xs.reverse
  | [], xs, h => by simp only [VsRel] at h; subst h; simp [VsRel]
  | d :: ds, xs, h => by
    simp only [VsRel] at h
    obtain ⟨v, r, rfl, h1, h2⟩ := h
    rw [List.reverse_cons, List.reverse_cons]
    exact VsRel.append (VsRel.snoc' h2) (VsRel.one h1)
theorem de_back (C : Ct X Γ W k) {e : Expr} {f : Ev} {j : Nat} {p1 p2 p3 pos : Pos} (h : DE X Γ W e f) : DE X Γ W (.Subscript e (.Slice none none (some (.UnaryOp .USub (.Constant (.int 1) j p1) p2)) p3) pos) (eUn gBack f) := by
  refine PEimp (pe_back h) fun σ H Q h => tG.first h fun d v H1 ρ S1 π1 x r p => ?_
  have hK := C.K
  rw [hK]
  cases d with
  | tup es =>
    simp only [relD, VRel] at r
    obtain ⟨a, xs, rfl, s, q⟩ := r
    exact ⟨a, xs, rfl, .inr ⟨s.sq, post_tup x.g (VsRel.snoc' q) p⟩⟩
  | lst es =>
    obtain ⟨a, xs, rfl, t, q⟩ := litems_ref (ds := es) x.g r rfl
    exact ⟨a, xs, rfl, .inl ⟨.inl t, post_lst x.g (VsRel.snoc' q) p⟩⟩
  | ref i =>
    simp only [gBack] at p
    cases e : litems (.ref i) S1 with
    | none => rw [e] at p; exact p.elim
    | some es =>
      rw [e] at p
      obtain ⟨a, xs, rfl, t, q⟩ := litems_ref x.g r e
      exact ⟨a, xs, rfl, .inl ⟨.inl t, post_lst x.g (VsRel.snoc' q) p⟩⟩
  | _ => exact p.elim
theorem upto_rg (a b : Int) {H : Hp} {al : Addr → Prop} {π : List Addr} {K : PySem.W.Frag} : VsRel K H al π (upto a (b - a).toNat) (rgV a b) := by
  refine vsr_of (by rw [upto_length, rgV_length]) fun j d x h1 h2 => ?_
  obtain ⟨hj, rfl⟩ := upto_get _ _ _ _ h1
  unfold rgV at h2
  rw [List.getElem?_map, List.getElem?_range hj] at h2
  cases h2
  simp only [VRel]
theorem de_rgL1 (C : Ct X Γ W k) {e : Expr} {f : Ev} {p p2 pos pos2 : Pos} (hg : Gl X "list") (hm : X.mg "list" = none) (hg2 : Gl X "range") (hm2 : X.mg "range" = none) (h : DE X Γ W e f) (na : starEach [e] X.env = (false, eval e X.env) :: starEach [] X.env := by rfl)
    (nb : starEach [.Call (.Name "range" p2) [e] [] pos2] X.env = (false, eval (.Call (.Name "range" p2) [e] [] pos2) X.env) :: starEach [] X.env := by rfl) : DE X Γ W (.Call (.Name "list" p) [.Call (.Name "range" p2) [e] [] pos2] [] pos) (eRgL1 f) := by
  refine PEimp (pe_listRg C.calm hg hm (prg_1 hg2 hm2 h na) nb) fun σ H Q h => tG.first h fun d v H1 ρ S1 π1 x r p => ?_
  cases d with
  | int n =>
    simp only [relD, VRel] at r
    dsimp only at p
    split at p
    · rename_i hn
      refine ⟨n, r, ⟨by decide, by decide, hn.1, by omega, by omega⟩, ?_⟩
      refine post_lst x.g ?_ p
      have := upto_rg 0 n (H := H1) (al := Al Γ.rs π1 S1) (π := π1) (K := Γ.K)
      rwa [Int.sub_zero] at this
    · exact p.elim
  | _ => exact p.elim
theorem ds_par3 (C : Ct X Γ W k) {i j l : Nat} {x y z : Str} {a b c : Expr} {f g h : Ev} {px py pz pt : Pos} {kt k2 pt2} {pos : Pos} (hi : X.N[i]? = some x) (hj : X.N[j]? = some y) (hl : X.N[l]? = some z) (hij : i ≠ j) (hil : i ≠ l) (hjl : j ≠ l)
    (hx : X.env.scope.names.lookup x = some .local) (hy : X.env.scope.names.lookup y = some .local) (hz : X.env.scope.names.lookup z = some .local) (ha : DA X Γ W [a, b, c] (aCons f (aCons g (aCons h aNil))))
    (hw : swappedStores [.Tuple [.Name x px, .Name y py, .Name z pz] kt pt] (.Tuple [a, b, c] k2 pt2) X.env = pure (some [x, y, z]))
    (hs : swapsWithSole [.Tuple [.Name x px, .Name y py, .Name z pz] kt pt] (.Tuple [a, b, c] k2 pt2) pos.line X.env = pure false := by rfl) :
    DS X Γ W (.Assign [.Tuple [.Name x px, .Name y py, .Name z pz] kt pt] (.Tuple [a, b, c] k2 pt2) pos) (sPar3 i j l (aCons f (aCons g (aCons h aNil)))) := by
  refine PSimp (ps_par3 C.calm C.nd hi hj hl hij hil hjl hx hy hz ha hw hs) fun E σ H h => tS.first h fun ds vs H1 ρ S1 π1 x r p => ?_
  try dsimp only at p
  split at p
  · simp only [relA, VsRel] at r
    obtain ⟨u, _, rfl, ru, v, _, rfl, rv, w, _, rfl, rw', rfl⟩ := r
    exact ⟨u, v, w, rfl, p _ π1 H1 (((x.set i ru).set j rv).set l rw') Keep.refl⟩
  · exact p.elim
end
end Mp

/-! MpB3: instances, their fields and methods; walks of dicts; more of lists. -/
namespace Mp
open PySem
/-! ### instances -/
def fput (x : Str) (v : D) : List (Str × D) → List (Str × D)
  | [] => [(x, v)]
  | (g, y) :: r => if g = x then (g, v) :: r else (g, y) :: fput x v r
def eFld (cs : List Nat) (x : Str) (f : Ev) : Ev := fun ρ S => (f ρ S).bind fun v S1 => match v with
  | .ref i => match S1[i]? with
    | some (.ins c fs) => if c ∈ cs then (match fs.lookup x with
      | some d => .ok d S1
      | none => .bad) else .bad
    | _ => .bad
  | _ => .bad
def sFld (cs : List Nat) (x : Str) (o e : Ev) : Ex := fun ρ S => (e ρ S).then ρ fun v S1 => (o ρ S1).then ρ fun w S2 => match w with
  | .ref i => match S2[i]? with
    | some (.ins c fs) => if c ∈ cs ∧ fs.length < 1000 then .nx ρ (S2.set i (.ins c (fput x v fs))) else .bad
    | _ => .bad
  | _ => .bad
def eMeth (ms : List (Nat × Fn)) (x : Str) (o : Ev) (a : Ea) : Ev := fun ρ S => (o ρ S).bind fun v S1 => match v with
  | .ref i => match S1[i]? with
    | some (.ins c fs) => match ms.lookup c with
      | some m => if fs.lookup x = none then (a ρ S1).bind fun ds S2 => m (.ref i :: ds) S2 else .bad
      | none => .bad
    | _ => .bad
  | _ => .bad
def eMake (c : Nat) (m : Fn) (a : Ea) : Ev := fun ρ S => (a ρ S).bind fun ds S1 => (m (.ref S1.length :: ds) (S1 ++ [.ins c []])).bind fun d S2 => match d with
  | .non => .ok (.ref S1.length) S2
  | _ => .bad
/-! ### walks of dicts -/
/-- the keys of a dict that is locked -/
def iKeys (f : Ev) : Ei := fun ρ S => (f ρ S).bind fun x S1 => match x with
  | .ref i => match S1[i]? with
    | some (.dct true kvs) => .ok ⟨kvs.map (·.1), []⟩ S1
    | _ => .bad
  | _ => .bad
/-- a dict is locked while e runs -/
def eLock (f e : Ev) : Ev := fun ρ S => match f ρ S with
  | .ok (.ref i) _ => match S[i]? with
    | some (.dct false kvs) => match e ρ (S.set i (.dct true kvs)) with
      | .ok v S' => match S'[i]? with
        | some (.dct true kvs') => .ok v (S'.set i (.dct false kvs'))
        | _ => .bad
      | .ex c S' => .ex c S'
      | .bad => .bad
    | some (.dct true _) => e ρ S
    | _ => .bad
  | _ => .bad
def unlock (i : Nat) (S : Sto) : Option Sto := match S[i]? with
  | some (.dct true kvs) => some (S.set i (.dct false kvs))
  | _ => none
def Out.unlock (i : Nat) : Out → Out
  | .nx ρ S => match Mp.unlock i S with
    | some S1 => .nx ρ S1
    | none => .bad
  | .rt d S => match Mp.unlock i S with
    | some S1 => .rt d S1
    | none => .bad
  | .bk ρ S => match Mp.unlock i S with
    | some S1 => .bk ρ S1
    | none => .bad
  | .ct ρ S => match Mp.unlock i S with
    | some S1 => .ct ρ S1
    | none => .bad
  | .ex c ρ S => .ex c ρ S
  | .bad => .bad
def sLock (f : Ev) (b : Ex) : Ex := fun ρ S => match f ρ S with
  | .ok (.ref i) _ => match S[i]? with
    | some (.dct false kvs) => (b ρ (S.set i (.dct true kvs))).unlock i
    | some (.dct true _) => b ρ S
    | _ => .bad
  | _ => .bad
/-! ### lists -/
/-- a slice of a list, to be changed -/
def gSlM (a : D) (lo hi : Option Int) (S : Sto) : R D := match litems a S with
  | some ds => .ok (.ref S.length) (S ++ [.lst (cut ds lo hi)])
  | none => .bad
def eSlM (a : Ev) (lo hi : Eo) : Ev := fun ρ S => (a ρ S).bind fun x S1 => (lo ρ S1).bind fun l S2 => (hi ρ S2).bind fun h S3 => gSlM x l h S3
def mExtend (a : D) (xs : List D) (S : Sto) : R D :=
  match a, xs with
  | .ref i, [.lst es] => match S[i]? with
    | some (.lst ds) => if ds.length + es.length ≤ line then .ok .non (S.set i (.lst (ds ++ es))) else .bad
    | _ => .bad
  | _, _ => .bad
/-- x * y: of whole numbers, of a list and a truth or a whole number -/
def repD (ds : List D) (n : Nat) : List D := (List.replicate n ds).flatten
def gMulL (a b : D) (S : Sto) : R D := match b with
  | .int n => match litems a S with
    | some ds => if 0 ≤ n ∧ n ≤ 1 ∧ ds.length ≤ line then .ok (.lst (repD ds n.toNat)) S else .bad
    | none => .bad
  | _ => .bad
/-- a dict == a new one without pairs -/
def gEqE (a b : D) (S : Sto) : R D := match a, b with
  | .ref i, .ref j => match S[i]?, S[j]? with
    | some (.dct false kvs), some (.dct false []) => .ok (.bl kvs.isEmpty) S
    | _, _ => .bad
  | _, _ => .bad
section
variable {QD : D → Sto → Prop} {QW : Wk → Sto → Prop} {E : Nat → Sto → Prop} {S : Sto} {ρ : Env} {P : Po}
@[simp] theorem eFld_sat {cs : List Nat} {x : Str} {f : Ev} : (eFld cs x f ρ S).sat QD E = (f ρ S).sat (fun v S1 => match v with | .ref i => (match S1[i]? with | some (.ins c fs) => c ∈ cs ∧ (match fs.lookup x with | some d => QD d S1 | none => False) | _ => False) | _ => False) E := by
  unfold eFld; simp only [sat_bind]; congr; funext v S1
  cases v <;> try rfl
  rename_i i
  dsimp only
  cases S1[i]? with
  | none => rfl
  | some o =>
    cases o <;> try rfl
    rename_i c fs
    dsimp only
    by_cases h : c ∈ cs
    · rw [if_pos h]; simp only [h, true_and]; cases fs.lookup x <;> rfl
    · rw [if_neg h]; simp only [h, false_and]; rfl
@[simp] theorem sFld_sat {cs : List Nat} {x : Str} {o e : Ev} : (sFld cs x o e ρ S).sat P = (e ρ S).sat (fun v S1 => (o ρ S1).sat (fun w S2 => match w with | .ref i => (match S2[i]? with | some (.ins c fs) => (c ∈ cs ∧ fs.length < 1000) ∧ P.nx ρ (S2.set i (.ins c (fput x v fs))) | _ => False) | _ => False) (fun c S => P.ex c ρ S)) (fun c S => P.ex c ρ S) := by
  unfold sFld; simp only [sat_then]; congr; funext v S1; congr; funext w S2
  cases w <;> try rfl
  rename_i i
  dsimp only
  cases S2[i]? with
  | none => rfl
  | some o =>
    cases o <;> try rfl
    rename_i c fs
    dsimp only
    by_cases h : c ∈ cs ∧ fs.length < 1000
    · rw [if_pos h]; simp [h]
    · rw [if_neg h]; simp only [h, false_and]; rfl
@[simp] theorem eMeth_sat {ms : List (Nat × Fn)} {x : Str} {o : Ev} {a : Ea} : (eMeth ms x o a ρ S).sat QD E = (o ρ S).sat (fun v S1 => match v with | .ref i => (match S1[i]? with | some (.ins c fs) => (match ms.lookup c with | some m => fs.lookup x = none ∧ (a ρ S1).sat (fun ds S2 => (m (.ref i :: ds) S2).sat QD E) E | none => False) | _ => False) | _ => False) E := by
  unfold eMeth; simp only [sat_bind]; congr; funext v S1
  cases v <;> try rfl
  rename_i i
  dsimp only
  cases S1[i]? with
  | none => rfl
  | some o =>
    cases o <;> try rfl
    rename_i c fs
    dsimp only
    cases ms.lookup c with
    | none => rfl
    | some m =>
      dsimp only
      by_cases h : fs.lookup x = none
      · rw [if_pos h]; simp only [h, true_and, sat_bind]
      · rw [if_neg h]; simp only [h, false_and]; rfl
@[simp] theorem eMake_sat {c : Nat} {m : Fn} {a : Ea} : (eMake c m a ρ S).sat QD E = (a ρ S).sat (fun ds S1 => (m (.ref S1.length :: ds) (S1 ++ [.ins c []])).sat (fun d S2 => match d with | .non => QD (.ref S1.length) S2 | _ => False) E) E := by
  unfold eMake; simp only [sat_bind]; congr; funext ds S1; congr; funext d S2; cases d <;> rfl
@[simp] theorem iKeys_sat {f : Ev} : (iKeys f ρ S).sat QW E = (f ρ S).sat (fun x S1 => match x with | .ref i => (match S1[i]? with | some (.dct true kvs) => QW ⟨kvs.map (·.1), []⟩ S1 | _ => False) | _ => False) E := by
  unfold iKeys; simp only [sat_bind]; congr; funext x S1
  cases x <;> try rfl
  rename_i i
  dsimp only
  cases S1[i]? with
  | none => rfl
  | some o =>
    cases o <;> try rfl
    rename_i lk kvs
    cases lk <;> rfl
theorem eLock_sat {f e : Ev} {i : Nat} {kvs : List (D × D)} {S0 : Sto} (hf : f ρ S = .ok (.ref i) S0) (h : S[i]? = some (.dct false kvs))
    (q : (e ρ (S.set i (.dct true kvs))).sat (fun v S' => match S'[i]? with | some (.dct true kvs') => QD v (S'.set i (.dct false kvs')) | _ => False) E) : (eLock f e ρ S).sat QD E := by
  unfold eLock
  rw [hf]
  dsimp only
  rw [h]
  dsimp only
  cases hh : e ρ (S.set i (.dct true kvs)) with
  | bad => rw [hh] at q; exact q
  | ex c S' => rw [hh] at q; exact q
  | ok v S' =>
    rw [hh] at q
    simp only [sat_ok] at q
    dsimp only
    cases ho : S'[i]? with
    | none => rw [ho] at q; exact q.elim
    | some o =>
      rw [ho] at q
      cases o <;> try exact q.elim
      rename_i lk kvs'
      cases lk
      · exact q.elim
      · exact q
def Po.unlock (i : Nat) (P : Po) : Po where
  nx ρ S := match Mp.unlock i S with | some S1 => P.nx ρ S1 | none => False
  rt d S := match Mp.unlock i S with | some S1 => P.rt d S1 | none => False
  bk ρ S := match Mp.unlock i S with | some S1 => P.bk ρ S1 | none => False
  ct ρ S := match Mp.unlock i S with | some S1 => P.ct ρ S1 | none => False
  ex c ρ S := P.ex c ρ S
theorem unlock_sat {o : Out} {i : Nat} : (o.unlock i).sat P = o.sat (P.unlock i) := by
  cases o <;> try rfl
  all_goals
    rename_i S
    show Out.sat (match Mp.unlock i S with | some S1 => _ | none => _) P = _
    simp only [Out.sat, Po.unlock]
    cases Mp.unlock i S <;> rfl
theorem sLock_sat {f : Ev} {b : Ex} {i : Nat} {kvs : List (D × D)} {S0 : Sto} (hf : f ρ S = .ok (.ref i) S0) (h : S[i]? = some (.dct false kvs)) (q : (b ρ (S.set i (.dct true kvs))).sat (P.unlock i)) : (sLock f b ρ S).sat P := by
  unfold sLock
  rw [hf]
  dsimp only
  rw [h]
  dsimp only
  rw [unlock_sat]
  exact q
@[simp] theorem eSlM_sat {a : Ev} {lo hi : Eo} : (eSlM a lo hi ρ S).sat QD E = (a ρ S).sat (fun x S1 => (lo ρ S1).sat (fun l S2 => (hi ρ S2).sat (fun h S3 => (gSlM x l h S3).sat QD E) E) E) E := by
  unfold eSlM; simp only [sat_bind]
theorem gSlM_sat {a : D} {lo hi : Option Int} {ds : List D} (h : litems a S = some ds) : (gSlM a lo hi S).sat QD E = QD (.ref S.length) (S ++ [.lst (cut ds lo hi)]) := by
  unfold gSlM; rw [h]; rfl
theorem gEqE_sat {i j : Nat} {kvs : List (D × D)} (h : S[i]? = some (.dct false kvs)) (h' : S[j]? = some (.dct false [])) : (gEqE (.ref i) (.ref j) S).sat QD E = QD (.bl kvs.isEmpty) S := by
  simp only [gEqE, h, h', sat_ok]
theorem mExtend_sat {i : Nat} {ds es : List D} (h : S[i]? = some (.lst ds)) : (mExtend (.ref i) [.lst es] S).sat QD E = (ds.length + es.length ≤ line ∧ QD .non (S.set i (.lst (ds ++ es)))) := by
  simp only [mExtend, h]; exact ite_sat
end
end Mp

/-! MpO9: instances: fields, methods, making; constants of a module; locks, walks of dicts. -/
namespace Mp
open PySem PySem.Spec PyProof.Rows L2
/-- what a class must have to be made, but for its __init__ -/
structure MkC (K : PySem.W.Frag) (C : Addr) : Prop where
  makes : PySem.W.makesIn K C = true
  kp : PySem.W.keepIn K (.ref C) = true
/-- the method x of the class c stands, and keeps its promise -/
def MtAt (P : Program) (w : World) (mg : Str → Option Value) (base : Heap) (Γ : Gam) (j : Nat) (c : Nat) (x : Str) (n : Nat) (m : Fn) : Prop :=
  ∃ f fd ps, FnOk P w Γ.K mg base (L2.CX P w) j f fd ps (spM Γ n m) ∧ Meth Γ.K (Γ.cl c) x f ∧ Binds Γ.K fd ps [] ∧ ps.length = n
structure MdAt (K : PySem.W.Frag) (C : Addr) (x qual : Str) (st : Stmt) (ps : List Str) : Prop where
  ex : ∃ f fd, Fun K x qual st f fd ∧ Meth K C x f ∧ Binds K fd ps []
section
variable {P : Program} {w : World} {mg : Str → Option Value} {base : Heap} {Γ : Gam}
theorem MdAt.fn {x qual : Str} {st : Stmt} {N ps : List Str} {n k c : Nat} {b : Ex} (D : MdAt Γ.K (Γ.cl c) x qual st ps) (S : FnScope N ps (defScope st)) (hn : ps.length = n)
    (hb : ∀ (f : Addr) (cdv : Value) (A : Around) (outer : List PySem.Env) (s : Shared) (H : Hp) (E : XK) (rs : List Addr), Ct (cxB P w Γ.K mg base N qual st f cdv A outer s H E) (Γ.wr rs) (fun cls d _ H' => E cls d H') k →
      DSs (cxB P w Γ.K mg base N qual st f cdv A outer s H E) (Γ.wr rs) (fun cls d _ H' => E cls d H') (defBody st) b) : MtAt P w mg base Γ (k + 1) c x n (run N.length b) := by
  obtain ⟨f, fd, F, hm, bi⟩ := D.ex
  exact ⟨f, fd, ps, fn_body F S hn (hb f), hm, bi, hn⟩
theorem MtAt.wr {j c n : Nat} {x : Str} {m : Fn} (F : MtAt P w mg base Γ j c x n m) (rs : List Addr) : MtAt P w mg base (Γ.wr rs) j c x n m := F
end
/-! ### readings -/
def tMethS (C : Addr) (x : Str) (sp : Sp) (E : L2.St → XK) (ta : TE) (t : TA) : TE := fun σ H Q => ta σ H fun v H1 => ∃ a dx fs, v = .ref a ∧ H1 a = some (.ins C dx fs) ∧ fs.lookup x = none ∧ t σ H1 fun vs H2 => sp (v :: vs) H2 Q (E σ)
def tMakeS (C : Addr) (sp : Sp) (E : L2.St → XK) (t : TA) : TE := fun σ H Q => t σ H fun vs H1 => ∀ x dx, H1 x = none → H1 dx = none → dx ≠ x → sp (.ref x :: vs) (upd (upd H1 dx (.own x)) x (.ins C dx [])) (fun v H2 => v = .non ∧ Q (.ref x) H2) (E σ)
section
variable {X : Cx} {CX : CXT} {k : Nat} {f C : Addr} {fd : FuncData} {ps : List Str} {sp : Sp} {E : L2.St → XK} {x m : Str} {p pos apos : Pos} {e o : Expr} {es : List Expr} {ta : TE} {t : TA}
theorem pe_methS {pl : Sem Bool} (he : PE X o ta) (c : Cls X.K C) (hm : Meth X.K C m f) (F : FnOk X.prog X.w X.K X.mg X.base CX k f fd ps sp) (hr : Room k X.A) (hb : Binds X.K fd ps []) (hx : ∀ σ, PassesAt CX X σ (E σ)) (ha : PA X (e :: es) t)
    (hst : starEach (e :: es) X.env = (false, eval e X.env) :: starEach es X.env := by rfl) (hpl : (backTo pos (starEach es X.env)).any (·.1) = false := by rfl)
    (ht : eval (.Call (.Attribute o m apos) (e :: es) [] pos) X.env = (eval o X.env >>= fun ov => standAt apos.atName >>= fun _ => holding [ov] (getMethod ov m pl) >>= fun (f, first) => callWith pos f first (backTo pos (starEach (e :: es) X.env)) (backToKw pos (keywordEach [] X.env))) := by rfl) :
    PE X (.Call (.Attribute o m apos) (e :: es) [] pos) (tMethS C m sp E ta t) := by
  constructor
  intro pins s σ H Q I h
  refine PySem.W.methodCall_KW (pl := pl) (thn (he.run pins s σ H _ I h) fun u s1 z => ?_) ht
  obtain ⟨v, H1, I1, rx, a, dx, fs, ev, ea, l, q⟩ := z
  subst ev
  have eu : u = Value.ref a := rx
  subst eu
  refine getmeth_ok I1 ea c hm l (PySem.W.callWith_K (first := [.ref a]) (h₀ := X.base) I.ok.mod.kin hm.kp (thn (ha.run pos pins s1 σ H1 _ I1 q) fun us s2 z => ?_) hst hpl)
  obtain ⟨vs, H2, I2, r, q2⟩ := z
  exact ⟨I2.kIn, run_fnS (us := .ref a :: us) (vs := .ref a :: vs) F hr hb (hx σ) I2 (.cons rfl r) q2⟩
theorem pe_methS0 {pl : Sem Bool} (he : PE X o ta) (c : Cls X.K C) (hm : Meth X.K C m f) (F : FnOk X.prog X.w X.K X.mg X.base CX k f fd ps sp) (hr : Room k X.A) (hb : Binds X.K fd ps []) (hx : ∀ σ, PassesAt CX X σ (E σ))
    (ht : eval (.Call (.Attribute o m apos) [] [] pos) X.env = (eval o X.env >>= fun ov => standAt apos.atName >>= fun _ => holding [ov] (getMethod ov m pl) >>= fun (f, first) => callWith pos f first (backTo pos (starEach [] X.env)) (backToKw pos (keywordEach [] X.env))) := by rfl) :
    PE X (.Call (.Attribute o m apos) [] [] pos) (tMethS C m sp E ta tNil) := by
  constructor
  intro pins s σ H Q I h
  refine PySem.W.methodCall_KW (pl := pl) (thn (he.run pins s σ H _ I h) fun u s1 z => ?_) ht
  obtain ⟨v, H1, I1, rx, a, dx, fs, ev, ea, l, q⟩ := z
  subst ev
  have eu : u = Value.ref a := rx
  subst eu
  exact getmeth_ok I1 ea c hm l (PySem.W.callWith_K0 (first := [.ref a]) I1.kIn hm.kp (run_fnS (us := [.ref a]) (vs := [.ref a]) F hr hb (hx σ) I1 (.cons rfl .nil) q))
theorem run_makeS {pins : List (Addr × Obj)} {σ : L2.St} {H : Hp} {s : Shared} {Q : VK} {us : List Value} {vs : List V} (M : Mk X.K C f) (F : FnOk X.prog X.w X.K X.mg X.base CX k f fd ps sp) (hr : Room (k + 1) X.A) (hb : Binds X.K fd ps [])
    (hx : PassesAt CX X σ (E σ)) (I : Inv X pins σ H s) (r : Vals vs us)
    (h : ∀ x dx, H x = none → H dx = none → dx ≠ x → sp (.ref x :: vs) (upd (upd H dx (.own x)) x (.ins C dx [])) (fun v H2 => v = .non ∧ Q (.ref x) H2) (E σ)) :
    wpAny (model X.prog X.w) X.A (call (.ref C) us) (EP X pins σ Q) X.xe s := by
  have hq := h (s.heap.objs.size + 1) s.heap.objs.size (I.hok.fresh (Nat.le_succ _)) (I.hok.fresh (Nat.le_refl _)) (Nat.ne_of_lt (Nat.lt_succ_self _))
  have I2 := Inv.made (C := C) I
  have r2 : Vals (V.ref (s.heap.objs.size + 1) :: vs) (Value.ref (s.heap.objs.size + 1) :: us) := .cons rfl r
  have hl : (Value.ref (s.heap.objs.size + 1) :: us).length = ps.length := by
    have := r2.length
    rw [F.len _ _ _ _ hq] at this
    exact this.symm
  have b := hb _ (Value.ref (s.heap.objs.size + 1) :: us) I2.kIn (by rw [List.append_nil]; exact hl)
  rw [List.append_nil] at b
  refine wpAny_call (make_map (f := f) I.kIn M.makes M.init (beq_iff_eq.mp M.fn) (codeAny_mono (F.run _ X.stack _ _ ⟨Value.ref (s.heap.objs.size + 1) :: us, []⟩ (Value.ref (s.heap.objs.size + 1) :: us) _ _ (E σ) (hr.make C us []) (I2.env0.make C us []) b r2 hq) fun r s' hq' => ?_))
  cases r with
  | error e => exact hx pins _ _ e s' I2 hq'
  | ok fl =>
    cases fl with
    | ret u =>
      obtain ⟨v, H', I3, rv, ev, q3⟩ := I2.after hq'
      subst ev
      exact ⟨rv, V.ref (s.heap.objs.size + 1), H', I3, rfl, q3⟩
    | next => exact False.elim hq'
    | brk => exact False.elim hq'
    | cont => exact False.elim hq'
theorem pe_makeS (M : Mk X.K C f) (F : FnOk X.prog X.w X.K X.mg X.base CX k f fd ps sp) (hr : Room (k + 1) X.A) (hg : Gl X x) (hm : X.mg x = some (.ref C)) (hb : Binds X.K fd ps []) (hx : ∀ σ, PassesAt CX X σ (E σ))
    (ha : PA X (e :: es) t) (hdb : (x == ("__debug__" : Str)) = false := by decide) (he : starEach (e :: es) X.env = (false, eval e X.env) :: starEach es X.env := by rfl) (hpl : (backTo pos (starEach es X.env)).any (·.1) = false := by rfl) :
    PE X (.Call (.Name x p) (e :: es) [] pos) (tMakeS C sp E t) := by
  constructor
  intro pins s σ H Q I h
  refine wpAny_Call_Name_kw (ld_glob I hg hm ?_ hdb)
  refine PySem.W.callWith_K (h₀ := X.base) I.ok.mod.kin M.kp (thn (ha.run pos pins s σ H _ I h) fun us s1 z => ?_) he hpl
  obtain ⟨vs, H1, I1, r, q⟩ := z
  exact ⟨I1.kIn, run_makeS M F hr hb (hx σ) I1 r q⟩
end
/-! ### fields -/
section
variable {Γ : Gam} {W : WX} {X : Cx} {k : Nat} {π : List Addr} {S : Sto} {H : Hp}
theorem fs_get : ∀ {fs : List (Str × D)} {gs : List (Str × V)} {al : Addr → Prop} {K : PySem.W.Frag} {x : Str} {d : D}, FsRel K H al π fs gs → fs.lookup x = some d → ∃ v, gs.lookup x = some v ∧ VRel K H al π d v
  | [], gs, al, K, x, d, h, e => by simp at e
  | (a, b) :: fs, [], al, K, x, d, h, e => by have := h.1; simp at this
  | (a, b) :: fs, (a', v) :: gs, al, K, x, d, h, e => by
    obtain ⟨h1, h2⟩ := h
    simp only [List.map_cons, List.cons.injEq] at h1
    obtain ⟨rfl, h1⟩ := h1
    simp only [List.map_cons, VsRel] at h2
    obtain ⟨v', r, e2, rv, rr⟩ := h2
    obtain ⟨rfl, rfl⟩ := List.cons.inj e2
    rw [List.lookup] at e ⊢
    cases hx : x == a with
    | true => rw [hx] at e; cases e; exact ⟨v, rfl, rv⟩
    | false => rw [hx] at e; exact fs_get ⟨h1, rr⟩ e
theorem fs_none : ∀ {fs : List (Str × D)} {gs : List (Str × V)} {x : Str}, fs.map (·.1) = gs.map (·.1) → fs.lookup x = none → gs.lookup x = none
  | [], gs, x, h, e => by
    cases gs with
    | nil => rfl
    | cons g gs => simp at h
  | (a, b) :: fs, [], x, h, e => by simp at h
  | (a, b) :: fs, (a', v) :: gs, x, h, e => by
    simp only [List.map_cons, List.cons.injEq] at h
    obtain ⟨rfl, h1⟩ := h
    rw [List.lookup] at e ⊢
    cases hx : x == a with
    | true => rw [hx] at e; cases e
    | false => rw [hx] at e; exact fs_none h1 e
theorem fs_put : ∀ {fs : List (Str × D)} {gs : List (Str × V)} {al : Addr → Prop} {K : PySem.W.Frag} {x : Str} {d : D} {v : V}, FsRel K H al π fs gs → VRel K H al π d v → FsRel K H al π (fput x d fs) (putF x v gs)
  | [], gs, al, K, x, d, v, h, r => by
    cases gs with
    | nil => exact ⟨rfl, VsRel.one r⟩
    | cons g gs => have := h.1; simp at this
  | (a, b) :: fs, [], al, K, x, d, v, h, r => by have := h.1; simp at this
  | (a, b) :: fs, (a', u) :: gs, al, K, x, d, v, h, r => by
    obtain ⟨h1, h2⟩ := h
    simp only [List.map_cons, List.cons.injEq] at h1
    obtain ⟨rfl, h1⟩ := h1
    simp only [List.map_cons, VsRel] at h2
    obtain ⟨v', rr, e2, rv, r2⟩ := h2
    obtain ⟨rfl, rfl⟩ := List.cons.inj e2
    by_cases hx : a = x
    · have e1 : fput x d ((a, b) :: fs) = (a, d) :: fs := by rw [fput, if_pos hx]
      have e2 : putF x v ((a, u) :: gs) = (a, v) :: gs := by rw [putF, if_pos hx]
      rw [e1, e2]
      exact ⟨by simp [h1], VsRel.cons r r2⟩
    · have e1 : fput x d ((a, b) :: fs) = (a, b) :: fput x d fs := by rw [fput, if_neg hx]
      have e2 : putF x v ((a, u) :: gs) = (a, u) :: putF x v gs := by rw [putF, if_neg hx]
      rw [e1, e2]
      obtain ⟨i1, i2⟩ := fs_put (x := x) ⟨h1, r2⟩ r
      exact ⟨by simp [i1], VsRel.cons rv i2⟩
/-- an instance of the store -/
theorem ins_ref {i c : Nat} {v : V} {fs : List (Str × D)} (g : GRel Γ π S H) (r : VR Γ π S H (.ref i) v) (e : S[i]? = some (.ins c fs)) : ∃ a dx gs, v = .ref a ∧ π[i]? = some a ∧ H a = some (.ins (Γ.cl c) dx gs) ∧ FsRel Γ.K H (Al Γ.rs π S) π fs gs := by
  simp only [VRel] at r
  obtain ⟨a, rfl, pa⟩ := r
  obtain ⟨dx, gs, h, q⟩ := g.obj i a _ pa e
  exact ⟨a, dx, gs, rfl, pa, h, q⟩
theorem de_fld (C : Ct X Γ W k) {cs : List Nat} {x : Str} (hc : ∀ c ∈ cs, Cls Γ.K (Γ.cl c) ∧ NoAttr Γ.K (Γ.cl c) x) {e : Expr} {f : Ev} {pos : Pos} (h : DE X Γ W e f) (hb : attributeBase e x X.env (eval e X.env) = eval e X.env := by rfl) : DE X Γ W (.Attribute e x pos) (eFld cs x f) := by
  have hK := C.K
  refine PEimp (pe_fld h hb) fun σ H Q h => tG.first h fun d v H1 ρ S1 π1 y r p => ?_
  rw [hK]
  cases d <;> try exact p.elim
  rename_i i
  dsimp only at p
  split at p
  · rename_i c fs ei
    split at p
    · rename_i hcs
      split at p
      · rename_i d hd
        obtain ⟨a, dx, gs, rfl, pa, ha, q⟩ := ins_ref y.g r ei
        obtain ⟨u, hu, ru⟩ := fs_get q hd
        exact ⟨a, _, dx, gs, u, rfl, ha, (hc c hcs).1, (hc c hcs).2, hu, PostR.okI y.g ru p⟩
      · exact p.elim
    · exact p.elim
  · exact p.elim
theorem ds_fld (C : Ct X Γ W k) {cs : List Nat} {x : Str} (hc : ∀ c ∈ cs, Cls Γ.K (Γ.cl c) ∧ NoAttr Γ.K (Γ.cl c) x) {o e : Expr} {fo fe : Ev} {pos pos' : Pos} (ho : DE X Γ W o fo) (he : DE X Γ W e fe)
    (hs : swapsWith e (some (.Attribute o x pos')) pos.line X.env = pure false := by rfl) : DS X Γ W (.Assign [.Attribute o x pos'] e pos) (sFld cs x fo fe) := by
  have hK := C.K
  refine PSimp (ps_fld ho he hs) fun E σ H h => tS.first h fun d v H1 ρ S1 π1 y r p => ?_
  refine ⟨ρ, S1, π1, y, ?_⟩
  cases eo : fo ρ S1 with
  | bad => rw [eo] at p; exact p.elim
  | ex c S2 => rw [eo] at p; exact fun π' H' g k' => p σ π' H' (y.to g k') k'
  | ok w S2 =>
    rw [eo] at p
    intro u π2 H2 g2 k2 rw_
    rw [hK]
    simp only [R.then] at p
    cases w <;> try exact p.elim
    rename_i i
    dsimp only at p
    split at p
    · rename_i c fs ei
      split at p
      · rename_i hcs
        obtain ⟨a, dx, gs, rfl, pa, ha, q⟩ := ins_ref g2 rw_ ei
        have hl : gs.length < 1000 := by
          have := congrArg List.length q.1
          simp only [List.length_map] at this
          omega
        refine ⟨a, _, dx, gs, rfl, ha, (hc c hcs.1).1, (hc c hcs.1).2, hl, ?_⟩
        obtain ⟨g3, k3⟩ := g2.put (o' := .ins c (fput x d fs)) (u := .ins (Γ.cl c) dx (putF x v gs)) pa ei rfl rfl fun k3 => ⟨dx, _, upd_same, (fs_put (q.mono k3) (VRel.mono k3 _ _ (VRel.mono k2 _ _ r)))⟩
        exact p σ π2 _ ((y.to g2 k2).to g3 k3) (k2.trans k3)
      · exact p.elim
    · exact p.elim
/-! ### methods -/
inductive MsOk (P : Program) (w : World) (mg : Str → Option Value) (base : Heap) (Γ : Gam) (j : Nat) (x : Str) (n : Nat) : List (Nat × Fn) → Prop
  | nil : MsOk P w mg base Γ j x n []
  | cons {c i : Nat} {m : Fn} {r : List (Nat × Fn)} (hc : Cls Γ.K (Γ.cl c)) (F : MtAt P w mg base Γ i c x n m) (hi : i ≤ j) (h : MsOk P w mg base Γ j x n r) : MsOk P w mg base Γ j x n ((c, m) :: r)
theorem ms_nil {P : Program} {w : World} {mg : Str → Option Value} {base : Heap} {j n : Nat} {x : Str} : MsOk P w mg base Γ j x n [] := .nil
theorem ms_cons {P : Program} {w : World} {mg : Str → Option Value} {base : Heap} {j n : Nat} {x : Str} {c i : Nat} {m : Fn} {r : List (Nat × Fn)} (hc : Cls Γ.K (Γ.cl c)) (F : MtAt P w mg base Γ i c x n m) (hi : i ≤ j) (h : MsOk P w mg base Γ j x n r) : MsOk P w mg base Γ j x n ((c, m) :: r) := .cons hc F hi h
theorem MsOk.get {P : Program} {w : World} {mg : Str → Option Value} {base : Heap} {j n : Nat} {x : Str} : ∀ {ms : List (Nat × Fn)} {c : Nat} {m : Fn}, MsOk P w mg base Γ j x n ms → ms.lookup c = some m → Cls Γ.K (Γ.cl c) ∧ ∃ i, i ≤ j ∧ MtAt P w mg base Γ i c x n m
  | _, c, m, .cons (c := c') (m := m') (r := r) hc F hi h, e => by
    rw [List.lookup] at e
    cases hx : c == c' with
    | true =>
      rw [hx] at e
      cases e
      have : c = c' := by simpa using hx
      subst this
      exact ⟨hc, _, hi, F⟩
    | false => rw [hx] at e; exact h.get e
/-- a method's call as mirrored, by the class -/
theorem meth_of {ms : List (Nat × Fn)} {x : Str} {fo : Ev} {fa : Ea} {n : Nat} (hn : ∀ ds ρ S S1, fa ρ S = .ok ds S1 → ds.length = n) {σ : L2.St} {Q : VK} (h : tM Γ W (eMeth ms x fo fa) σ H Q) :
    (∃ c m, ms.lookup c = some m ∧ tMethS (Γ.cl c) x (spM Γ (n + 1) m) (fun σ cls d H' => W cls d σ H') (tM Γ W fo) (tA Γ W fa) σ H Q) ∨ tM Γ W fo σ H fun _ _ => False := by
  obtain ⟨ρ, S, π, y, p⟩ := h
  unfold eMeth at p
  cases eo : fo ρ S with
  | bad => rw [eo] at p; exact p.elim
  | ex c S1 => exact .inr ⟨ρ, S, π, y, by rw [eo] at p ⊢; exact p⟩
  | ok v S1 =>
    rw [eo] at p
    simp only [R.bind] at p
    cases v <;> try exact p.elim
    rename_i i
    dsimp only at p
    split at p
    · rename_i c fs ei
      split at p
      · rename_i m hm
        split at p
        · rename_i hl
          refine .inl ⟨c, m, hm, ρ, S, π, y, ?_⟩
          rw [eo]
          intro u π1 H1 g1 k1 r1
          obtain ⟨a, dx, gs, rfl, pa, ha, q⟩ := ins_ref g1 r1 ei
          refine ⟨a, dx, gs, rfl, ha, fs_none q.1 hl, ρ, S1, π1, y.to g1 k1, ?_⟩
          have p := PostR.later k1 p
          cases ea : fa ρ S1 with
          | bad => rw [ea] at p; exact p.elim
          | ex c S2 => rw [ea] at p; exact p
          | ok ds S2 =>
            rw [ea] at p
            intro vs π2 H2 g2 k2 r2
            refine spM_of (ds := .ref i :: ds) ?_ g2 (VsRel.cons (VRel.mono k2 _ _ r1) r2) (PostR.later k2 p)
            rw [List.length_cons, ← VsRel.length r2, hn _ _ _ _ ea]
        · exact p.elim
      · exact p.elim
    · exact p.elim
theorem wp_or {e : Expr} {t t' : TE} (h : PE X e t) (h' : PE X e t') : PE X e (fun σ H Q => t σ H Q ∨ t' σ H Q) := ⟨fun pins s σ H Q I q => q.elim (h.run pins s σ H Q I) (h'.run pins s σ H Q I)⟩
theorem de_meth (C : Ct X Γ W k) {ms : List (Nat × Fn)} {m : Str} {n : Nat} {o e : Expr} {es : List Expr} {fo : Ev} {fa : Ea} {pos apos : Pos} {pl : Sem Bool} (hm : MsOk X.prog X.w X.mg X.base Γ k m (n + 1) ms) (ho : DE X Γ W o fo) (ha : DAn X Γ W (e :: es) fa n)
    (hst : starEach (e :: es) X.env = (false, eval e X.env) :: starEach es X.env := by rfl) (hpl : (backTo pos (starEach es X.env)).any (·.1) = false := by rfl)
    (ht : eval (.Call (.Attribute o m apos) (e :: es) [] pos) X.env = (eval o X.env >>= fun ov => standAt apos.atName >>= fun _ => holding [ov] (getMethod ov m pl) >>= fun (f, first) => callWith pos f first (backTo pos (starEach (e :: es) X.env)) (backToKw pos (keywordEach [] X.env))) := by rfl) :
    DE X Γ W (.Call (.Attribute o m apos) (e :: es) [] pos) (eMeth ms m fo fa) := by
  have hK := C.K
  constructor
  intro pins s σ H Q I h
  rcases meth_of ha.len h with ⟨c, mm, hl, h⟩ | h
  · obtain ⟨hc, i, hi, f, fd, ps, ok, me, bi, hlen⟩ := hm.get hl
    exact (pe_methS (E := fun σ cls d H' => W cls d σ H') ho (by rw [hK]; exact hc) (by rw [hK]; exact me) (by rw [hK]; exact ok) (C.room.mono hi) (by rw [hK]; exact bi) (fun σ => PassesAt.wx C σ) ha.da hst hpl ht).run pins s σ H Q I h
  · exact PySem.W.methodCall_KW (pl := pl) (thn (ho.run pins s σ H _ I h) fun u s1 z => let ⟨_, _, _, _, f⟩ := z; f.elim) ht
theorem de_meth0 (C : Ct X Γ W k) {ms : List (Nat × Fn)} {m : Str} {o : Expr} {fo : Ev} {pos apos : Pos} {pl : Sem Bool} (hm : MsOk X.prog X.w X.mg X.base Γ k m 1 ms) (ho : DE X Γ W o fo)
    (ht : eval (.Call (.Attribute o m apos) [] [] pos) X.env = (eval o X.env >>= fun ov => standAt apos.atName >>= fun _ => holding [ov] (getMethod ov m pl) >>= fun (f, first) => callWith pos f first (backTo pos (starEach [] X.env)) (backToKw pos (keywordEach [] X.env))) := by rfl) :
    DE X Γ W (.Call (.Attribute o m apos) [] [] pos) (eMeth ms m fo aNil) := by
  have hK := C.K
  constructor
  intro pins s σ H Q I h
  rcases meth_of aNil_len h with ⟨c, mm, hl, h⟩ | h
  · obtain ⟨hc, i, hi, f, fd, ps, ok, me, bi, hlen⟩ := hm.get hl
    refine (pe_methS0 (E := fun σ cls d H' => W cls d σ H') ho (by rw [hK]; exact hc) (by rw [hK]; exact me) (by rw [hK]; exact ok) (C.room.mono hi) (by rw [hK]; exact bi) (fun σ => PassesAt.wx C σ) ht).run pins s σ H Q I ?_
    obtain ⟨ρ, S, π, y, p⟩ := h
    refine ⟨ρ, S, π, y, ?_⟩
    cases eo : fo ρ S with
    | bad => rw [eo] at p; exact p.elim
    | ex c S1 => rw [eo] at p; exact p
    | ok v S1 =>
      rw [eo] at p
      intro u π1 H1 g1 k1 r1
      obtain ⟨a, dx, fs, e, ha, hl, q⟩ := p u π1 H1 g1 k1 r1
      refine ⟨a, dx, fs, e, ha, hl, ?_⟩
      obtain ⟨ρ2, S2, π2, y2, p2⟩ := q
      exact PostR.okI (rel := relA Γ) y2.g VsRel.nil p2
  · exact PySem.W.methodCall_KW (pl := pl) (thn (ho.run pins s σ H _ I h) fun u s1 z => let ⟨_, _, _, _, f⟩ := z; f.elim) ht
/-! ### making -/
theorem make_of {c : Nat} {m : Fn} {fa : Ea} {n : Nat} (hn : ∀ ds ρ S S1, fa ρ S = .ok ds S1 → ds.length = n) {σ : L2.St} {Q : VK} (h : tM Γ W (eMake c m fa) σ H Q) : tMakeS (Γ.cl c) (spM Γ (n + 1) m) (fun σ cls d H' => W cls d σ H') (tA Γ W fa) σ H Q := by
  obtain ⟨ρ, S, π, y, p⟩ := h
  refine ⟨ρ, S, π, y, ?_⟩
  unfold eMake at p
  cases ea : fa ρ S with
  | bad => rw [ea] at p; exact p.elim
  | ex c S1 => rw [ea] at p; exact p
  | ok ds S1 =>
    rw [ea] at p
    simp only [R.bind] at p
    intro vs π1 H1 g1 k1 r1 x dx hx hdx hne
    have p := PostR.later k1 p
    obtain ⟨g2, k2⟩ := g1.fresh (.own x) hdx
    have hx2 : upd H1 dx (.own x) x = none := by rw [upd_ne (Ne.symm hne)]; exact hx
    obtain ⟨g3, k3⟩ := g2.push (u := .ins (Γ.cl c) dx []) (o := .ins c []) hx2 fun _ => ⟨dx, [], upd_same, rfl, VsRel.nil⟩
    have k23 := k2.trans k3
    refine spM_of (W := W) (σ := σ) (ds := .ref S1.length :: ds) (by rw [List.length_cons, ← VsRel.length r1, hn _ _ _ _ ea]) g3 (VsRel.cons ?_ (VsRel.mono k23 _ _ r1)) ?_
    · show VRel _ _ _ _ _ _
      simp only [VRel]
      exact ⟨x, rfl, by rw [← g1.len]; simp⟩
    · have p := PostR.later k23 p
      cases em : m (.ref S1.length :: ds) (S1 ++ [.ins c []]) with
      | bad => rw [em] at p; exact p.elim
      | ex c S2 => rw [em] at p; exact p
      | ok d S2 =>
        rw [em] at p
        simp only at p
        intro v π4 H4 g4 k4 r4
        cases d <;> try exact p.elim
        have ev : v = .non := by simpa only [relD, VRel] using r4
        refine ⟨ev, p (.ref x) π4 H4 g4 k4 ?_⟩
        show VRel _ _ _ _ _ _
        simp only [VRel]
        exact ⟨x, rfl, k4.pre _ _ (by rw [← g1.len]; simp)⟩
theorem de_make (C : Ct X Γ W k) {c j n : Nat} {m : Fn} {x : Str} {p pos : Pos} {e : Expr} {es : List Expr} {fa : Ea} (M : MkC Γ.K (Γ.cl c)) (F : MtAt X.prog X.w X.mg X.base Γ j c "__init__" (n + 1) m) (hj : j + 1 ≤ k) (hg : Gl X x) (hm : X.mg x = some (.ref (Γ.cl c))) (ha : DAn X Γ W (e :: es) fa n)
    (hdb : (x == ("__debug__" : Str)) = false := by decide) (he : starEach (e :: es) X.env = (false, eval e X.env) :: starEach es X.env := by rfl) (hpl : (backTo pos (starEach es X.env)).any (·.1) = false := by rfl) : DE X Γ W (.Call (.Name x p) (e :: es) [] pos) (eMake c m fa) := by
  obtain ⟨f, fd, ps, ok, me, bi, hl⟩ := F
  have hK := C.K
  exact PEimp (pe_makeS (E := fun σ cls d H' => W cls d σ H') ⟨by rw [hK]; exact M.makes, by rw [hK]; exact me.at_, by rw [hK]; exact me.fn, by rw [hK]; exact M.kp⟩ (by rw [hK]; exact ok) (C.room.mono hj) hg hm (by rw [hK]; exact bi) (fun σ => PassesAt.wx C σ) ha.da hdb he hpl) fun σ H Q h => make_of ha.len h
/-! ### constants of a module -/
theorem de_gI (C : Ct X Γ W k) {x : Str} {i : Int} {pos : Pos} (hg : Gl X x) (h : ∃ t, X.mg x = some (.int i t)) (hd : (x == ("__debug__" : Str)) = false := by decide) : DE X Γ W (.Name x pos) (eC (.int i)) := by
  obtain ⟨t, h⟩ := h
  exact de_glob hg h (v := .int i) ⟨t, rfl⟩ (fun _ _ _ => by simp only [VRel]) hd
theorem de_gS (C : Ct X Γ W k) {x i : Str} {pos : Pos} (hg : Gl X x) (h : ∃ t, X.mg x = some (.str i t)) (hd : (x == ("__debug__" : Str)) = false := by decide) : DE X Γ W (.Name x pos) (eC (.str i)) := by
  obtain ⟨t, h⟩ := h
  exact de_glob hg h (v := .str i) ⟨t, rfl⟩ (fun _ _ _ => by simp only [VRel]) hd
theorem strs_rel {K : PySem.W.Frag} {H : Hp} {al : Addr → Prop} {π : List Addr} : ∀ ss : List Str, VsRel K H al π (ss.map D.str) (ss.map V.str)
  | [] => VsRel.nil
  | s :: ss => VsRel.cons (by simp only [VRel]) (strs_rel ss)
theorem de_gT (C : Ct X Γ W k) {x : Str} {ss : List Str} {ds : List D} {pos : Pos} (hg : Gl X x) (h : ∃ a, X.mg x = some (.ref a) ∧ KTup Γ.K a (ss.map V.str)) (hs : ds = ss.map D.str := by rfl) (hd : (x == ("__debug__" : Str)) = false := by decide) : DE X Γ W (.Name x pos) (eC (.tup ds)) := by
  obtain ⟨a, h, q⟩ := h
  subst hs
  refine de_glob hg h (v := .ref a) rfl (fun π S H => ?_) hd
  show VRel _ _ _ _ _ _
  simp only [VRel]
  exact ⟨a, _, rfl, .inr q, strs_rel ss⟩
end
end Mp

/-! MpOa: locks, walks of dicts, more of lists. -/
namespace Mp
open PySem PySem.Spec PyProof.Rows L2
section
variable {Γ : Gam} {W : WX} {X : Cx} {k : Nat} {π : List Addr} {S : Sto} {H : Hp}
/-! ### locks -/
/-- a dict of the store is locked: its object is known -/
theorem GRel.lock (g : GRel Γ π S H) {i : Nat} {a : Addr} {kvs : List (D × D)} (pa : π[i]? = some a) (e : S[i]? = some (.dct false kvs)) :
    ∃ ks, H a = some (.dK ks) ∧ ∀ od, GRel Γ π (S.set i (.dct true kvs)) (upd H a (.frz od (.dK ks))) ∧ Kp Γ π S H π (S.set i (.dct true kvs)) (upd H a (.frz od (.dK ks))) ∧
      ∀ π' S' H', Kp Γ π (S.set i (.dct true kvs)) (upd H a (.frz od (.dK ks))) π' S' H' → H' a = some (.frz od (.dK ks)) ∧
        ∀ kvs', GRel Γ π' S' H' → S'[i]? = some (.dct true kvs') → GRel Γ π' (S'.set i (.dct false kvs')) (upd H' a (.dK ks)) ∧ Kp Γ π S H π' (S'.set i (.dct false kvs')) (upd H' a (.dK ks)) ∧ ∀ d v, VR Γ π' S' H' d v → VR Γ π' (S'.set i (.dct false kvs')) (upd H' a (.dK ks)) d v := by
  obtain ⟨ks, hx, q⟩ := g.obj i a _ pa e
  have hx : H a = some (.dK ks) := hx
  have il : i < S.length := (List.getElem?_eq_some_iff.mp e).1
  have live : Al Γ.rs π S a := .inr ⟨i, _, pa, e, rfl⟩
  -- locked, a is none of those that change
  have notal : ¬ Al Γ.rs π (S.set i (.dct true kvs)) a := fun z => by
    rcases z with z | ⟨j, o, hj, ho, hg⟩
    · exact g.rsN a z (List.mem_of_getElem? pa)
    · have : i = j := nd_ix g.nd pa hj
      subst this
      rw [List.getElem?_set_self il] at ho
      cases ho
      cases hg
  have fewer : ∀ b, Al Γ.rs π (S.set i (.dct true kvs)) b → Al Γ.rs π S b := fun b z => by
    rcases z with z | ⟨j, o, hj, ho, hg⟩
    · exact .inl z
    · by_cases h : i = j
      · subst h
        rw [List.getElem?_set_self il] at ho
        cases ho
        cases hg
      · rw [List.getElem?_set_ne h] at ho
        exact .inr ⟨j, o, hj, ho, hg⟩
  refine ⟨ks, hx, fun od => ?_⟩
  have k0 : Kp Γ π S H π (S.set i (.dct true kvs)) (upd H a (.frz od (.dK ks))) :=
    ⟨fun _ _ h => h, fun b w h n => by rw [upd_ne (fun z => by subst z; exact n live)]; exact h, fun b n _ z => n (fewer b z), fun b h => upd_ne (fun z => by subst z; exact g.rsN b h (List.mem_of_getElem? pa))⟩
  refine ⟨⟨by simp [g.len], g.nd, fun j b w hj hw => ?_, fun b h => ?_, fun b h => ?_, g.rsN⟩, k0, fun π' S' H' k1 => ?_⟩
  · by_cases h : i = j
    · subst h
      rw [pa] at hj
      cases hj
      rw [List.getElem?_set_self il] at hw
      cases hw
      exact ⟨ks, by rw [if_pos rfl]; exact ⟨od, upd_same⟩, q.mono k0⟩
    · rw [List.getElem?_set_ne h] at hw
      refine (g.obj j b w hj hw).mono k0 fun v z => ?_
      rw [upd_ne (fun y => by subst y; exact h (nd_ix g.nd pa hj))]
      exact z
  · by_cases h' : b = a
    · exact ⟨_, by rw [h']; exact upd_same⟩
    · obtain ⟨w, z⟩ := g.trk b h
      exact ⟨w, by rw [upd_ne h']; exact z⟩
  · by_cases h' : b = a
    · exact ⟨_, by rw [h']; exact upd_same⟩
    · obtain ⟨w, z⟩ := g.rsT b h
      exact ⟨w, by rw [upd_ne h']; exact z⟩
  · have ha' : H' a = some (.frz od (.dK ks)) := k1.obj a _ upd_same notal
    refine ⟨ha', fun kvs' g' e' => ?_⟩
    have pa' : π'[i]? = some a := k1.pre _ _ pa
    have il' : i < S'.length := (List.getElem?_eq_some_iff.mp e').1
    obtain ⟨ks', hk', q'⟩ := g'.obj i a _ pa' e'
    obtain ⟨od', hk'⟩ : ∃ od', H' a = some (.frz od' (.dK ks')) := by rw [if_pos rfl] at hk'; exact hk'
    rw [ha'] at hk'
    cases hk'
    -- behind it: those that change, and a
    have more : ∀ b, Al Γ.rs π' (S'.set i (.dct false kvs')) b → Al Γ.rs π' S' b ∨ b = a := fun b z => by
      rcases z with z | ⟨j, o, hj, ho, hg⟩
      · exact .inl (.inl z)
      · by_cases h : i = j
        · subst h
          rw [pa'] at hj
          cases hj
          exact .inr rfl
        · rw [List.getElem?_set_ne h] at ho
          exact .inl (.inr ⟨j, o, hj, ho, hg⟩)
    have al' : Al Γ.rs π' (S'.set i (.dct false kvs')) a := .inr ⟨i, _, pa', List.getElem?_set_self il', rfl⟩
    have kk : Kp Γ π S H π' (S'.set i (.dct false kvs')) (upd H' a (.dK ks)) := by
      have kt := k0.trans k1
      refine ⟨kt.pre, fun b w h n => ?_, fun b n h z => ?_, fun b h => ?_⟩
      · rw [upd_ne (fun z => by subst z; exact n live)]
        exact kt.obj b w h n
      · rcases more b z with z | z
        · exact kt.ndt b n h z
        · subst z
          exact n live
      · rw [upd_ne (fun z => by subst z; exact g.rsN b h (List.mem_of_getElem? pa))]
        exact kt.res b h
    -- what is data stays so: none of it stands at a
    have vmono : ∀ al2 : Addr → Prop, (∀ b, al2 b → Al Γ.rs π' S' b ∨ b = a) → ∀ H2 : Hp, (∀ b, b ≠ a → H2 b = H' b) →
        (∀ (d : D) (v : V), VRel Γ.K H' (Al Γ.rs π' S') π' d v → VRel Γ.K H2 al2 π' d v) ∧ (∀ (ds : List D) (vs : List V), VsRel Γ.K H' (Al Γ.rs π' S') π' ds vs → VsRel Γ.K H2 al2 π' ds vs) := by
      intro al2 hal H2 hH2
      have tupk : ∀ b xs, TupAt Γ.K H' (Al Γ.rs π' S') b xs → TupAt Γ.K H2 al2 b xs := fun b xs t => by
        rcases t with ⟨ob, h, e, n⟩ | t
        · have hb : b ≠ a := fun z => by rw [z, ha'] at h; cases h
          exact .inl ⟨ob, by rw [hH2 b hb]; exact h, e, fun z => by rcases hal b z with z | z; exact n z; exact hb z⟩
        · exact .inr t
      have lstk : ∀ b xs, LstAt H' (Al Γ.rs π' S') b xs → LstAt H2 al2 b xs := fun b xs t => by
        obtain ⟨t, n⟩ := t
        have hb : b ≠ a := fun z => by
          subst z
          rcases t with t | ⟨o, t⟩
          · rw [ha'] at t; cases t
          · rw [ha'] at t; cases t
        refine ⟨?_, fun z => by rcases hal b z with z | z; exact n z; exact hb z⟩
        rcases t with t | ⟨o, t⟩
        · exact .inl (by rw [hH2 b hb]; exact t)
        · exact .inr ⟨o, by rw [hH2 b hb]; exact t⟩
      have both : ∀ n : Nat, (∀ (d : D) (v : V), sizeOf d < n → VRel Γ.K H' (Al Γ.rs π' S') π' d v → VRel Γ.K H2 al2 π' d v) ∧ (∀ (ds : List D) (vs : List V), sizeOf ds < n → VsRel Γ.K H' (Al Γ.rs π' S') π' ds vs → VsRel Γ.K H2 al2 π' ds vs) := by
        intro n
        induction n with
        | zero => exact ⟨fun d v h => absurd h (Nat.not_lt_zero _), fun d v h => absurd h (Nat.not_lt_zero _)⟩
        | succ n ih =>
          obtain ⟨ih1, ih2⟩ := ih
          refine ⟨fun d v hn r => ?_, fun ds vs hn r => ?_⟩
          · cases d with
            | non => simpa only [VRel] using r
            | bl b => simpa only [VRel] using r
            | int b => simpa only [VRel] using r
            | str b => simpa only [VRel] using r
            | tup ds =>
              simp only [VRel] at r ⊢
              obtain ⟨b, xs, e, t, q⟩ := r
              exact ⟨b, xs, e, tupk b xs t, ih2 ds xs (by simp at hn; omega) q⟩
            | lst ds =>
              simp only [VRel] at r ⊢
              obtain ⟨b, xs, e, t, q⟩ := r
              exact ⟨b, xs, e, lstk b xs t, ih2 ds xs (by simp at hn; omega) q⟩
            | kls ds =>
              simp only [VRel] at r ⊢
              obtain ⟨b, xs, e, t, q⟩ := r
              exact ⟨b, xs, e, t.imp (lstk b xs) id, ih2 ds xs (by simp at hn; omega) q⟩
            | dct ks vs => simp only [VRel] at r
            | ref j => simpa only [VRel] using r
          · cases ds with
            | nil => simpa only [VsRel] using r
            | cons d ds =>
              simp only [VsRel] at r ⊢
              obtain ⟨v, rr, e, r1, r2⟩ := r
              exact ⟨v, rr, e, ih1 d v (by simp at hn; omega) r1, ih2 ds rr (by simp at hn; omega) r2⟩
      exact ⟨fun d v r => (both (sizeOf d + 1)).1 d v (Nat.lt_succ_self _) r, fun ds vs r => (both (sizeOf ds + 1)).2 ds vs (Nat.lt_succ_self _) r⟩
    obtain ⟨vm, vsm⟩ := vmono _ more (upd H' a (.dK ks)) fun b hb => upd_ne hb
    have kvm : ∀ (fs : List (D × D)) (gs : List (Key × V)), KvRel Γ.K H' (Al Γ.rs π' S') π' fs gs → KvRel Γ.K (upd H' a (.dK ks)) (Al Γ.rs π' (S'.set i (.dct false kvs'))) π' fs gs := by
      intro fs
      induction fs with
      | nil => intro gs h; exact h
      | cons p fs ih =>
        intro gs h
        obtain ⟨y, v, ks', e, e1, r1, r2⟩ := h
        exact ⟨y, v, ks', e, e1, vm _ _ r1, ih _ r2⟩
    refine ⟨⟨by simp [g'.len], g'.nd, fun j b w hj hw => ?_, fun b h => ?_, fun b h => ?_, g'.rsN⟩, kk, vm⟩
    · by_cases h : i = j
      · subst h
        rw [pa'] at hj
        cases hj
        rw [List.getElem?_set_self il'] at hw
        cases hw
        exact ⟨ks, upd_same, kvm _ _ q'⟩
      · rw [List.getElem?_set_ne h] at hw
        have nb : b ≠ a := fun z => by subst z; exact h (nd_ix g'.nd pa' hj)
        have ro := g'.obj j b w hj hw
        cases w with
        | lst ds =>
          obtain ⟨xs, h1, h2⟩ := ro
          exact ⟨xs, by rw [upd_ne nb]; exact h1, vsm _ _ h2⟩
        | dct lk kv2 =>
          obtain ⟨k2, h1, h2⟩ := ro
          refine ⟨k2, ?_, kvm _ _ h2⟩
          rw [upd_ne nb]
          exact h1
        | dtt kv2 => exact ro.elim
        | ins c fs =>
          obtain ⟨dx, gs, h1, h2⟩ := ro
          exact ⟨dx, gs, by rw [upd_ne nb]; exact h1, h2.1, vsm _ _ h2.2⟩
        | gone => trivial
    · by_cases h' : b = a
      · exact ⟨_, by rw [h']; exact upd_same⟩
      · obtain ⟨w, z⟩ := g'.trk b h
        exact ⟨w, by rw [upd_ne h']; exact z⟩
    · by_cases h' : b = a
      · exact ⟨_, by rw [h']; exact upd_same⟩
      · obtain ⟨w, z⟩ := g'.rsT b h
        exact ⟨w, by rw [upd_ne h']; exact z⟩
theorem unlock_at {i : Nat} {S' S1 : Sto} (h : unlock i S' = some S1) : ∃ kvs, S'[i]? = some (.dct true kvs) ∧ S1 = S'.set i (.dct false kvs) := by
  unfold unlock at h
  split at h
  · rename_i kvs e
    exact ⟨kvs, e, (Option.some.inj h).symm⟩
  · cases h
/-- what a locked state gives: the state ahead of it, and how it is left -/
theorem Rel.lock {ρ : Env} {σ : L2.St} (x : Rel Γ π ρ S σ H) {i : Nat} {kvs : List (D × D)} (es : S[i]? = some (.dct false kvs)) :
    ∃ a ks, H a = some (.dK ks) ∧ ∀ od, Rel Γ π ρ (S.set i (.dct true kvs)) σ (upd H a (.frz od (.dK ks))) ∧ Kp Γ π S H π (S.set i (.dct true kvs)) (upd H a (.frz od (.dK ks))) ∧
      ∀ π' S' H' kvs', Kp Γ π (S.set i (.dct true kvs)) (upd H a (.frz od (.dK ks))) π' S' H' → GRel Γ π' S' H' → S'[i]? = some (.dct true kvs') → H' a = some (.frz od (.dK ks)) ∧ GRel Γ π' (S'.set i (.dct false kvs')) (upd H' a (.dK ks)) ∧
        Kp Γ π S H π' (S'.set i (.dct false kvs')) (upd H' a (.dK ks)) ∧ ∀ d v, VR Γ π' S' H' d v → VR Γ π' (S'.set i (.dct false kvs')) (upd H' a (.dK ks)) d v := by
  obtain ⟨a, pa⟩ := x.g.at_ es
  obtain ⟨ks, hk, rest⟩ := x.g.lock pa es
  refine ⟨a, ks, hk, fun od => ?_⟩
  obtain ⟨g1, k0, un⟩ := rest od
  refine ⟨⟨g1, x.len, fun j d e => ?_⟩, k0, fun π' S' H' kvs' k' g' e' => ?_⟩
  · obtain ⟨v, e', r⟩ := x.vars j d e
    exact ⟨v, e', VRel.mono k0 _ _ r⟩
  · obtain ⟨ha, un⟩ := un π' S' H' k'
    exact ⟨ha, un kvs' g' e'⟩
theorem ds_lock (C : Ct X Γ W k) {f : Ev} {st : Stmt} {b : Ex} (h : DS X Γ W st b) : DS X Γ W st (sLock f b) := by
  have two : PS X st (fun E σ H => tS Γ W b E σ H ∨ tLock (tS Γ W b) E σ H) := ⟨fun pins s σ H E I q => q.elim (h.run pins s σ H E I) ((ps_lock h).run pins s σ H E I)⟩
  refine PSimp two fun E σ H ⟨ρ, S, π, x, p⟩ => ?_
  unfold sLock at p
  split at p
  · rename_i i S0 ef
    split at p
    · rename_i kvs es
      obtain ⟨a, ks, hk, rest⟩ := x.lock es
      refine .inr ⟨a, _, hk, trivial, fun od => ?_⟩
      obtain ⟨x1, k0, un⟩ := rest od
      refine ⟨ρ, S.set i (.dct true kvs), π, x1, ?_⟩
      have fin : ∀ ρ' S' σ' π' H', Rel Γ π' ρ' S' σ' H' → Kp Γ π (S.set i (.dct true kvs)) (upd H a (.frz od (.dK ks))) π' S' H' → ∀ S1, unlock i S' = some S1 → H' a = some (.frz od (.dK ks)) ∧ Rel Γ π' ρ' S1 σ' (upd H' a (.dK ks)) ∧ Kp Γ π S H π' S1 (upd H' a (.dK ks)) := by
        intro ρ' S' σ' π' H' x' k' S1 hu
        obtain ⟨kvs', e', rfl⟩ := unlock_at hu
        obtain ⟨ha, g2, k2, vm⟩ := un π' S' H' kvs' k' x'.g e'
        refine ⟨ha, ⟨g2, x'.len, fun j d e => ?_⟩, k2⟩
        obtain ⟨v, e2, r⟩ := x'.vars j d e
        exact ⟨v, e2, vm _ _ r⟩
      cases eb : b ρ (S.set i (.dct true kvs)) with
      | nx ρ1 S1 =>
        rw [eb] at p
        intro σ' π' H' x' k'
        cases eu : unlock i S1 with
        | none => simp only [Out.unlock, eu] at p; exact p.elim
        | some S2 =>
          simp only [Out.unlock, eu] at p
          obtain ⟨f1, f2, f3⟩ := fin _ _ _ _ _ x' k' S2 eu
          exact ⟨f1, p σ' π' _ f2 f3⟩
      | rt d S1 =>
        rw [eb] at p
        intro v π' H' g' k' r
        cases eu : unlock i S1 with
        | none => simp only [Out.unlock, eu] at p; exact p.elim
        | some S2 =>
          simp only [Out.unlock, eu] at p
          obtain ⟨kvs', e', rfl⟩ := unlock_at eu
          obtain ⟨ha, g2, k2, vm⟩ := un π' S1 H' kvs' k' g' e'
          exact ⟨ha, p v π' _ g2 k2 (vm _ _ r)⟩
      | bk ρ1 S1 =>
        rw [eb] at p
        intro σ' π' H' x' k'
        cases eu : unlock i S1 with
        | none => simp only [Out.unlock, eu] at p; exact p.elim
        | some S2 =>
          simp only [Out.unlock, eu] at p
          obtain ⟨f1, f2, f3⟩ := fin _ _ _ _ _ x' k' S2 eu
          exact ⟨f1, p σ' π' _ f2 f3⟩
      | ct ρ1 S1 =>
        rw [eb] at p
        intro σ' π' H' x' k'
        cases eu : unlock i S1 with
        | none => simp only [Out.unlock, eu] at p; exact p.elim
        | some S2 =>
          simp only [Out.unlock, eu] at p
          obtain ⟨f1, f2, f3⟩ := fin _ _ _ _ _ x' k' S2 eu
          exact ⟨f1, p σ' π' _ f2 f3⟩
      | ex c ρ1 S1 =>
        rw [eb] at p
        exact fun σ' π' H' x' k' => p σ' π' H' x' (k0.trans k')
      | bad => rw [eb] at p; exact p.elim
    · exact .inl ⟨ρ, S, π, x, p⟩
    · exact p.elim
  · exact p.elim
theorem de_lock (C : Ct X Γ W k) {f e0 : Ev} {e : Expr} (h : DE X Γ W e e0) : DE X Γ W e (eLock f e0) := by
  refine PEimp (wp_or h (pe_lock h)) fun σ H Q ⟨ρ, S, π, x, p⟩ => ?_
  unfold eLock at p
  split at p
  · rename_i i S0 ef
    split at p
    · rename_i kvs es
      obtain ⟨a, ks, hk, rest⟩ := x.lock es
      refine .inr ⟨a, _, hk, trivial, fun od => ?_⟩
      obtain ⟨x1, k0, un⟩ := rest od
      refine ⟨ρ, S.set i (.dct true kvs), π, x1, ?_⟩
      cases eb : e0 ρ (S.set i (.dct true kvs)) with
      | bad => rw [eb] at p; exact p.elim
      | ex c S1 => rw [eb] at p; exact fun π' H' g' k' => p π' H' g' (k0.trans k')
      | ok v S1 =>
        rw [eb] at p
        dsimp only at p
        intro u π' H' g' k' r
        split at p
        · rename_i kvs' e'
          obtain ⟨ha, g2, k2, vm⟩ := un π' S1 H' kvs' k' g' e'
          exact ⟨ha, p u π' _ g2 k2 (vm _ _ r)⟩
        · exact p.elim
    · exact .inl ⟨ρ, S, π, x, p⟩
    · exact p.elim
  · exact p.elim
/-! ### the keys of a locked dict -/
theorem kv_at {K : PySem.W.Frag} {al : Addr → Prop} : ∀ {fs : List (D × D)} {gs : List (Key × V)} {i : Nat} {p : D × D}, KvRel K H al π fs gs → fs[i]? = some p → ∃ ky v, gs[i]? = some (ky, v) ∧ p.1 = kD ky
  | [], gs, i, p, h, e => by simp at e
  | q :: fs, gs, 0, p, h, e => by
    obtain ⟨ky, v, ks', rfl, e1, r1, r2⟩ := h
    simp at e
    subst e
    exact ⟨ky, v, rfl, e1⟩
  | q :: fs, gs, i + 1, p, h, e => by
    obtain ⟨ky, v, ks', rfl, e1, r1, r2⟩ := h
    obtain ⟨ky2, v2, z1, z2⟩ := kv_at (i := i) r2 (by simpa using e)
    exact ⟨ky2, v2, by simpa using z1, z2⟩
theorem kv_len {K : PySem.W.Frag} {al : Addr → Prop} : ∀ {fs : List (D × D)} {gs : List (Key × V)}, KvRel K H al π fs gs → fs.length = gs.length
  | [], gs, h => by have : gs = [] := h; subst this; rfl
  | q :: fs, gs, h => by
    obtain ⟨ky, v, ks', rfl, e1, r1, r2⟩ := h
    simp [kv_len r2]
theorem di_keys (C : Ct X Γ W k) {tg e : Expr} {f : Ev} (h : DE X Γ W e f) : DI X Γ W tg e (iKeys f) := by
  refine PIimp (pi_keys h) fun σ H Q h => tI.first h fun d v H1 ρ S1 π1 x r p => ?_
  cases d <;> try exact p.elim
  rename_i i
  dsimp only at p
  split at p
  · rename_i kvs es
    simp only [relD, VRel] at r
    obtain ⟨a, rfl, pa⟩ := r
    obtain ⟨ks, hk, q⟩ := x.g.obj i a _ pa es
    obtain ⟨od, hk⟩ : ∃ od, H1 a = some (.frz od (.dK ks)) := by rw [if_pos rfl] at hk; exact hk
    have notal : ¬ Al Γ.rs π1 S1 a := fun z => by
      rcases z with z | ⟨j, o, hj, ho, hg⟩
      · exact x.g.rsN a z (List.mem_of_getElem? pa)
      · have : i = j := nd_ix x.g.nd pa hj
        subst this
        rw [es] at ho
        cases ho
        cases hg
    refine ⟨a, od, rfl, .inl ⟨ks, hk, PostI.okI x.g (J := Itk a od ks) ?_ p⟩⟩
    intro m rs' π2 S2 H2 g2 k2 _
    have h2 : H2 a = some (.frz od (.dK ks)) := k2.obj a _ hk notal
    refine ⟨fun d hd => ?_, fun em => ⟨h2, ?_⟩⟩
    · rw [List.getElem?_map] at hd
      cases ek : kvs[m]? with
      | none => rw [ek] at hd; cases hd
      | some p2 =>
        rw [ek] at hd
        cases hd
        obtain ⟨ky, v2, z1, z2⟩ := kv_at q ek
        refine ⟨⟨h2, (List.getElem?_eq_some_iff.mp z1).1⟩, fun y H' ⟨e1, ky', v', z3, z4⟩ => ?_⟩
        subst e1
        refine ⟨g2, Keep.refl, ?_⟩
        rw [z1] at z3
        cases z3
        show VRel _ _ _ _ p2.1 y
        rw [z2, z4]
        cases ky with
        | inl n => show VRel _ _ _ _ _ _; simp only [kD, kV, VRel]
        | inr n => show VRel _ _ _ _ _ _; simp only [kD, kV, VRel]
    · have := kv_len q
      rw [List.length_map] at em
      omega
  · exact p.elim
/-! ### more of lists -/
theorem mt_indexQ (C : Ct X Γ W k) : MtR X "list.index" (rIndexD Γ.K) := by
  have := mt_indexD (X := X) (by have := C.room.un; omega)
  rw [C.K] at this
  exact this
def rExtQ : V → List V → Hp → VK → Prop := fun x vs H Q => ∃ l b xs zs, x = .ref l ∧ vs = [.ref b] ∧ H l = some (.lst xs) ∧ Rd H b (.lst zs) ∧ xs.length + zs.length ≤ sizeLine ∧ Q .non (upd H l (.lst (xs ++ zs)))
theorem mt_extendQ : MtR X "list.extend" rExtQ := by
  intro pins s σ H x vs v us Q I rx rv h
  obtain ⟨l, b, xs, zs, rfl, rfl, hH, hB, hz, q⟩ := h
  cases rx
  obtain ⟨u, rfl, ru⟩ := rv.one
  cases ru
  obtain ⟨z, i1, n1, r1, hl1, e1⟩ := I.lstM hH
  obtain ⟨z2, i2, n2, r2, e2⟩ := hB.ok I.hok
  have l2 := r2.length
  have hsz : i1.toArray.size + i2.toArray.size ≤ sizeLine := by simp only [List.size_toArray]; omega
  have hlong : ¬ (!i1.toArray.isEmpty && Builtin.List.listTooLong (i1.toArray.size + i2.toArray.size)) = true := by
    rw [notLongL hsz, Bool.and_false]
    decide
  refine call_meets PySem.F.slot_list_extend ⟨_, e1, rfl⟩ PySem.F.entry_list_extend (PySem.F.args_list_extend_2 _ _) (AutoSeq1.list_extend_list_list_0 l i1.toArray n1 b i2.toArray n2 hlong (by simp only [List.size_toArray] at hsz ⊢; omega) (by omega)) ⟨e1, e2, ?_⟩
  exact ⟨.non, _, I.lset (its' := i1 ++ i2) hH e1 (by simp) (r1.append r2) (by rw [List.length_append]; omega), rfl, q⟩
theorem md_extend : MD Γ rExtQ mExtend := by
  intro W σ π S H d ds x vs Q g r1 r2 p
  unfold mExtend at p
  split at p
  · rename_i i es
    obtain ⟨y, rfl, ry⟩ := VsR_one r2
    simp only [VRel] at r1 ry
    obtain ⟨a, rfl, pa⟩ := r1
    obtain ⟨b, zs, rfl, hb, qz⟩ := ry
    split at p
    · rename_i ds he
      split at p
      · rename_i hl
        obtain ⟨xs, hx, q⟩ := g.obj i a _ pa he
        exact ⟨a, b, xs, zs, rfl, rfl, hx, hb.1, by rw [lineEq, ← VsRel.length q, ← VsRel.length qz]; exact hl, put_lst g pa he rfl (VsRel.append q qz) VR_non p⟩
      · exact p.elim
    · exact p.elim
  · exact p.elim
theorem de_rgL2 (C : Ct X Γ W k) {e e2 : Expr} {f f2 : Ev} {p p2 pos pos2 : Pos} (hg : Gl X "list") (hm : X.mg "list" = none) (hg2 : Gl X "range") (hm2 : X.mg "range" = none) (h : DE X Γ W e f) (h2 : DE X Γ W e2 f2) (na : starEach [e, e2] X.env = (false, eval e X.env) :: starEach [e2] X.env := by rfl)
    (na2 : starEach [e2] X.env = (false, eval e2 X.env) :: starEach [] X.env := by rfl) (na3 : (backTo pos2 (starEach [e2] X.env)).any (·.1) = false := by rfl)
    (nb : starEach [.Call (.Name "range" p2) [e, e2] [] pos2] X.env = (false, eval (.Call (.Name "range" p2) [e, e2] [] pos2) X.env) :: starEach [] X.env := by rfl) : DE X Γ W (.Call (.Name "list" p) [.Call (.Name "range" p2) [e, e2] [] pos2] [] pos) (eRgL2 f f2) := by
  refine PEimp (pe_listRg C.calm hg hm (prg_2 hg2 hm2 h h2 na na2 na3) nb) fun σ H Q h => tG.first h fun d v H1 ρ S1 π1 x r p => ?_
  refine ⟨ρ, S1, π1, x, PostR.bind p fun d2 S2 v2 π2 H2 g2 k2 r2 p2 => ?_⟩
  have r' := VRel.mono k2 _ _ r
  clear r
  cases d <;> try exact p2.elim
  cases d2 <;> try exact p2.elim
  rename_i i j
  simp only [relD, VRel] at r' r2
  dsimp only at p2
  split at p2
  · rename_i hn
    refine ⟨i, j, r', r2, ⟨?_, ?_, ?_, ?_, hn.2.2.2.2⟩, ?_⟩
    · omega
    · omega
    · omega
    · omega
    · exact post_lst g2 (upto_rg i j) p2
  · exact p2.elim
/-- a list times nothing or once -/
def rRepQ : R2 := fun x y H Q => ∃ l n xs, x = .ref l ∧ y = .int n ∧ Rd H l (.lst xs) ∧ 0 ≤ n ∧ n ≤ 1 ∧ xs.length ≤ sizeLine ∧ ∀ p, H p = none → Q (.ref p) (upd H p (.lst (List.replicate n.toNat xs).flatten))
theorem op_repQ : OpR X (binaryOp .Mult) rRepQ := by
  intro pins s σ H x y v u Q I rx ry h
  obtain ⟨l, n, xs, rfl, rfl, hH, n0, n1, hz, q⟩ := h
  cases rx
  obtain ⟨t, rfl⟩ := ry
  obtain ⟨z, i1, c1, r1, e1⟩ := hH.ok I.hok
  have l1 := r1.length
  have sz : i1.toArray.size ≤ sizeLine := by simp only [List.size_toArray]; omega
  have hn : n.toNat ≤ 1 := by omega
  have hs : i1.toArray.size * n.toNat ≤ sizeLine := Nat.le_trans (Nat.mul_le_mul_left _ hn) (by omega)
  have a1 : ¬ i1.toArray.size * n.toNat > (2 ^ 63 - 1) / 8 := fun z => by
    have : (sizeLine : Nat) ≤ (2 ^ 63 - 1) / 8 := by decide
    omega
  have a2 : ¬ (!Builtin.List.listFitsIndex n) = true := by rw [fitsIndex_both (by omega) (by omega)]; decide
  have a3 : ¬ Builtin.List.listTooLong (i1.toArray.size * n.toNat) = true := by rw [notLongL hs]; decide
  have new : List.foldl (fun x1 x2 => x1 ++ x2) #[] (List.replicate (if i1.toArray.isEmpty = true then 0 else n.toNat) i1.toArray) = (List.replicate n.toNat i1).flatten.toArray := by
    have f0 : ∀ m : Nat, List.foldl (fun x1 x2 => x1 ++ x2) #[] (List.replicate m i1.toArray) = (List.replicate m i1).flatten.toArray := fun m => by
      simpa using foldl_rep i1 m []
    rw [f0]
    cases i1 with
    | nil => simp
    | cons a r' => simp
  refine wpAny_binaryOp_repeat_ref (T := "list") (U := "int") (by decide) ⟨_, e1, rfl⟩ (fun s' => typeIs_int s' n t) noFill_list_mul PySem.F.fills_int_mul PySem.F.slot_int_rmul repeat_list PySem.F.slot_int_index.lookup (call_meets PySem.F.slot_int_rmul (typeIs_int s n t) PySem.F.entry_int_rmul (PySem.F.args_int_rmul_2 _ _)
      (int___rmul___int_list n t l i1.toArray c1) ⟨e1, rfl, ⟨_, e1, rfl⟩, call_meets PySem.F.slot_list_mul ⟨_, e1, rfl⟩ PySem.F.entry_list_mul (PySem.F.args_list_mul_2 _ _) (AutoListH.list___mul___list_int_3 l i1.toArray c1 n t a2 a1 a3) ⟨e1, ?_⟩⟩)
  rw [new]
  exact ⟨.ref _, _, I.lnew (t' := s.toks) (r1.rep n.toNat) (by rw [PyProof.Rows.lm_len_rep_flat]; simp only [List.size_toArray] at hs; rw [Nat.mul_comm, l1]; exact hs), rfl, q _ I.fresh⟩
theorem VsRel.rep {K : PySem.W.Frag} {al : Addr → Prop} {ds : List D} {xs : List V} (h : VsRel K H al π ds xs) : ∀ n : Nat, VsRel K H al π (List.replicate n ds).flatten (List.replicate n xs).flatten
  | 0 => VsRel.nil
  | n + 1 => by
    rw [List.replicate_succ, List.replicate_succ, List.flatten_cons, List.flatten_cons]
    exact VsRel.append h (VsRel.rep h n)
theorem od_rep : OpD Γ rRepQ gMulL := by
  intro W σ π S H a b x y Q g r1 r2 p
  unfold gMulL at p
  split at p
  · rename_i n
    split at p
    · rename_i ds he
      split at p
      · rename_i hn
        obtain ⟨l, xs, rfl, t, q⟩ := litems_ref g r1 he
        simp only [VRel] at r2
        exact ⟨l, n, xs, rfl, r2, t, hn.1, hn.2.1, by rw [lineEq, ← VsRel.length q]; exact hn.2.2, post_lst g (VsRel.rep q _) p⟩
      · exact p.elim
    · exact p.elim
  · exact p.elim
/-- a dict == one without pairs -/
def rEqE : R2 := fun x y H Q => ∃ a b ks, x = .ref a ∧ y = .ref b ∧ H a = some (.dK ks) ∧ H b = some (.dK []) ∧ Q (.bl ks.isEmpty) H
theorem op_eqEQ (hu : X.A.units < cLine) : OpR X (compareOp .Eq) rEqE := by
  intro pins s σ H x y v u Q I rx ry h
  obtain ⟨a, b, ks, rfl, rfl, ea, eb, q⟩ := h
  have e1 : v = Value.ref a := rx
  have e2 : u = Value.ref b := ry
  subst e1 e2
  obtain ⟨_, ya, va, ra, da⟩ := (show ObjOk X.prog X.w H s.heap a (.dK ks) from I.hok a _ ea)
  obtain ⟨_, yb, vb, rb, db⟩ := (show ObjOk X.prog X.w H s.heap b (.dK []) from I.hok b _ eb)
  have lb : vb.length = 0 := by rw [← rb.length]; rfl
  have la := ra.length
  refine PySem.W.keq_eq (knd := mixKind X.prog X.w) (r := true) ya yb da db hu (fun hl => ?_) ?_
  · have : va = [] := List.length_eq_zero_iff.mp (by omega)
    subst this
    exact .nil
  · refine ⟨.bl ks.isEmpty, H, I, ?_, q⟩
    cases ks with
    | nil =>
      have : va = [] := List.length_eq_zero_iff.mp (by simpa using la.symm)
      subst this
      have : vb = [] := List.length_eq_zero_iff.mp lb
      subst this
      rfl
    | cons p ks =>
      cases va with
      | nil => simp at la
      | cons q va =>
        have : vb = [] := List.length_eq_zero_iff.mp lb
        subst this
        rfl
theorem od_eqE : OpD Γ rEqE gEqE := by
  intro W σ π S H a b x y Q g r1 r2 p
  unfold gEqE at p
  split at p
  · rename_i i j
    simp only [VRel] at r1 r2
    obtain ⟨a, rfl, pa⟩ := r1
    obtain ⟨b, rfl, pb⟩ := r2
    split at p
    · rename_i kvs e1 e2
      obtain ⟨ks, h1, q1⟩ := g.obj i a _ pa e1
      obtain ⟨k2, h2, q2⟩ := g.obj j b _ pb e2
      have h1 : H a = some (.dK ks) := h1
      have h2 : H b = some (.dK k2) := h2
      have e3 : k2 = [] := q2
      subst e3
      have l := kv_len q1
      have em : kvs.isEmpty = ks.isEmpty := by cases kvs <;> cases ks <;> simp at l ⊢
      refine ⟨a, b, ks, rfl, rfl, h1, h2, ?_⟩
      rw [← em]
      exact PostR.okI (rel := relD Γ) g VR_bl p
    · exact p.elim
  · exact p.elim
end
end Mp

/-! MpW3: loops and comprehensions over lists that are known by their parts. -/
namespace Mp
open PySem
/-- nothing that stood is changed -/
def Ext (S S' : Sto) : Prop := S.length ≤ S'.length ∧ ∀ i, i < S.length → S'[i]? = S[i]?
theorem Ext.refl {S : Sto} : Ext S S := ⟨Nat.le_refl _, fun _ _ => rfl⟩
theorem Ext.trans {S S1 S2 : Sto} (h : Ext S S1) (h' : Ext S1 S2) : Ext S S2 := ⟨Nat.le_trans h.1 h'.1, fun i hi => (h'.2 i (Nat.lt_of_lt_of_le hi h.1)).trans (h.2 i hi)⟩
theorem Ext.push {S : Sto} {o : O} : Ext S (S ++ [o]) := ⟨by simp, fun i hi => List.getElem?_append_left hi⟩
theorem Ext.set {S S' : Sto} {i : Nat} {o : O} (h : Ext S S') (hi : S.length ≤ i) : Ext S (S'.set i o) := ⟨by simpa using h.1, fun j hj => by rw [List.getElem?_set_ne (by omega)]; exact h.2 j hj⟩
theorem Ext.get {S S' : Sto} {i : Nat} {o : O} (h : Ext S S') (e : S[i]? = some o) : S'[i]? = some o := (h.2 i (List.getElem?_eq_some_iff.mp e).1).trans e
theorem Ext.of_eq {S S' : Sto} (h : S' = S) : Ext S S' := h ▸ Ext.refl
theorem map_at {α : Type} {xs : List α} {enc : α → D} {i : Nat} {d : D} (h : (xs.map enc)[i]? = some d) : ∃ a, xs[i]? = some a ∧ d = enc a := by
  rw [List.getElem?_map] at h
  cases e : xs[i]? with
  | none => rw [e] at h; cases h
  | some a => rw [e] at h; exact ⟨a, rfl, (Option.some.inj h).symm⟩
section
variable {QD : D → Sto → Prop} {E : Nat → Sto → Prop} {S : Sto} {ρ : Env} {P : Po}
/-- a comprehension over known items: those of p, each by f -/
theorem comp_of_list {α : Type} {it : Ei} {tg : Tg} {t : Et} {e : Ev} {own : List Nat} (xs : List α) (enc : α → D) (p : α → Bool) (f : α → D)
    (hit : (it ρ S).sat (fun w S1 => w = ⟨xs.map enc, []⟩ ∧ Ext S S1) (fun _ _ => False)) (hl : xs.length ≤ line)
    (hs : ∀ a ∈ xs, ∀ S1, Ext S S1 → ∃ ρ1, tg.asg (enc a) S1 (wipe ρ own) = some ρ1 ∧ (t ρ1 S1).sat (fun c S2 => Ext S S2 ∧ c = p a ∧ (p a = true → (e ρ1 S2).sat (fun x S3 => Ext S S3 ∧ x = f a) (fun _ _ => False))) (fun _ _ => False))
    (q : ∀ S', Ext S S' → QD (.lst ((xs.filter p).map f)) S') : (eComp it tg t e own ρ S).sat QD E := by
  -- the items, each with what it gives
  have main : ∀ (ys : List α) (acc : List D) (S1 : Sto), (∀ a ∈ ys, a ∈ xs) → acc.length + ys.length ≤ line → Ext S S1 →
      (cLoop tg t e ⟨xs.map enc, []⟩ (wipe ρ own) (ys.map enc) acc S1).sat (fun zs S2 => Ext S S2 ∧ zs = acc ++ (ys.filter p).map f) (fun _ _ => False) := by
    intro ys
    induction ys with
    | nil =>
      intro acc S1 _ _ h1
      have st : (⟨xs.map enc, []⟩ : Wk).still S1 := by simp
      simp only [List.map_nil]
      unfold cLoop
      rw [if_pos st]
      exact ⟨h1, by simp⟩
    | cons a ys ih =>
      intro acc S1 hm hlen h1
      obtain ⟨ρ1, e1, h2⟩ := hs a (hm a List.mem_cons_self) S1 h1
      simp only [List.map_cons]
      have st : (⟨xs.map enc, []⟩ : Wk).still S1 := by simp
      unfold cLoop
      rw [if_pos st, e1]
      dsimp only
      cases et : t ρ1 S1 with
      | bad => rw [et] at h2; exact h2.elim
      | ex c S2 => rw [et] at h2; exact h2.elim
      | ok c S2 =>
        rw [et] at h2
        obtain ⟨x2, rfl, h3⟩ := h2
        have hlen : acc.length + (ys.length + 1) ≤ line := hlen
        cases hp : p a with
        | false =>
          dsimp only
          rw [List.filter_cons_of_neg (by simp [hp])]
          exact ih acc S2 (fun b hb => hm b (List.mem_cons_of_mem _ hb)) (by omega) x2
        | true =>
          have h3 := h3 hp
          dsimp only
          cases ee : e ρ1 S2 with
          | bad => rw [ee] at h3; exact h3.elim
          | ex c S3 => rw [ee] at h3; exact h3.elim
          | ok x S3 =>
            rw [ee] at h3
            obtain ⟨x3, rfl⟩ := h3
            dsimp only
            rw [if_pos (by omega), List.filter_cons_of_pos hp, List.map_cons]
            refine (ih (acc ++ [f a]) S3 (fun b hb => hm b (List.mem_cons_of_mem _ hb)) (by rw [List.length_append]; simp only [List.length_cons, List.length_nil]; omega) x3).mono (fun zs S4 h => ?_) fun _ _ z => z
            exact ⟨h.1, by rw [h.2]; simp⟩
  unfold eComp
  simp only [sat_bind, sat_ok]
  refine hit.mono (fun w S1 ⟨ew, h1⟩ => ?_) fun _ _ z => z.elim
  subst ew
  refine (main xs [] S1 (fun a h => h) (by simpa using hl) h1).mono (fun zs S2 ⟨h2, ez⟩ => ?_) fun _ _ z => z.elim
  rw [ez]
  exact q S2 h2
/-- all of them -/
theorem comp_of_map {α : Type} {it : Ei} {tg : Tg} {e : Ev} {own : List Nat} (xs : List α) (enc : α → D) (f : α → D)
    (hit : (it ρ S).sat (fun w S1 => w = ⟨xs.map enc, []⟩ ∧ Ext S S1) (fun _ _ => False)) (hl : xs.length ≤ line)
    (hs : ∀ a ∈ xs, ∀ S1, Ext S S1 → ∃ ρ1, tg.asg (enc a) S1 (wipe ρ own) = some ρ1 ∧ (e ρ1 S1).sat (fun x S3 => Ext S S3 ∧ x = f a) (fun _ _ => False))
    (q : ∀ S', Ext S S' → QD (.lst (xs.map f)) S') : (eComp it tg tYes e own ρ S).sat QD E :=
  comp_of_list xs enc (fun _ => true) f hit hl (fun a ha S1 h1 => let ⟨ρ1, e1, h⟩ := hs a ha S1 h1; ⟨ρ1, e1, by simp only [tYes_sat]; exact ⟨h1, trivial, fun _ => h⟩⟩) (fun S' h => by rw [List.filter_eq_self.mpr (fun _ _ => rfl)]; exact q S' h)
/-- for over known items -/
theorem for_of_list {α : Type} {it : Ei} {tg : Tg} {b : Ex} (xs : List α) (enc : α → D) {S0 : Sto} (hit : (it ρ S).sat (fun w S1 => w = ⟨xs.map enc, []⟩ ∧ S1 = S0) (fun _ _ => False)) (Pv : Nat → Env → Sto → Prop) (h0 : Pv 0 ρ S0)
    (hs : ∀ i a ρ S, xs[i]? = some a → i < xs.length → Pv i ρ S → ∃ ρ1, tg.asg (enc a) S ρ = some ρ1 ∧ (b ρ1 S).sat { P with nx := Pv (i + 1), ct := Pv (i + 1), bk := P.nx }) (he : ∀ ρ S, Pv xs.length ρ S → P.nx ρ S) : (sFor it tg b ρ S).sat P := by
  refine sFor_of (w := ⟨xs.map enc, []⟩) (S0 := S0) hit Pv h0 (fun _ _ _ _ => by simp) (fun i d ρ S hd hP => ?_) (fun ρ S hP => he ρ S (by simpa using hP))
  obtain ⟨a, ha, rfl⟩ := map_at hd
  exact hs i a ρ S ha (List.getElem?_eq_some_iff.mp ha).1 hP
/-- for over items that a call gives -/
theorem for_of_call {α : Type} {it : Ei} {tg : Tg} {b : Ex} (xs : List α) (enc : α → D) (hit : ∀ (QW : Wk → Sto → Prop), (∀ S0, Ext S S0 → QW ⟨xs.map enc, []⟩ S0) → (it ρ S).sat QW (fun c S => P.ex c ρ S)) (Pv : Nat → Env → Sto → Prop) (h0 : ∀ S0, Ext S S0 → Pv 0 ρ S0)
    (hs : ∀ i a ρ S, xs[i]? = some a → i < xs.length → Pv i ρ S → ∃ ρ1, tg.asg (enc a) S ρ = some ρ1 ∧ (b ρ1 S).sat { P with nx := Pv (i + 1), ct := Pv (i + 1), bk := P.nx }) (he : ∀ ρ S, Pv xs.length ρ S → P.nx ρ S) : (sFor it tg b ρ S).sat P := by
  refine sFor_sat (hit _ fun S0 h => ?_)
  refine ⟨Pv, h0 S0 h, fun _ _ _ _ => by simp, fun i d ρ S hd hP => ?_, fun ρ S hP => he ρ S (by simpa using hP)⟩
  obtain ⟨a, ha, rfl⟩ := map_at hd
  exact hs i a ρ S ha (List.getElem?_eq_some_iff.mp ha).1 hP
end
mutual
theorem eqv_self : ∀ d : D, d.plain = true → D.eqv d d = true
  | .non, _ => rfl
  | .bl b, _ => by simp [D.eqv]
  | .int i, _ => by simp [D.eqv]
  | .str x, _ => by simp [D.eqv]
  | .tup ds, h => by simp only [D.eqv]; exact eqvs_self ds (by simpa only [D.plain] using h)
  | .lst ds, h => by simp only [D.eqv]; exact eqvs_self ds (by simpa only [D.plain] using h)
  | .dct _ _, h => by simp [D.plain] at h
  | .kls _, h => by simp [D.plain] at h
  | .ref _, h => by simp [D.plain] at h
theorem eqvs_self : ∀ ds : List D, D.plains ds = true → D.eqvs ds ds = true
  | [], _ => rfl
  | d :: ds, h => by
    simp only [D.plains, Bool.and_eq_true] at h
    simp only [D.eqvs, eqv_self d h.1, eqvs_self ds h.2, Bool.and_self]
end
section
variable {QD : D → Sto → Prop} {E : Nat → Sto → Prop} {S : Sto}
theorem now_plain {d : D} (h : d.plain = true) : d.now S = d := by
  cases d <;> first | rfl | simp [D.plain] at h
theorem eqB_of {a b : D} {c : Bool} (ha : a.plain = true) (hb : b.plain = true) (hd : min a.dep b.dep ≤ 60) (hc : D.eqv a b = c) : gEqB a b S = some c := by
  unfold gEqB
  rw [now_plain ha, now_plain hb, if_pos ⟨ha, hb, hd⟩, hc]
theorem eq_of {a b : D} {c : Bool} (ha : a.plain = true) (hb : b.plain = true) (hd : min a.dep b.dep ≤ 60) (hc : D.eqv a b = c) : (gEq a b S).sat QD E = QD (.bl c) S := by
  simp only [gEq, eqB_of ha hb hd hc, sat_ok]
theorem ne_of {a b : D} {c : Bool} (ha : a.plain = true) (hb : b.plain = true) (hd : min a.dep b.dep ≤ 60) (hc : D.eqv a b = c) : (gNe a b S).sat QD E = QD (.bl (!c)) S := by
  simp only [gNe, eqB_of ha hb hd hc, sat_ok]
theorem eq_self {d : D} (h : d.plain = true) (hd : d.dep ≤ 60) : (gEq d d S).sat QD E = QD (.bl true) S := eq_of h h (by omega) (eqv_self d h)
theorem ne_self {d : D} (h : d.plain = true) (hd : d.dep ≤ 60) : (gNe d d S).sat QD E = QD (.bl false) S := ne_of h h (by omega) (eqv_self d h)
theorem eq_ints {i j : Int} : (gEq (.int i) (.int j) S).sat QD E = QD (.bl (i == j)) S := eq_of rfl rfl (by simp [D.dep]) (by simp [D.eqv])
theorem ne_ints {i j : Int} : (gNe (.int i) (.int j) S).sat QD E = QD (.bl (!(i == j))) S := ne_of rfl rfl (by simp [D.dep]) (by simp [D.eqv])
theorem ints_plain (ns : List Int) : D.plains (ns.map D.int) = true := by
  induction ns with
  | nil => rfl
  | cons t ts ih => simp [D.plains, D.plain, ih]
theorem ints_dep (ns : List Int) : D.deps (ns.map D.int) = 0 := by
  induction ns with
  | nil => rfl
  | cons n ns ih => simp [D.deps, D.dep, ih]
theorem ints_eqvs : ∀ l m : List Int, D.eqvs (l.map D.int) (m.map D.int) = (l == m)
  | [], [] => rfl
  | [], _ :: _ => rfl
  | _ :: _, [] => rfl
  | a :: l, b :: m => by
    simp only [List.map_cons, D.eqvs, D.eqv, ints_eqvs l m]
    rfl
theorem lst_plain (l : List Int) : (D.lst (l.map .int)).plain = true := by simp only [D.plain]; exact ints_plain l
theorem lst_dep (l : List Int) : (D.lst (l.map .int)).dep ≤ 60 := by simp only [D.dep, ints_dep]; omega
theorem tupI_plain (l : List Int) : (D.tup (l.map .int)).plain = true := by simp only [D.plain]; exact ints_plain l
theorem tupI_dep (l : List Int) : (D.tup (l.map .int)).dep ≤ 60 := by simp only [D.dep, ints_dep]; omega
theorem bls_of (bs : List Bool) : blsOf (bs.map D.bl) = some bs := by
  induction bs with
  | nil => rfl
  | cons b bs ih => simp only [List.map_cons, blsOf, ih]; rfl
theorem anys (bs : List Bool) : (bAny [.lst (bs.map .bl)] S).sat QD E = QD (.bl (bs.any id)) S := by
  simp only [bAny, litems_lst, Option.bind_some, bls_of, sat_ok]
theorem alls (bs : List Bool) : (bAll [.lst (bs.map .bl)] S).sat QD E = QD (.bl (bs.all id)) S := by
  simp only [bAll, litems_lst, Option.bind_some, bls_of, sat_ok]
theorem sorted_ints {l : List Int} : (bSortedI [.lst (l.map .int)] S).sat QD E = QD (.lst ((sortI l).map .int)) S := by
  have e : intsOf (l.map D.int) = some l := by
    induction l with
    | nil => rfl
    | cons a l ih => simp only [List.map_cons, intsOf, ih]; rfl
  simp only [bSortedI, litems_lst, Option.bind_some, e, sat_ok]
theorem ix_nat {ds : List D} {j : Nat} {d : D} {i : Int} (hi : i = j) (hd : ds[j]? = some d) : (place ds.length i).bind (fun j => ds[j]?) = some d := by
  have hl := (List.getElem?_eq_some_iff.mp hd).1
  subst hi
  rw [place_nn (by omega) (by omega)]
  simpa using hd
theorem ixt0 {d : D} {ds : List D} : (gIx (.tup (d :: ds)) (.int 0) S).sat QD E = QD d S := by
  rw [gIx_tup, ix_nat (i := (0 : Int)) (j := 0) (d := d) rfl rfl]
theorem ixt1 {d e : D} {ds : List D} : (gIx (.tup (d :: e :: ds)) (.int 1) S).sat QD E = QD e S := by
  rw [gIx_tup, ix_nat (i := (1 : Int)) (j := 1) (d := e) rfl rfl]
theorem ixt2 {d e f : D} {ds : List D} : (gIx (.tup (d :: e :: f :: ds)) (.int 2) S).sat QD E = QD f S := by
  rw [gIx_tup, ix_nat (i := (2 : Int)) (j := 2) (d := f) rfl rfl]
theorem ixl0 {d : D} {ds : List D} : (gIx (.lst (d :: ds)) (.int 0) S).sat QD E = QD d S := by
  rw [gIx_lst, ix_nat (i := (0 : Int)) (j := 0) (d := d) rfl rfl]
end
theorem sSeq_assoc {a b c : Ex} : sSeq (sSeq a b) c = sSeq a (sSeq b c) := by
  funext ρ S
  unfold sSeq
  cases a ρ S <;> rfl
end Mp

namespace Mp
open PySem
/-! ### the mirror -/
noncomputable def b_law_draw : Ex := sSeq (sExpr (eML mAppend (eVar 1) (aCons (eC (.int 0)) (aNil)))) (sSeq (sSet 3 (eB bLen (aCons (eVar 1) (aNil)))) (sSeq (sSet 4 (eC (.int 0))) (sSeq (sIf (tTru (eVar 0)) (sSet 4 (eBin gIx (eVar 0) (eBin gMod (eVar 3) (eB bLen (aCons (eVar 0) (aNil)))))) (sNil)) (sSeq (sSet 5 (eBin gMod (eBin gAdd (eVar 4) (eBin gMul (eC (.int 104729)) (eVar 3))) (eC (.int 4294967291)))) (sSeq (sSet 5 (eBin gMod (eBin gMul (eBin gMod (eBin gMul (eVar 5) (eVar 5)) (eC (.int 4294967279))) (eC (.int 48271))) (eC (.int 4294967291)))) (sSeq (sSet 6 (eBin gMod (eBin gMul (eBin gMod (eBin gMul (eVar 5) (eVar 5)) (eC (.int 4294967279))) (eC (.int 69621))) (eC (.int 4294967291)))) (sRet (eBin gMod (eBin gAdd (eBin gMul (eBin gDiv (eVar 5) (eC (.int 64))) (eC (.int 67108864))) (eBin gDiv (eVar 6) (eC (.int 64)))) (eVar 2)))))))))
noncomputable def m_law_draw : Fn := run 7 b_law_draw
noncomputable def f_law_rows_1 : Ex := sSeq (sSet 8 (eIf (tTru (eVar 3)) (eCall (m_law_draw) (aCons (eVar 0) (aCons (eVar 1) (aCons (eBin gAdd (eVar 2) (eC (.int 2))) (aNil))))) (eBin gAdd (eBin gAdd (eVar 5) (eC (.int 1))) (eCall (m_law_draw) (aCons (eVar 0) (aCons (eVar 1) (aCons (eC (.int 3)) (aNil)))))))) (sSet 6 (eBin gAdd (eVar 6) (eTup (aCons (eTup (aCons (eVar 8) (aCons (eBin gEq (eCall (m_law_draw) (aCons (eVar 0) (aCons (eVar 1) (aCons (eC (.int 3)) (aNil))))) (eC (.int 0))) (aNil)))) (aNil)))))
noncomputable def f_law_rows_2 : Ex := sSeq (sSet 6 (eTup (aNil))) (sSeq (sFor (iRng1 (aCons (eCall (m_law_draw) (aCons (eVar 0) (aCons (eVar 1) (aCons (eC (.int 5)) (aNil))))) (aNil))) (.nm 7) (f_law_rows_1)) (sSet 4 (eBin gAdd (eVar 4) (eTup (aCons (eTup (aCons (eVar 5) (aCons (eVar 6) (aNil)))) (aNil))))))
noncomputable def b_law_rows : Ex := sSeq (sSet 4 (eTup (aNil))) (sSeq (sFor (iRng1 (aCons (eVar 2) (aNil))) (.nm 5) (f_law_rows_2)) (sRet (eVar 4)))
noncomputable def m_law_rows : Fn := run 9 b_law_rows
noncomputable def b_waits : Ex := sSeq (sSet 3 (eLstM (aNil))) (sSeq (sFor (iSeq (eB bSortedDI (aCons (eVar 0) (aNil)))) (.nm 4) (sIf (tOr (tCmp gIn (eTup (aCons (eVar 4) (aCons (eC (.bl true)) (aNil)))) (eBin gIx (eVar 0) (eVar 1))) (tAnd (tNot (tTru (eVar 2))) (tCmp gIn (eTup (aCons (eVar 4) (aCons (eC (.bl false)) (aNil)))) (eBin gIx (eVar 0) (eVar 1))))) (sExpr (eML mAppend (eVar 3) (aCons (eVar 4) (aNil)))) (sNil))) (sRet (eB bTuple (aCons (eVar 3) (aNil)))))
noncomputable def m_waits : Fn := run 5 b_waits
noncomputable def c_holders_1 : Ev := eComp (iSeq (eB bSortedDI (aCons (eVar 0) (aNil)))) (.nm 3) (tAnd (tCmp gNe (eVar 3) (eVar 1)) (tCmp gIn (eVar 1) (eCall (m_waits) (aCons (eVar 0) (aCons (eVar 3) (aCons (eVar 2) (aNil))))))) (eVar 3) [3]
noncomputable def b_holders : Ex := sRet (eB bTuple (aCons (c_holders_1) (aNil)))
noncomputable def m_holders : Fn := run 4 b_holders
noncomputable def c_strike_order_1 : Ev := eComp (iSeq (eB bSortedDI (aCons (eVar 2) (aNil)))) (.nm 4) (tCmp gEq (eCall (m_holders) (aCons (eVar 2) (aCons (eVar 4) (aCons (eC (.bl false)) (aNil))))) (eTup (aNil))) (eVar 4) [4]
noncomputable def c_strike_order_2 : Ev := eComp (iSeq (eB bSortedDI (aCons (eVar 2) (aNil)))) (.nm 4) (tCmp gEq (eCall (m_holders) (aCons (eVar 2) (aCons (eVar 4) (aCons (eC (.bl true)) (aNil))))) (eTup (aNil))) (eVar 4) [4]
noncomputable def c_strike_order_3 : Ev := eComp (iSeq (eBin gIx (eVar 2) (eVar 6))) (.nm 7) (tCmp gNe (eBin gIx (eVar 7) (eC (.int 0))) (eVar 4)) (eVar 7) [7]
noncomputable def f_strike_order_1 : Ex := sSub gSetD (eVar 2) (eVar 6) (eB bTuple (aCons (c_strike_order_3) (aNil)))
noncomputable def w_strike_order_1 : Ex := sSeq (sSet 3 (c_strike_order_1)) (sSeq (sSet 5 (c_strike_order_2)) (sSeq (sIf (tAnd (tNot (tTru (eVar 3))) (tNot (tTru (eVar 5)))) (sRaise 1) (sNil)) (sSeq (sSet 4 (eBin gIx (eBin gAdd (eVar 3) (eVar 5)) (eC (.int 0)))) (sSeq (sSet 1 (eBin gAdd (eVar 1) (eTup (aCons (eTup (aCons (eVar 4) (aCons (eCall (m_holders) (aCons (eVar 2) (aCons (eVar 4) (aCons (eC (.bl false)) (aNil))))) (aNil)))) (aNil))))) (sSeq (sFor (iSeq (eCall (m_holders) (aCons (eVar 2) (aCons (eVar 4) (aCons (eC (.bl false)) (aNil)))))) (.nm 6) (f_strike_order_1)) (sExpr (eMD mDPop (eVar 2) (aCons (eVar 4) (aNil)))))))))
noncomputable def b_strike_order : Ex := sSeq (sSet 1 (eTup (aNil))) (sSeq (sSet 2 (eB bDictM (aCons (eVar 0) (aNil)))) (sSeq (sWhile 100 (tTru (eVar 2)) (w_strike_order_1)) (sRet (eVar 1))))
noncomputable def m_strike_order : Fn := run 8 b_strike_order
noncomputable def b_law_order : Ex := sTry (sRet (eCall (m_strike_order) (aCons (eVar 0) (aNil)))) [([1], [0], sRet (eC .non))]
noncomputable def m_law_order : Fn := run 1 b_law_order
noncomputable def c_law_told_holds_1 : Ev := eComp (iSeq (eB bSortedDI (aCons (eVar 3) (aNil)))) (.nm 7) (tOr (tCmp gIn (eTup (aCons (eVar 4) (aCons (eC (.bl false)) (aNil)))) (eBin gIx (eVar 2) (eVar 7))) (tCmp gIn (eTup (aCons (eVar 4) (aCons (eC (.bl true)) (aNil)))) (eBin gIx (eVar 2) (eVar 7)))) (eVar 7) [7]
noncomputable def c_law_told_holds_2 : Ev := eComp (iSeq (eVar 5)) (.nm 7) (tYes) (eBin gIn (eTup (aCons (eVar 4) (aCons (eC (.bl true)) (aNil)))) (eBin gIx (eVar 2) (eVar 7))) [7]
noncomputable def f_law_told_holds_1 : Ex := sSeq (sExpr (eMD mDPop (eVar 3) (aCons (eVar 4) (aNil)))) (sSeq (sSet 6 (c_law_told_holds_1)) (sIf (tOr (tCmp gNe (eB bList (aCons (eVar 5) (aNil))) (eVar 6)) (tTru (eB bAny (aCons (c_law_told_holds_2) (aNil))))) (sRet (eC (.bl false))) (sNil)))
noncomputable def b_law_told_holds : Ex := sSeq (sAsg (.tp [.nm 2, .nm 3]) (eTup (aCons (eB bDictM (aCons (eVar 0) (aNil))) (aCons (eB bDictM (aCons (eVar 0) (aNil))) (aNil))))) (sSeq (sFor (iSeq (eVar 1)) (.tp [.nm 4, .nm 5]) (f_law_told_holds_1)) (sRet (eBin gEqE (eVar 3) (eDNew))))
noncomputable def m_law_told_holds : Fn := run 8 b_law_told_holds
noncomputable def c_law_bare_1 : Ev := eComp (iSeq (eVar 4)) (.nm 2) (tCmp gNe (eBin gIx (eVar 2) (eC (.int 0))) (eVar 1)) (eVar 2) [2]
noncomputable def c_law_bare_2 : Ev := eComp (iSeq (eVar 0)) (.tp [.nm 3, .nm 4]) (tCmp gNe (eVar 3) (eVar 1)) (eTup (aCons (eVar 3) (aCons (eB bTuple (aCons (c_law_bare_1) (aNil))) (aNil)))) [3, 4]
noncomputable def b_law_bare : Ex := sRet (eB bTuple (aCons (c_law_bare_2) (aNil)))
noncomputable def m_law_bare : Fn := run 5 b_law_bare
noncomputable def b_put_order : Ex := sSeq (sSet 1 (eTup (aNil))) (sSeq (sSet 2 (eB bDictM (aCons (eVar 0) (aNil)))) (sSeq (sWhile 100 (tTru (eVar 2)) (sSeq (sSet 3 (eComp (iSeq (eB bSortedDI (aCons (eVar 2) (aNil)))) (.nm 4) (tCmp gEq (eCall (m_waits) (aCons (eVar 2) (aCons (eVar 4) (aCons (eC (.bl false)) (aNil))))) (eTup (aNil))) (eVar 4) [4])) (sSeq (sSet 5 (eComp (iSeq (eB bSortedDI (aCons (eVar 2) (aNil)))) (.nm 4) (tCmp gEq (eCall (m_waits) (aCons (eVar 2) (aCons (eVar 4) (aCons (eC (.bl true)) (aNil))))) (eTup (aNil))) (eVar 4) [4])) (sSeq (sIf (tAnd (tNot (tTru (eVar 3))) (tNot (tTru (eVar 5)))) (sRaise 1) (sNil)) (sSeq (sSet 4 (eBin gIx (eBin gAdd (eVar 3) (eVar 5)) (eC (.int 0)))) (sSeq (sSet 1 (eBin gAdd (eVar 1) (eTup (aCons (eTup (aCons (eVar 4) (aCons (eCall (m_waits) (aCons (eVar 2) (aCons (eVar 4) (aCons (eC (.bl false)) (aNil))))) (aNil)))) (aNil))))) (sExpr (eMD mDPop (eVar 2) (aCons (eVar 4) (aNil)))))))))) (sRet (eVar 1))))
noncomputable def m_put_order : Fn := run 6 b_put_order
noncomputable def c_law_1 : Ev := eComp (iSeq (eVar 4)) (.tp [.nm 7, .nm 8]) (tYes) (eTup (aCons (eVar 7) (aCons (eBin gAdd (eBin gAdd (eUn gBack (eVar 8)) (eVar 8)) (eTup (aCons (eTup (aCons (eVar 7) (aCons (eC (.bl true)) (aNil)))) (aCons (eTup (aCons (eC (.int 99)) (aCons (eC (.bl true)) (aNil)))) (aNil))))) (aNil)))) [7, 8]
noncomputable def c_law_2 : Ev := eComp (iSeq (eVar 8)) (.tp [.nm 10, .nm 11]) (tYes) (eTup (aCons (eVar 10) (aCons (eC (.bl false)) (aNil)))) [10, 11]
noncomputable def c_law_3 : Ev := eComp (iSeq (eVar 4)) (.tp [.nm 7, .nm 8]) (tYes) (eTup (aCons (eVar 7) (aCons (eB bTuple (aCons (c_law_2) (aNil))) (aNil)))) [7, 8]
noncomputable def c_law_4 : Ev := eComp (iSeq (eVar 14)) (.tp [.nm 7, .nm 17]) (tYes) (eBin gNe (eVar 17) (eTup (aNil))) [7, 17]
noncomputable def c_law_5 : Ev := eComp (iSeq (eVar 14)) (.tp [.nm 7, .nm 17]) (tYes) (eVar 7) [7, 17]
noncomputable def c_law_6 : Ev := eComp (iSeq (eCall (m_put_order) (aCons (eVar 13) (aNil)))) (.tp [.nm 7, .nm 17]) (tYes) (eVar 7) [7, 17]
noncomputable def f_law_1 : Ex := sIf (tAnd (tCmp gLt (eVar 10) (eVar 3)) (tCmp gGt (eML mIndex (eVar 16) (aCons (eVar 10) (aNil))) (eML mIndex (eVar 16) (aCons (eVar 7) (aNil))))) (sRet (eC (.bl false))) (sNil)
noncomputable def f_law_2 : Ex := sFor (iSeq (eVar 8)) (.tp [.nm 10, .nm 11]) (f_law_1)
noncomputable def f_law_3 : Ex := sSeq (sSet 3 (eCall (m_law_draw) (aCons (eVar 0) (aCons (eVar 1) (aCons (eC (.int 9)) (aNil)))))) (sSeq (sSet 4 (eCall (m_law_rows) (aCons (eVar 0) (aCons (eVar 1) (aCons (eVar 3) (aCons (eC (.bl true)) (aNil))))))) (sSeq (sSet 5 (eCall (m_law_order) (aCons (eVar 4) (aNil)))) (sSeq (sSet 6 (eB bTuple (aCons (c_law_1) (aNil)))) (sSeq (sIf (tCmp gNe (eCall (m_law_order) (aCons (eVar 6) (aNil))) (eVar 5)) (sRet (eC (.bl false))) (sNil)) (sSeq (sIf (tAnd (tCmp gNotN (eVar 5) (eC .non)) (tNot (tTru (eCall (m_law_told_holds) (aCons (eVar 4) (aCons (eVar 5) (aNil))))))) (sRet (eC (.bl false))) (sNil)) (sSeq (sIf (tAnd (tTru (eVar 5)) (tCmp gNe (eCall (m_law_order) (aCons (eCall (m_law_bare) (aCons (eVar 4) (aCons (eBin gIx (eBin gIx (eVar 5) (eC (.int 0))) (eC (.int 0))) (aNil)))) (aNil))) (eSl (eVar 5) (oSome (eC (.int 1))) (oNone)))) (sRet (eC (.bl false))) (sNil)) (sSeq (sSet 9 (eB bTuple (aCons (c_law_3) (aNil)))) (sSeq (sIf (tCmp gIsN (eCall (m_law_order) (aCons (eVar 9) (aNil))) (eC .non)) (sRet (eC (.bl false))) (sNil)) (sSeq (sSet 12 (eBin gAdd (eVar 4) (eTup (aCons (eTup (aCons (eC (.int 50)) (aCons (eTup (aCons (eTup (aCons (eC (.int 51)) (aCons (eC (.bl true)) (aNil)))) (aNil))) (aNil)))) (aCons (eTup (aCons (eC (.int 51)) (aCons (eTup (aCons (eTup (aCons (eC (.int 50)) (aCons (eC (.bl true)) (aNil)))) (aNil))) (aNil)))) (aNil)))))) (sSeq (sIf (tCmp gNotN (eCall (m_law_order) (aCons (eVar 12) (aNil))) (eC .non)) (sRet (eC (.bl false))) (sNil)) (sSeq (sSet 13 (eCall (m_law_rows) (aCons (eVar 0) (aCons (eVar 1) (aCons (eVar 3) (aCons (eC (.bl false)) (aNil))))))) (sSeq (sSet 14 (eCall (m_law_order) (aCons (eVar 13) (aNil)))) (sSeq (sIf (tOr (tCmp gIsN (eVar 14) (eC .non)) (tTru (eB bAny (aCons (c_law_4) (aNil))))) (sRet (eC (.bl false))) (sNil)) (sSeq (sSet 15 (c_law_5)) (sSeq (sIf (tCmp gNe (eVar 15) (eRgL1 (eVar 3))) (sRet (eC (.bl false))) (sNil)) (sSeq (sSet 16 (c_law_6)) (sFor (iSeq (eVar 13)) (.tp [.nm 7, .nm 8]) (f_law_2))))))))))))))))))
noncomputable def b_law : Ex := sSeq (sSet 1 (eLstM (aNil))) (sSeq (sFor (iRng1 (aCons (eC (.int 12)) (aNil))) (.nm 2) (f_law_3)) (sRet (eC (.bl true))))
noncomputable def m_law : Fn := run 18 b_law
end Mp

namespace Mp
open PySem
section
variable {QD : D → Sto → Prop} {E : Nat → Sto → Prop} {S : Sto}
theorem draw_sat {ns : List Int} {t : Nat} {town : List D} {many : Int} (ht : S[t]? = some (.lst town)) (hl : town.length < line) (hm : 0 < many)
    (h : ∀ r : Int, 0 ≤ r → r < many → QD (.int r) (S.set t (.lst (town ++ [.int 0])))) : (m_law_draw [.kls (ns.map .int), .ref t, .int many] S).sat QD E := by
  have tl : t < S.length := (List.getElem?_eq_some_iff.mp ht).1
  unfold m_law_draw
  refine run_sat ?_
  unfold b_law_draw
  have fin : ∀ x : Int, QD (.int (x % many)) (S.set t (.lst (town ++ [.int 0]))) := fun x => h _ (Int.emod_nonneg _ (by omega)) (Int.emod_lt_of_pos _ hm)
  have md : ∀ {x m : Int} {Q : D → Sto → Prop} {E : Nat → Sto → Prop} {S : Sto}, 0 < m → (∀ y, 0 ≤ y → y < m → Q (.int y) S) → (gMod (.int x) (.int m) S).sat Q E := fun h q => by
    rw [gMod_int]
    exact ⟨h, q _ (Int.emod_nonneg _ (by omega)) (Int.emod_lt_of_pos _ h)⟩
  have ml : ∀ {x y : Int} {Q : D → Sto → Prop} {E : Nat → Sto → Prop} {S : Sto}, (-(2 ^ 64) < y ∧ y < 2 ^ 64) → (∀ z, Q (.int z) S) → (gMul (.int x) (.int y) S).sat Q E := fun h q => by
    rw [gMul_int]
    exact ⟨.inr h, q _⟩
  have dv : ∀ {x : Int} {Q : D → Sto → Prop} {E : Nat → Sto → Prop} {S : Sto}, (∀ z, Q (.int z) S) → (gDiv (.int x) (.int 64) S).sat Q E := fun q => by
    rw [gDiv_int]
    exact ⟨by decide, q _⟩
  have hk : ((town ++ [D.int 0]).length : Int) < 2 ^ 60 := by
    have : town.length < 16777216 := hl
    rw [List.length_append]
    show ((town.length + 1 : Nat) : Int) < 2 ^ 60
    omega
  simp only [sSeq_sat, sExpr_sat, sSet_sat, sIf_sat, sRet_sat, sNil_sat, eML_sat, eVar_sat, eC_sat, eB_sat, eBin_sat, aCons_sat, aNil_sat, tTru_sat, truth_kls, List.map_cons, List.map_nil, List.cons_append, List.nil_append, List.length_cons, List.length_nil, List.replicate, List.getElem?_cons_zero, List.getElem?_cons_succ, Nat.reduceSub, Nat.reduceAdd, List.set_cons_zero, List.set_cons_succ, litems_ref', ht, mAppend_ref, hl, true_and, bLen_ref, List.getElem?_set_self tl, bLen_kls]
  generalize hkk : ((town ++ [D.int 0]).length : Int) = kk at hk
  have k0 : 0 ≤ kk := by omega
  cases ns with
  | nil =>
    simp only [List.map_nil, List.isEmpty_nil, Bool.not_true, Bool.false_eq_true, if_false]
    refine ml ⟨by omega, by omega⟩ fun z1 => ?_
    rw [gAdd_int]
    refine md (by decide) fun z2 a2 b2 => ml ⟨by omega, by omega⟩ fun z3 => md (by decide) fun z4 a4 b4 => ml (by decide) fun z5 => md (by decide) fun z6 a6 b6 => ml ⟨by omega, by omega⟩ fun z7 => md (by decide) fun z8 a8 b8 => ml (by decide) fun z9 => md (by decide) fun z10 a10 b10 => dv fun z11 => ml (by decide) fun z12 => dv fun z13 => ?_
    rw [gAdd_int, gMod_int]
    exact ⟨hm, fin _⟩
  | cons n0 nr =>
    simp only [List.map_cons, List.isEmpty_cons, Bool.not_false, if_true]
    rw [gMod_int]
    have hp : (0 : Int) < (((D.int n0 :: nr.map D.int).length : Nat) : Int) := by rw [List.length_cons]; omega
    refine ⟨hp, ?_⟩
    rw [gIx_kls]
    refine ix_at (Int.emod_nonneg _ (by omega)) (Int.emod_lt_of_pos _ hp) fun j hj _ => ?_
    have : (D.int n0 :: nr.map D.int)[j] = .int ((n0 :: nr)[j]'(by simpa using hj)) := by
      simp [← List.map_cons]
    rw [this]
    refine ml ⟨by omega, by omega⟩ fun z1 => ?_
    rw [gAdd_int]
    refine md (by decide) fun z2 a2 b2 => ml ⟨by omega, by omega⟩ fun z3 => md (by decide) fun z4 a4 b4 => ml (by decide) fun z5 => md (by decide) fun z6 a6 b6 => ml ⟨by omega, by omega⟩ fun z7 => md (by decide) fun z8 a8 b8 => ml (by decide) fun z9 => md (by decide) fun z10 a10 b10 => dv fun z11 => ml (by decide) fun z12 => dv fun z13 => ?_
    rw [gAdd_int, gMod_int]
    exact ⟨hm, fin _⟩
end
end Mp

namespace Mp
open PySem
/-! ### rows with ties, as data -/
abbrev Ties := List (Int × Bool)
abbrev Rows := List (Int × Ties)
def eTie (t : Int × Bool) : D := .tup [.int t.1, .bl t.2]
def eTies (ts : Ties) : D := .tup (ts.map eTie)
def eRow (r : Int × Ties) : D := .tup [.int r.1, eTies r.2]
def kRow (r : Int × Ties) : D × D := (.int r.1, eTies r.2)
def eOut (r : Int × List Int) : D := .tup [.int r.1, .tup (r.2.map .int)]
section
variable {QD : D → Sto → Prop} {QB : Bool → Sto → Prop} {E : Nat → Sto → Prop} {S : Sto}
theorem eTie_eqv (t : Int × Bool) (o : Int) (b : Bool) : D.eqv (eTie t) (.tup [.int o, .bl b]) = (t == (o, b)) := by
  obtain ⟨o', b'⟩ := t
  simp only [eTie, D.eqv, D.eqvs, Bool.and_true]
  rfl
theorem ties_any (ts : Ties) (o : Int) (b : Bool) : (ts.map eTie).any (fun z => D.eqv z (.tup [.int o, .bl b])) = ts.contains (o, b) := by
  induction ts with
  | nil => rfl
  | cons t ts ih =>
    rw [List.map_cons, List.any_cons, ih, eTie_eqv, List.contains_cons]
    congr 1
    exact Bool.beq_comm ..
theorem ties_plain (ts : Ties) : D.plains (ts.map eTie) = true := by
  induction ts with
  | nil => rfl
  | cons t ts ih => simp [D.plains, eTie, D.plain, ih]
theorem in_ties {ts : Ties} {o : Int} {b : Bool} : (gIn (.tup [.int o, .bl b]) (eTies ts) S).sat QD E = QD (.bl (ts.contains (o, b))) S := by
  have hp : ((D.tup [.int o, .bl b]).now S).plain = true ∧ D.plains (ts.map eTie) = true ∧ ((D.tup [.int o, .bl b]).now S).dep ≤ 60 := ⟨by simp [D.now, D.plain, D.plains], ties_plain ts, by simp [D.now, D.dep, D.deps]⟩
  have e : gInB (.tup [.int o, .bl b]) (eTies ts) S = some (ts.contains (o, b)) := by
    show (if _ then some _ else none) = _
    rw [if_pos hp]
    exact congrArg some (ties_any ts o b)
  simp only [gIn, e, sat_ok]
theorem ints_any (ns : List Int) (o : Int) : (ns.map D.int).any (fun z => D.eqv z (.int o)) = ns.contains o := by
  induction ns with
  | nil => rfl
  | cons t ts ih =>
    rw [List.map_cons, List.any_cons, ih, List.contains_cons]
    congr 1
    simp only [D.eqv]
    exact Bool.beq_comm ..
theorem inB_ints {ns : List Int} {o : Int} {b : D} (hb : items b S = some (ns.map .int)) (hs : ∀ z, b ≠ .str z) : gInB (.int o) b S = some (ns.contains o) := by
  have hp : ((D.int o).now S).plain = true ∧ D.plains (ns.map D.int) = true ∧ ((D.int o).now S).dep ≤ 60 := ⟨rfl, ints_plain ns, by simp [D.now, D.dep]⟩
  have e2 := congrArg some (ints_any ns o)
  cases b <;> first | exact absurd rfl (hs _) | (unfold gInB; dsimp only; rw [hb]; dsimp only; rw [if_pos hp]; exact e2)
theorem in_intsL {ns : List Int} {o : Int} : (gIn (.int o) (.lst (ns.map .int)) S).sat QD E = QD (.bl (ns.contains o)) S := by
  simp only [gIn, inB_ints (S := S) (b := .lst (ns.map .int)) (ns := ns) rfl (fun z h => by cases h), sat_ok]
theorem notIn_intsL {ns : List Int} {o : Int} : (gNotIn (.int o) (.lst (ns.map .int)) S).sat QD E = QD (.bl (!ns.contains o)) S := by
  simp only [gNotIn, inB_ints (S := S) (b := .lst (ns.map .int)) (ns := ns) rfl (fun z h => by cases h), sat_ok]
/-! ### dicts by whole numbers -/
theorem in_dict {kvs : List (D × D)} {r : Nat} {lk : Bool} {o : Int} (h : S[r]? = some (.dct lk kvs)) : (gIn (.int o) (.ref r) S).sat QD E = QD (.bl (khas kvs (.int o))) S := by
  simp [gIn, gInB, h, D.isKey]
theorem ix_dict' {kvs : List (D × D)} {r : Nat} {lk : Bool} {o : Int} {d : D} (h : S[r]? = some (.dct lk kvs)) (hk : kget kvs (.int o) = some d) : (gIx (.ref r) (.int o) S).sat QD E = QD d S := by
  simp [gIx, h, D.isKey, hk]
theorem pop_dict {kvs : List (D × D)} {r : Nat} {o : Int} {d : D} (h : S[r]? = some (.dct false kvs)) (hk : kget kvs (.int o) = some d) : (mDPop (.ref r) [.int o] S).sat QD E = QD d (S.set r (.dct false (kdel kvs (.int o)))) := by
  simp [mDPop, h, D.isKey, hk]
theorem keq_int (i j : Int) : D.keq (.int i) (.int j) = (i == j) := rfl
def tiesOf (rows : Rows) (n : Int) : Option Ties := (rows.find? fun r => r.1 == n).map (·.2)
theorem kget_rows (rows : Rows) (n : Int) : kget (rows.map kRow) (.int n) = (tiesOf rows n).map eTies := by
  unfold kget tiesOf
  induction rows with
  | nil => rfl
  | cons r rows ih =>
    simp only [List.map_cons, List.find?_cons, kRow, keq_int]
    cases r.1 == n with
    | true => rfl
    | false => exact ih
theorem khas_rows (rows : Rows) (n : Int) : khas (rows.map kRow) (.int n) = (rows.map (·.1)).contains n := by
  unfold khas
  induction rows with
  | nil => rfl
  | cons r rows ih =>
    simp only [List.map_cons, List.any_cons, List.contains_cons, ih, kRow, keq_int]
    congr 1
    exact Bool.beq_comm ..
def without (rows : Rows) (n : Int) : Rows := rows.filter fun r => !(r.1 == n)
theorem kdel_rows (rows : Rows) (n : Int) : kdel (rows.map kRow) (.int n) = (without rows n).map kRow := by
  unfold kdel without
  rw [List.filter_map]
  rfl
theorem keys_rows (rows : Rows) : intsOf ((rows.map kRow).map (·.1)) = some (rows.map (·.1)) := by
  induction rows with
  | nil => rfl
  | cons r rows ih => simp only [List.map_cons, kRow, intsOf] at ih ⊢; rw [ih]; rfl
theorem pairs_rows (rows : Rows) : pairsOf (rows.map eRow) = some (rows.map kRow) := by
  induction rows with
  | nil => rfl
  | cons r rows ih => simp only [List.map_cons, pairsOf, ih]; rfl
theorem khas_false {kvs : List (D × D)} {n : Int} : khas kvs (.int n) = false → kput kvs (.int n) = fun v => kvs ++ [(.int n, v)] := fun h => by
  funext v; unfold kput; rw [h]; rfl
theorem kmerge_rows : ∀ (more rows : Rows), ((rows ++ more).map (·.1)).Nodup → kmerge (rows.map kRow) (more.map kRow) = (rows ++ more).map kRow
  | [], rows, _ => by simp [kmerge]
  | r :: more, rows, h => by
    have hn : khas (rows.map kRow) (.int r.1) = false := by
      rw [khas_rows]
      rw [List.map_append, List.nodup_append] at h
      have h3 := h.2.2
      cases e : (rows.map (·.1)).contains r.1 with
      | false => rfl
      | true => exact absurd rfl (h3 r.1 (by simpa using e) r.1 (by simp))
    show kmerge (kput (rows.map kRow) (.int r.1) (eTies r.2)) (more.map kRow) = _
    rw [khas_false hn]
    have e : rows.map kRow ++ [(D.int r.1, eTies r.2)] = (rows ++ [r]).map kRow := by simp [kRow]
    show kmerge (rows.map kRow ++ [(D.int r.1, eTies r.2)]) (more.map kRow) = _
    rw [e, kmerge_rows more (rows ++ [r]) (by simpa using h)]
    simp
theorem dict_rows {rows : Rows} (h : (rows.map (·.1)).Nodup) : (bDictM [.tup (rows.map eRow)] S).sat QD E = QD (.ref S.length) (S ++ [.dct false (rows.map kRow)]) := by
  have := kmerge_rows rows [] (by simpa using h)
  simp only [List.map_nil, List.nil_append] at this
  simp [bDictM, pairs_rows, this]
theorem sorted_dict {rows : Rows} {r : Nat} {lk : Bool} (h : S[r]? = some (.dct lk (rows.map kRow))) (hl : rows.length < 64) : (bSortedDI [.ref r] S).sat QD E = QD (.lst ((sortI (rows.map (·.1))).map .int)) S := by
  have e := keys_rows rows
  simp only [bSortedDI, pairs_ref', h, e]
  rw [if_pos (by simpa using hl)]
  rfl
/-! ### sorting -/
theorem insI_pm (x : Int) : ∀ l : List Int, (insI x l).Perm (x :: l)
  | [] => .refl _
  | y :: r => by
    unfold insI
    split
    · exact .refl _
    · exact ((insI_pm x r).cons y).trans (.swap ..)
theorem sortI_pm : ∀ l : List Int, (sortI l).Perm l
  | [] => .refl _
  | x :: r => (insI_pm x (sortI r)).trans ((sortI_pm r).cons x)
theorem insI_srt (x : Int) : ∀ l : List Int, l.Pairwise (· ≤ ·) → (insI x l).Pairwise (· ≤ ·)
  | [], _ => by simp [insI]
  | y :: r, h => by
    unfold insI
    rw [List.pairwise_cons] at h
    split
    · rename_i hxy
      rw [List.pairwise_cons]
      refine ⟨fun z hz => ?_, by rw [List.pairwise_cons]; exact h⟩
      rcases List.mem_cons.mp hz with e | e
      · rw [e]; exact hxy
      · exact Int.le_trans hxy (h.1 z e)
    · rename_i hxy
      rw [List.pairwise_cons]
      refine ⟨fun z hz => ?_, insI_srt x r h.2⟩
      rcases List.mem_cons.mp ((insI_pm x r).mem_iff.mp hz) with e | e
      · rw [e]; omega
      · exact h.1 z e
theorem sortI_srt : ∀ l : List Int, (sortI l).Pairwise (· ≤ ·)
  | [] => .nil
  | x :: r => insI_srt x _ (sortI_srt r)
theorem sorted_unique : ∀ {l m : List Int}, l.Pairwise (· ≤ ·) → m.Pairwise (· ≤ ·) → l.Perm m → l = m
  | [], m, _, _, h => (List.nil_perm.mp h).symm
  | x :: l, [], _, _, h => absurd h.symm.nil_eq (by simp)
  | x :: l, y :: m, h1, h2, h => by
    rw [List.pairwise_cons] at h1 h2
    have e : x = y := by
      have a : x ∈ y :: m := h.mem_iff.mp List.mem_cons_self
      have b : y ∈ x :: l := h.mem_iff.mpr List.mem_cons_self
      rcases List.mem_cons.mp a with z | z
      · exact z
      · rcases List.mem_cons.mp b with w | w
        · exact w.symm
        · exact Int.le_antisymm (h1.1 y w) (h2.1 x z)
    subst e
    rw [sorted_unique h1.2 h2.2 ((List.perm_cons x).mp h)]
theorem sortI_of_perm {l m : List Int} (h : l.Perm m) : sortI l = sortI m := sorted_unique (sortI_srt l) (sortI_srt m) ((sortI_pm l).trans (h.trans (sortI_pm m).symm))
theorem mem_sortI {l : List Int} {x : Int} : x ∈ sortI l ↔ x ∈ l := (sortI_pm l).mem_iff
theorem sortI_length (l : List Int) : (sortI l).length = l.length := (sortI_pm l).length_eq
end
end Mp

namespace Mp
open PySem
/-! ### waits -/
def waitsP (keys : List Int) (ts : Ties) (s : Bool) : List Int := (sortI keys).filter fun o => ts.contains (o, true) || (!s && ts.contains (o, false))
section
variable {QD : D → Sto → Prop} {E : Nat → Sto → Prop} {S : Sto}
theorem ints_get {l : List Int} {i : Nat} {d : D} (h : (l.map D.int)[i]? = some d) : ∃ o, l[i]? = some o ∧ d = .int o := by
  rw [List.getElem?_map] at h
  cases e : l[i]? with
  | none => rw [e] at h; cases h
  | some o => rw [e] at h; exact ⟨o, rfl, (Option.some.inj h).symm⟩
theorem take_filter {α : Type} {l : List α} {p : α → Bool} {i : Nat} {x : α} (h : l[i]? = some x) : (l.take (i + 1)).filter p = if p x = true then (l.take i).filter p ++ [x] else (l.take i).filter p := by
  rw [List.take_add_one, h, List.filter_append]
  simp only [Option.toList]
  cases e : p x <;> simp [e]
theorem waits_sat {rows : Rows} {r : Nat} {lk : Bool} {n : Int} {ts : Ties} {s : Bool} (h : S[r]? = some (.dct lk (rows.map kRow))) (hl : rows.length < 64) (ht : tiesOf rows n = some ts)
    (q : ∀ S', Ext S S' → QD (.tup ((waitsP (rows.map (·.1)) ts s).map .int)) S') : (m_waits [.ref r, .int n, .bl s] S).sat QD E := by
  have hr : r < S.length := (List.getElem?_eq_some_iff.mp h).1
  have hk : kget (rows.map kRow) (.int n) = some (eTies ts) := by rw [kget_rows, ht]; rfl
  unfold m_waits
  refine run_sat ?_
  unfold b_waits
  simp
  have h1 : (S ++ [O.lst []])[r]? = some (.dct lk (rows.map kRow)) := by rw [List.getElem?_append_left hr]; exact h
  let ks := sortI (rows.map (·.1))
  let p := fun o => ts.contains (o, true) || (!s && ts.contains (o, false))
  refine sFor_of (w := ⟨ks.map .int, []⟩) (S0 := S ++ [.lst []]) (by simp; exact (sorted_dict h1 hl).mpr (by simp [ks])) (fun i ρ S' => ∃ x, ρ = [some (.ref r), some (.int n), some (.bl s), some (.ref S.length), x] ∧ S' = S ++ [.lst (((ks.take i).filter p).map .int)]) ⟨none, by simp, by simp⟩ (fun i ρ S _ => by simp) ?_ ?_
  · rintro i d ρ S' hd ⟨x, rfl, rfl⟩
    obtain ⟨o, ho, rfl⟩ := ints_get hd
    have h2 : (S ++ [O.lst (((ks.take i).filter p).map .int)])[r]? = some (.dct lk (rows.map kRow)) := by rw [List.getElem?_append_left hr]; exact h
    have tf := take_filter (p := p) ho
    have hlen : ((ks.take i).filter p).length < line := by
      have a1 : ((ks.take i).filter p).length ≤ (ks.take i).length := List.length_filter_le ..
      have a2 : (ks.take i).length ≤ ks.length := by rw [List.length_take]; omega
      have a3 : ks.length = rows.length := by rw [sortI_length, List.length_map]
      show _ < 16777216
      omega
    refine ⟨_, asg_nm, ?_⟩
    simp
    rw [ix_dict' h2 hk, in_ties]
    dsimp only
    by_cases c1 : (o, true) ∈ ts
    · have po : p o = true := by simp [p, c1]
      rw [po, if_pos rfl] at tf
      rw [tf]
      simp [c1, hlen]
    · by_cases c2 : s = true
      · have po : p o = false := by simp [p, c1, c2]
        rw [po, if_neg Bool.false_ne_true] at tf
        rw [tf]
        simp [c1, c2]
      · have c2 : s = false := by simpa using c2
        subst c2
        simp [c1]
        rw [ix_dict' h2 hk, in_ties]
        dsimp only
        by_cases c3 : (o, false) ∈ ts
        · have po : p o = true := by simp [p, c3]
          rw [po, if_pos rfl] at tf
          rw [tf]
          simp [c3, hlen]
        · have po : p o = false := by simp [p, c1, c3]
          rw [po, if_neg Bool.false_ne_true] at tf
          rw [tf]
          simp [c3]
  · rintro ρ S' ⟨x, rfl, rfl⟩
    simp
    simp [bTuple]
    have e : (List.take (ks.map D.int).length ks) = ks := by rw [List.length_map, List.take_length]
    have := q (S ++ [.lst ((ks.filter p).map .int)]) Ext.push
    simpa [ks, p, waitsP] using this
end
end Mp

namespace Mp
open PySem
/-! ### put_order -/
def keysOf (rows : Rows) : List Int := rows.map (·.1)
def tiesAt (rows : Rows) (n : Int) : Ties := (tiesOf rows n).getD []
def freeP (left : Rows) (s : Bool) : List Int := (sortI (keysOf left)).filter fun n => (waitsP (keysOf left) (tiesAt left n) s).isEmpty
def putP : Nat → Rows → Option (List (Int × List Int))
  | 0, left => if left.isEmpty = true then some [] else none
  | k + 1, left => if left.isEmpty = true then some [] else match freeP left false ++ freeP left true with
    | [] => none
    | n :: _ => (putP k (without left n)).map ((n, waitsP (keysOf left) (tiesAt left n) false) :: ·)
theorem without_sub (rows : Rows) (n : Int) : (without rows n).Sublist rows := List.filter_sublist
theorem mem_without {rows : Rows} {n : Int} {r : Int × Ties} : r ∈ without rows n ↔ r ∈ rows ∧ r.1 ≠ n := by
  unfold without
  rw [List.mem_filter]
  simp
theorem tiesOf_mem {rows : Rows} {n : Int} (h : n ∈ keysOf rows) : ∃ ts, tiesOf rows n = some ts ∧ (n, ts) ∈ rows := by
  unfold tiesOf
  cases e : rows.find? (fun r => r.1 == n) with
  | none =>
    obtain ⟨r, hr, e'⟩ := List.mem_map.mp h
    have := List.find?_eq_none.mp e r hr
    simp [e'] at this
  | some r =>
    have h1 := List.find?_some e
    have h2 := List.mem_of_find?_eq_some e
    simp at h1
    exact ⟨r.2, rfl, by rw [← h1]; exact h2⟩
theorem without_length {rows : Rows} {n : Int} (hn : (keysOf rows).Nodup) (h : n ∈ keysOf rows) : (without rows n).length + 1 = rows.length := by
  induction rows with
  | nil => simp [keysOf] at h
  | cons r rows ih =>
    simp only [keysOf, List.map_cons, List.nodup_cons] at hn
    by_cases e : r.1 = n
    · have : without rows n = rows := by
        unfold without
        rw [List.filter_eq_self]
        intro x hx
        have : x.1 ≠ n := fun z => hn.1 (by rw [e, ← z]; exact List.mem_map_of_mem hx)
        simpa using this
      unfold without at this ⊢
      rw [List.filter_cons_of_neg (by simp [e]), this]
      rfl
    · have h' : n ∈ keysOf rows := by
        rcases List.mem_cons.mp h with z | z
        · exact absurd z.symm e
        · exact z
      have := ih hn.2 h'
      unfold without at this ⊢
      rw [List.filter_cons_of_pos (by simp [e])]
      simp only [List.length_cons]
      omega
theorem nodup_without {rows : Rows} {n : Int} (hn : (keysOf rows).Nodup) : (keysOf (without rows n)).Nodup := hn.sublist ((without_sub rows n).map _)
section
variable {QD : D → Sto → Prop} {E : Nat → Sto → Prop} {S : Sto}
theorem eq_nil {l : List Int} : (gEq (.tup (l.map .int)) (.tup []) S).sat QD E = QD (.bl l.isEmpty) S := by
  have hp : ((D.tup (l.map .int)).now S).plain = true ∧ ((D.tup []).now S).plain = true ∧ min ((D.tup (l.map .int)).now S).dep ((D.tup []).now S).dep ≤ 60 := ⟨by simp only [D.now, D.plain]; exact ints_plain l, rfl, by simp only [D.now, D.dep, D.deps]; omega⟩
  have e : gEqB (.tup (l.map .int)) (.tup []) S = some l.isEmpty := by
    show (if _ then some _ else none) = _
    rw [if_pos hp]
    cases l <;> rfl
  simp only [gEq, e, sat_ok]
theorem filterMap_ints {ks : List Int} {f : D → Option D} {p : Int → Bool} (h : ∀ o ∈ ks, f (.int o) = if p o = true then some (.int o) else none) : (ks.map D.int).filterMap f = (ks.filter p).map .int := by
  induction ks with
  | nil => rfl
  | cons k ks ih =>
    have ih := ih fun o ho => h o (List.mem_cons_of_mem _ ho)
    have h0 := h k List.mem_cons_self
    simp only [List.map_cons, List.filterMap_cons, List.filter_cons, h0]
    cases p k <;> simp [ih]
/-- [number for number in sorted(left) if waits(left, number, s) == ()] -/
theorem free_sat {left : Rows} {r0 : Nat} {s : Bool} {x0 x1 x3 x4 x5 : Option D} (h : S[r0]? = some (.dct false (left.map kRow))) (hl : left.length < 64)
    (q : ∀ S', Ext S S' → QD (.lst ((freeP left s).map .int)) S') :
    (eComp (iSeq (eB bSortedDI (aCons (eVar 2) aNil))) (.nm 4) (tCmp gEq (eCall m_waits (aCons (eVar 2) (aCons (eVar 4) (aCons (eC (.bl s)) aNil)))) (eTup aNil)) (eVar 4) [4] [x0, x1, some (.ref r0), x3, x4, x5] S).sat QD E := by
  have hl2 : (sortI (keysOf left)).length ≤ line := by rw [sortI_length, keysOf, List.length_map]; show _ ≤ 16777216; omega
  refine eComp_of (w := ⟨(sortI (keysOf left)).map .int, []⟩) (S0 := S) (by simp; exact (sorted_dict h hl).mpr (by simp [keysOf])) (fun S' => Ext S S') (fun d => match d with | .int o => if (waitsP (keysOf left) (tiesAt left o) s).isEmpty = true then some (.int o) else none | _ => none) Ext.refl (fun S' _ => by simp) (by simpa using hl2) ?_ ?_
  · intro d hd S' hS
    obtain ⟨o, ho, rfl⟩ := List.mem_map.mp hd
    obtain ⟨ts, ht, _⟩ := tiesOf_mem (mem_sortI.mp ho)
    refine ⟨_, asg_nm, ?_⟩
    simp
    refine waits_sat (hS.get h) hl ht fun S2 h2 => ?_
    rw [eq_nil]
    have et : tiesAt left o = ts := by unfold tiesAt; rw [ht]; rfl
    rw [et]
    dsimp only
    by_cases e : waitsP (keysOf left) ts s = []
    · have e' : waitsP (List.map (fun x => x.1) left) ts s = [] := e
      simp [e, e', hS.trans h2]
    · have e' : waitsP (List.map (fun x => x.1) left) ts s ≠ [] := e
      simp [e, e', hS.trans h2]
  · intro S' hS
    rw [filterMap_ints (p := fun n => (waitsP (keysOf left) (tiesAt left n) s).isEmpty) (fun o ho => rfl)]
    exact q S' hS
theorem putP_go {k : Nat} {left : Rows} {n : Int} {l : List Int} (hne : left.isEmpty = false) (h : freeP left false ++ freeP left true = n :: l) : putP (k + 1) left = (putP k (without left n)).map ((n, waitsP (keysOf left) (tiesAt left n) false) :: ·) := by
  simp only [putP, hne, h]; rfl
theorem put_sat {rows : Rows} (hn : (keysOf rows).Nodup) (hl : rows.length < 64) (q : ∀ out S', putP rows.length rows = some out → Ext S S' → QD (.tup (out.map eOut)) S') (qe : ∀ S', putP rows.length rows = none → Ext S S' → E 1 S') :
    (m_put_order [.tup (rows.map eRow)] S).sat QD E := by
  unfold m_put_order
  refine run_sat ?_
  unfold b_put_order
  simp
  rw [dict_rows hn]
  refine sWhile_sat rows.length (by omega) (fun k ρ S' => ∃ left found x3 x4 x5, ρ = [some (.tup (rows.map eRow)), some (.tup (found.map eOut)), some (.ref S.length), x3, x4, x5] ∧ k = left.length ∧ S'[S.length]? = some (.dct false (left.map kRow)) ∧ Ext S S' ∧ (keysOf left).Nodup ∧
    found.length + left.length = rows.length ∧ putP rows.length rows = (putP left.length left).map (found ++ ·)) ⟨rows, [], none, none, none, by simp, rfl, by simp, Ext.push, hn, by simp, by cases putP rows.length rows <;> simp⟩ ?_
  rintro k ρ S1 ⟨left, found, x3, x4, x5, rfl, rfl, hS, hE, hnd, hlen, hp⟩
  by_cases hne : left = []
  · subst hne
    simp [hS]
    refine q _ _ (by simpa [putP] using hp) hE
  · simp [hS, hne]
    have h0 : left.length ≠ 0 := fun z => hne (List.length_eq_zero_iff.mp z)
    refine ⟨left.length - 1, by omega, ?_⟩
    have hl1 : left.length < 64 := by omega
    refine free_sat hS hl1 fun S2 h2 => ?_
    simp
    refine free_sat (h2.get hS) hl1 fun S3 h3 => ?_
    simp
    have hS3 := h3.get (h2.get hS)
    have hE3 : Ext S S3 := hE.trans (h2.trans h3)
    have hle : left.isEmpty = false := by cases left with | nil => exact absurd rfl hne | cons a b => rfl
    cases hall : freeP left false ++ freeP left true with
    | nil =>
      obtain ⟨hA, hB⟩ := List.append_eq_nil_iff.mp hall
      rw [if_pos hA, if_pos hB]
      refine qe S3 ?_ hE3
      rw [hp]
      cases left with
      | nil => exact absurd rfl hne
      | cons r0 lr =>
        have : putP (r0 :: lr).length (r0 :: lr) = none := by
          simp only [List.length_cons, putP, hle, hall]
          rfl
        rw [this]; rfl
    | cons n l =>
      have hlenAB : (freeP left false).length + (freeP left true).length = l.length + 1 := by rw [← List.length_append, hall]; rfl
      have hmap : (freeP left false).map D.int ++ (freeP left true).map D.int = .int n :: l.map .int := by rw [← List.map_append, hall]; rfl
      have hnk : n ∈ keysOf left := by
        have : n ∈ freeP left false ++ freeP left true := by rw [hall]; exact List.mem_cons_self
        rcases List.mem_append.mp this with z | z
        · exact mem_sortI.mp (List.mem_filter.mp z).1
        · exact mem_sortI.mp (List.mem_filter.mp z).1
      obtain ⟨ts, ht, _⟩ := tiesOf_mem hnk
      have et : tiesAt left n = ts := by unfold tiesAt; rw [ht]; rfl
      have hkg : kget (left.map kRow) (.int n) = some (eTies ts) := by rw [kget_rows, ht]; rfl
      have hfl : ∀ s, (freeP left s).length ≤ left.length := fun s => by
        refine Nat.le_trans (List.length_filter_le ..) ?_
        rw [sortI_length, keysOf, List.length_map]
        exact Nat.le_refl _
      have hwl := without_length hnd hnk
      have tail : (freeP left false).length + (freeP left true).length ≤ line ∧ (∀ {T : D → Prop}, T (.int n) → (match (place ((freeP left false).length + (freeP left true).length) 0).bind fun j => (List.map D.int (freeP left false) ++ List.map D.int (freeP left true))[j]? with | some d => T d | none => False)) := by
        refine ⟨?_, fun {T} hT => ?_⟩
        · have := hfl false
          have := hfl true
          show _ ≤ 16777216
          omega
        · rw [hlenAB, hmap, place_nn (by omega) (by omega)]
          exact hT
      have fin : (m_waits [D.ref (List.length S), .int n, D.bl false] S3).sat (fun d_1 S1 => found.length + 1 ≤ line ∧ match (match S1[List.length S]? with | some (O.dct lk kvs) => some kvs | x => none) with
          | some val => (mDPop (D.ref (List.length S)) [.int n] S1).sat (fun x S1 => ∃ left_1 found_1, List.map eOut found ++ [D.tup [.int n, d_1]] = List.map eOut found_1 ∧ List.length left - 1 = List.length left_1 ∧ S1[List.length S]? = some (O.dct false (List.map kRow left_1)) ∧ Ext S S1 ∧ (keysOf left_1).Nodup ∧
              found_1.length + List.length left_1 = List.length rows ∧ putP (List.length rows) rows = Option.map (fun x => found_1 ++ x) (putP (List.length left_1) left_1)) fun c S => E c S
          | none => False) fun c S => E c S := by
        refine waits_sat hS3 hl1 ht fun S4 h4 => ⟨by show _ ≤ 16777216; omega, ?_⟩
        have hS4 := h4.get hS3
        rw [hS4]
        dsimp only
        rw [pop_dict hS4 hkg, kdel_rows]
        have hr : S.length < S4.length := (List.getElem?_eq_some_iff.mp hS4).1
        refine ⟨without left n, found ++ [(n, waitsP (keysOf left) (tiesAt left n) false)], by rw [et]; simp [eOut, keysOf], by omega, by rw [List.getElem?_set_self hr], (hE3.trans h4).set (Nat.le_refl _), nodup_without hnd, by rw [List.length_append]; simp only [List.length_cons, List.length_nil]; omega, ?_⟩
        have hl2 : left.length = (without left n).length + 1 := by omega
        rw [hp, hl2, putP_go hle hall, Option.map_map]
        congr 1
        funext x
        simp
      by_cases hA : freeP left false = []
      · have hB : ¬ freeP left true = [] := fun z => by rw [hA, z] at hall; cases hall
        rw [if_pos hA, if_neg hB]
        exact ⟨tail.1, tail.2 fin⟩
      · rw [if_neg hA]
        exact ⟨tail.1, tail.2 fin⟩
end
end Mp

namespace Mp
open PySem
section
def tiesIn (keys : List Int) (ts : Ties) : Ties := ts.filter fun t => keys.contains t.1
theorem waits_false_nil {keys : List Int} {ts : Ties} : (waitsP keys ts false).isEmpty = (tiesIn keys ts).isEmpty := by
  rw [Bool.eq_iff_iff, List.isEmpty_iff, List.isEmpty_iff]
  unfold waitsP tiesIn
  simp only [List.filter_eq_nil_iff]
  constructor
  · rintro h ⟨o, b⟩ ht hk
    have hk' : o ∈ keys := by simpa using hk
    refine h o (mem_sortI.mpr hk') ?_
    cases b <;> simp [ht]
  · intro h o ho hc
    have ho' := mem_sortI.mp ho
    simp at hc
    rcases hc with z | z
    · exact h _ z (by simpa using ho')
    · exact h _ z (by simpa using ho')
theorem waits_true_nil {keys : List Int} {ts : Ties} : (waitsP keys ts true).isEmpty = ((tiesIn keys ts).filter (·.2)).isEmpty := by
  rw [Bool.eq_iff_iff, List.isEmpty_iff, List.isEmpty_iff]
  unfold waitsP tiesIn
  simp only [List.filter_eq_nil_iff]
  constructor
  · rintro h ⟨o, b⟩ ht hb
    rw [List.mem_filter] at ht
    have hk' : o ∈ keys := by simpa using ht.2
    have hb : b = true := hb
    subst hb
    exact h o (mem_sortI.mpr hk') (by simpa using ht.1)
  · intro h o ho hc
    have ho' := mem_sortI.mp ho
    simp at hc
    exact h (o, true) (List.mem_filter.mpr ⟨hc, by simpa using ho'⟩) rfl
end
theorem tiesAt_without {left : Rows} {n m : Int} (h : m ≠ n) : tiesAt (without left n) m = tiesAt left m := by
  unfold tiesAt tiesOf without
  congr 2
  induction left with
  | nil => rfl
  | cons r left ih =>
    by_cases e : r.1 = n
    · rw [List.filter_cons_of_neg (by simp [e]), List.find?_cons_of_neg (by simp; rw [e]; exact fun z => h z.symm)]
      exact ih
    · rw [List.filter_cons_of_pos (by simp [e])]
      simp only [List.find?_cons]
      cases r.1 == m with
      | true => rfl
      | false => exact ih
theorem keys_without {left : Rows} {n : Int} (hn : (keysOf left).Nodup) (h : n ∈ keysOf left) : (n :: keysOf (without left n)).Perm (keysOf left) := by
  rw [List.perm_ext_iff_of_nodup]
  · intro x
    rw [List.mem_cons]
    simp only [keysOf, List.mem_map]
    constructor
    · rintro (e | ⟨r, hr, rfl⟩)
      · rw [e]; exact List.mem_map.mp h
      · exact ⟨r, (mem_without.mp hr).1, rfl⟩
    · rintro ⟨r, hr, rfl⟩
      by_cases e : r.1 = n
      · exact .inl e
      · exact .inr ⟨r, mem_without.mpr ⟨hr, e⟩, rfl⟩
  · rw [List.nodup_cons]
    refine ⟨fun z => ?_, nodup_without hn⟩
    obtain ⟨r, hr, e⟩ := List.mem_map.mp z
    exact (mem_without.mp hr).2 e
  · exact hn
theorem putP_spec : ∀ (k : Nat) (left : Rows) (out : List (Int × List Int)), (keysOf left).Nodup → putP k left = some out →
    (out.map (·.1)).Perm (keysOf left) ∧ ∀ (i : Nat) (n : Int) (l : List Int), out[i]? = some (n, l) → (∀ o, (o, true) ∈ tiesAt left n → o ∉ (out.drop i).map (·.1)) ∧ ∀ o ∈ l, o ∈ (out.drop i).map (·.1) ∧ o ∈ (tiesAt left n).map (·.1)
  | k, left, out, hn, h => by
    cases hle : left.isEmpty with
    | true =>
      have e : left = [] := List.isEmpty_iff.mp hle
      subst e
      have : out = [] := by cases k <;> simp [putP] at h <;> exact h
      subst this
      exact ⟨.refl _, fun i n l e => by simp at e⟩
    | false =>
    cases k with
    | zero => simp [putP, hle] at h
    | succ k =>
      cases hall : freeP left false ++ freeP left true with
      | nil => simp [putP, hle, hall] at h
      | cons n l =>
        rw [putP_go hle hall] at h
        cases hr : putP k (without left n) with
        | none => rw [hr] at h; cases h
        | some out' =>
          rw [hr] at h
          have h := Option.some.inj h
          subst h
          have hmem : n ∈ freeP left false ++ freeP left true := by rw [hall]; exact List.mem_cons_self
          have hkt : n ∈ keysOf left ∧ (waitsP (keysOf left) (tiesAt left n) true).isEmpty = true := by
            rcases List.mem_append.mp hmem with z | z
            · have z' := List.mem_filter.mp z
              refine ⟨mem_sortI.mp z'.1, ?_⟩
              have z2 := z'.2
              rw [waits_false_nil, List.isEmpty_iff] at z2
              rw [waits_true_nil, z2]
              rfl
            · have z' := List.mem_filter.mp z
              exact ⟨mem_sortI.mp z'.1, z'.2⟩
          obtain ⟨p1, p2⟩ := putP_spec k (without left n) out' (nodup_without hn) hr
          have pm : ((n :: out'.map (·.1)) : List Int).Perm (keysOf left) := (p1.cons n).trans (keys_without hn hkt.1)
          refine ⟨pm, fun i m l' e => ?_⟩
          cases i with
          | zero =>
            simp at e
            obtain ⟨rfl, rfl⟩ := e
            refine ⟨fun o ho hm => ?_, fun o ho => ?_⟩
            · have hk : o ∈ keysOf left := pm.mem_iff.mp (by simpa using hm)
              have := hkt.2
              rw [List.isEmpty_iff] at this
              unfold waitsP at this
              rw [List.filter_eq_nil_iff] at this
              exact this o (mem_sortI.mpr hk) (by simp [ho])
            · unfold waitsP at ho
              have ho := List.mem_filter.mp ho
              refine ⟨by simpa using pm.mem_iff.mpr (mem_sortI.mp ho.1), ?_⟩
              have h2 := ho.2
              simp at h2
              rcases h2 with h2 | h2
              · exact List.mem_map.mpr ⟨_, h2, rfl⟩
              · exact List.mem_map.mpr ⟨_, h2, rfl⟩
          | succ i =>
            have e : out'[i]? = some (m, l') := by simpa using e
            have hm : m ≠ n := by
              have : m ∈ keysOf (without left n) := p1.mem_iff.mp (List.mem_map.mpr ⟨(m, l'), List.mem_of_getElem? e, rfl⟩)
              obtain ⟨r, hr, e'⟩ := List.mem_map.mp this
              rw [← e']
              exact (mem_without.mp hr).2
            have := p2 i m l' e
            rw [tiesAt_without hm] at this
            simpa using this
/-! ### without ties -/
theorem bare_free {ns : List Int} {s : Bool} (h : ns.Pairwise (· < ·)) : freeP (ns.map fun n => (n, ([] : Ties))) s = ns := by
  have hk : keysOf (ns.map fun n => (n, ([] : Ties))) = ns := by unfold keysOf; rw [List.map_map]; exact List.map_id _
  have hs : sortI ns = ns := sorted_unique (sortI_srt ns) (h.imp Int.le_of_lt) (sortI_pm ns)
  unfold freeP
  rw [hk, hs, List.filter_eq_self]
  intro n hn
  have ht : tiesAt (ns.map fun n => (n, ([] : Ties))) n = [] := by
    unfold tiesAt tiesOf
    cases e : (ns.map fun n => (n, ([] : Ties))).find? (fun r => r.1 == n) with
    | none => rfl
    | some r =>
      obtain ⟨x, _, rfl⟩ := List.mem_map.mp (List.mem_of_find?_eq_some e)
      rfl
  rw [ht]
  unfold waitsP
  rw [List.isEmpty_iff, List.filter_eq_nil_iff]
  simp
theorem putP_bare : ∀ {ns : List Int}, ns.Pairwise (· < ·) → putP ns.length (ns.map fun n => (n, ([] : Ties))) = some (ns.map fun n => (n, []))
  | [], _ => rfl
  | n :: ns, h => by
    have hf := bare_free (s := false) h
    have ht := bare_free (s := true) h
    rw [List.pairwise_cons] at h
    have hall : freeP ((n :: ns).map fun n => (n, ([] : Ties))) false ++ freeP ((n :: ns).map fun n => (n, ([] : Ties))) true = n :: (ns ++ (n :: ns)) := by rw [hf, ht]; rfl
    rw [List.length_cons, putP_go rfl hall]
    have hw : without ((n :: ns).map fun n => (n, ([] : Ties))) n = ns.map fun n => (n, []) := by
      unfold without
      rw [List.map_cons, List.filter_cons_of_neg (by simp), List.filter_eq_self]
      intro r hr
      obtain ⟨x, hx, rfl⟩ := List.mem_map.mp hr
      have := h.1 x hx
      simp
      omega
    rw [hw, putP_bare h.2]
    have ht : tiesAt ((n :: ns).map fun n => (n, ([] : Ties))) n = [] := by simp [tiesAt, tiesOf]
    rw [ht]
    simp [waitsP]
theorem putP_lens : ∀ (k : Nat) (left : Rows) (out : List (Int × List Int)), putP k left = some out → out.length ≤ k ∧ ∀ p ∈ out, p.2.length ≤ left.length
  | k, left, out, h => by
    cases hle : left.isEmpty with
    | true =>
      have e : left = [] := List.isEmpty_iff.mp hle
      subst e
      have : out = [] := by cases k <;> simp [putP] at h <;> exact h
      subst this
      exact ⟨Nat.zero_le _, fun p hp => by cases hp⟩
    | false =>
    cases k with
    | zero => simp [putP, hle] at h
    | succ k =>
      cases hall : freeP left false ++ freeP left true with
      | nil => simp [putP, hle, hall] at h
      | cons n l =>
        rw [putP_go hle hall] at h
        cases hr : putP k (without left n) with
        | none => rw [hr] at h; cases h
        | some out' =>
          rw [hr] at h
          have h := Option.some.inj h
          subst h
          obtain ⟨h1, h2⟩ := putP_lens k (without left n) out' hr
          refine ⟨by rw [List.length_cons]; omega, fun p hp => ?_⟩
          rcases List.mem_cons.mp hp with e | e
          · rw [e]
            refine Nat.le_trans (List.length_filter_le ..) ?_
            rw [sortI_length, keysOf, List.length_map]
            exact Nat.le_refl _
          · exact Nat.le_trans (h2 p e) (List.Sublist.length_le (without_sub left n))
end Mp

namespace Mp
open PySem
/-! ### what the order depends on -/
/-- n waits for none (needed ones only, or all) -/
theorem waits_nil_iff {keys : List Int} {ts : Ties} {s : Bool} : (waitsP keys ts s).isEmpty = true ↔ ∀ o ∈ keys, (o, true) ∉ ts ∧ (s = false → (o, false) ∉ ts) := by
  rw [List.isEmpty_iff]
  unfold waitsP
  rw [List.filter_eq_nil_iff]
  constructor
  · intro h o ho
    have := h o (mem_sortI.mpr ho)
    cases s <;> simp at this ⊢ <;> exact this
  · intro h o ho
    have := h o (mem_sortI.mp ho)
    cases s <;> simp at this ⊢ <;> exact this
theorem waits_congr {keys : List Int} {ts ts' : Ties} {s : Bool} (h : ∀ o ∈ keys, ∀ b, (o, b) ∈ ts ↔ (o, b) ∈ ts') : waitsP keys ts s = waitsP keys ts' s := by
  unfold waitsP
  apply List.filter_congr
  intro o ho
  have h1 := h o (mem_sortI.mp ho) true
  have h2 := h o (mem_sortI.mp ho) false
  rw [Bool.eq_iff_iff]
  simp only [Bool.or_eq_true, Bool.and_eq_true, Bool.not_eq_true', List.contains_iff_mem, h1, h2]
theorem keysOf_without (rows : Rows) (n : Int) : keysOf (without rows n) = (keysOf rows).filter fun k => !(k == n) := by
  unfold keysOf without
  rw [List.filter_map]
  rfl
theorem tiesAt_none {rows : Rows} {n : Int} (h : n ∉ keysOf rows) : tiesAt rows n = [] := by
  unfold tiesAt tiesOf
  cases e : rows.find? (fun r => r.1 == n) with
  | none => rfl
  | some r =>
    have h1 := List.find?_some e
    simp at h1
    exact absurd (List.mem_map.mpr ⟨r, List.mem_of_find?_eq_some e, h1⟩) h
/-- rows of the same numbers, whose ties tell the same of these -/
def Alike (rows rows' : Rows) : Prop := keysOf rows = keysOf rows' ∧ ∀ n ∈ keysOf rows, ∀ o ∈ keysOf rows, ∀ b, (o, b) ∈ tiesAt rows n ↔ (o, b) ∈ tiesAt rows' n
theorem Alike.waits {rows rows' : Rows} (h : Alike rows rows') {n : Int} (hn : n ∈ keysOf rows) (s : Bool) : waitsP (keysOf rows) (tiesAt rows n) s = waitsP (keysOf rows') (tiesAt rows' n) s := by
  rw [← h.1]
  exact waits_congr fun o ho b => h.2 n hn o ho b
theorem Alike.free {rows rows' : Rows} (h : Alike rows rows') (s : Bool) : freeP rows s = freeP rows' s := by
  unfold freeP
  rw [← h.1]
  apply List.filter_congr
  intro n hn
  have := h.waits (mem_sortI.mp hn) s
  rw [← h.1] at this
  rw [this]
theorem Alike.without {rows rows' : Rows} (h : Alike rows rows') (n : Int) : Alike (without rows n) (without rows' n) := by
  have hk : keysOf (Mp.without rows n) = keysOf (Mp.without rows' n) := by rw [keysOf_without, keysOf_without, h.1]
  refine ⟨hk, fun m hm o ho b => ?_⟩
  rw [keysOf_without, List.mem_filter] at hm ho
  have e : m ≠ n := by simpa using hm.2
  rw [tiesAt_without e, tiesAt_without e]
  exact h.2 m hm.1 o ho.1 b
theorem Alike.empty {rows rows' : Rows} (h : Alike rows rows') : rows.isEmpty = rows'.isEmpty := by
  have := h.1
  cases rows <;> cases rows' <;> simp [keysOf] at this ⊢
theorem free_keys {rows : Rows} {s : Bool} {n : Int} (h : n ∈ freeP rows s) : n ∈ keysOf rows := mem_sortI.mp (List.mem_filter.mp h).1
theorem Alike.put : ∀ (k : Nat) {rows rows' : Rows}, Alike rows rows' → putP k rows = putP k rows'
  | 0, rows, rows', h => by simp only [putP, h.empty]
  | k + 1, rows, rows', h => by
    simp only [putP, h.empty, h.free]
    split
    · rfl
    · cases hall : freeP rows' false ++ freeP rows' true with
      | nil => rfl
      | cons n l =>
        dsimp only
        have hn : n ∈ keysOf rows := by
          rw [h.1]
          have : n ∈ freeP rows' false ++ freeP rows' true := by rw [hall]; exact List.mem_cons_self
          rcases List.mem_append.mp this with z | z
          · exact free_keys z
          · exact free_keys z
        rw [Alike.put k (h.without n), h.waits hn]
/-! ### it is told just if nothing needed goes round -/
theorem put_none_of_ring : ∀ (k : Nat) {left : Rows} {L : List Int}, L ≠ [] → (∀ n ∈ L, n ∈ keysOf left) → (∀ n ∈ L, ∃ o ∈ L, (o, true) ∈ tiesAt left n) → putP k left = none
  | k, left, L, h0, h1, h2 => by
    obtain ⟨x, hx⟩ := List.exists_mem_of_ne_nil L h0
    have hle : left.isEmpty = false := by
      have := h1 x hx
      cases left with
      | nil => simp [keysOf] at this
      | cons a b => rfl
    cases k with
    | zero => simp [putP, hle]
    | succ k =>
      cases hall : freeP left false ++ freeP left true with
      | nil => simp [putP, hle, hall]
      | cons n l =>
        rw [putP_go hle hall]
        have hm : n ∈ freeP left false ++ freeP left true := by rw [hall]; exact List.mem_cons_self
        have hw : ∀ o ∈ keysOf left, (o, true) ∉ tiesAt left n := by
          rcases List.mem_append.mp hm with z | z
          · exact fun o ho => ((waits_nil_iff.mp (List.mem_filter.mp z).2) o ho).1
          · exact fun o ho => ((waits_nil_iff.mp (List.mem_filter.mp z).2) o ho).1
        have hnL : n ∉ L := fun z => by
          obtain ⟨o, ho, ht⟩ := h2 n z
          exact hw o (h1 o ho) ht
        have ne : ∀ m ∈ L, m ≠ n := fun m hm e => hnL (e ▸ hm)
        rw [put_none_of_ring k (left := without left n) (L := L) h0 (fun m hm => by rw [keysOf_without, List.mem_filter]; exact ⟨h1 m hm, by simpa using ne m hm⟩) (fun m hm => by rw [tiesAt_without (ne m hm)]; exact h2 m hm)]
        rfl
theorem put_some_of : ∀ (k : Nat) {left : Rows}, left.length ≤ k → (keysOf left).Nodup → (∀ L : List Int, L ≠ [] → (∀ n ∈ L, n ∈ keysOf left) → ∃ n ∈ L, ∀ o ∈ L, (o, true) ∉ tiesAt left n) → ∃ out, putP k left = some out
  | k, left, hk, hn, h => by
    cases hle : left.isEmpty with
    | true =>
      have e : left = [] := List.isEmpty_iff.mp hle
      subst e
      cases k <;> exact ⟨[], rfl⟩
    | false =>
      have h0 : keysOf left ≠ [] := by cases left with | nil => simp at hle | cons a b => simp [keysOf]
      cases k with
      | zero =>
        cases left with
        | nil => simp at hle
        | cons a b => simp at hk
      | succ k =>
        obtain ⟨n, hnk, hw⟩ := h (keysOf left) h0 fun n hn => hn
        have hf : n ∈ freeP left true := List.mem_filter.mpr ⟨mem_sortI.mpr hnk, waits_nil_iff.mpr fun o ho => ⟨hw o ho, fun z => by cases z⟩⟩
        cases hall : freeP left false ++ freeP left true with
        | nil =>
          have : n ∈ freeP left false ++ freeP left true := List.mem_append_right _ hf
          rw [hall] at this
          cases this
        | cons m l =>
          rw [putP_go hle hall]
          have hmk : m ∈ keysOf left := by
            have : m ∈ freeP left false ++ freeP left true := by rw [hall]; exact List.mem_cons_self
            rcases List.mem_append.mp this with z | z
            · exact free_keys z
            · exact free_keys z
          have hwl := without_length hn hmk
          obtain ⟨out, ho⟩ := put_some_of k (left := without left m) (by omega) (nodup_without hn) fun L hL hs => by
            have hs' : ∀ n ∈ L, n ∈ keysOf left ∧ n ≠ m := fun n hn => by
              have := hs n hn
              rw [keysOf_without, List.mem_filter] at this
              exact ⟨this.1, by simpa using this.2⟩
            obtain ⟨x, hx, hxw⟩ := h L hL fun n hn => (hs' n hn).1
            exact ⟨x, hx, fun o ho => by rw [tiesAt_without (hs' x hx).2]; exact hxw o ho⟩
          exact ⟨_, by rw [ho]; rfl⟩
end Mp

namespace Mp
open PySem
/-! ### who holds, orders of strikes -/
def holdP (rows : Rows) (n : Int) (s : Bool) : List Int := (sortI (keysOf rows)).filter fun o => !(o == n) && (waitsP (keysOf rows) (tiesAt rows o) s).contains n
def freeS (left : Rows) (s : Bool) : List Int := (sortI (keysOf left)).filter fun n => (holdP left n s).isEmpty
def strikeP : Nat → Rows → Option (List (Int × List Int))
  | 0, left => if left.isEmpty = true then some [] else none
  | k + 1, left => if left.isEmpty = true then some [] else match freeS left false ++ freeS left true with
    | [] => none
    | n :: _ => (strikeP k (without left n)).map ((n, holdP left n false) :: ·)
theorem mem_holdP {rows : Rows} {n o : Int} {s : Bool} : o ∈ holdP rows n s ↔ o ∈ keysOf rows ∧ o ≠ n ∧ n ∈ keysOf rows ∧ ((n, true) ∈ tiesAt rows o ∨ s = false ∧ (n, false) ∈ tiesAt rows o) := by
  unfold holdP waitsP
  simp only [List.mem_filter, mem_sortI, List.contains_iff_mem, Bool.and_eq_true, Bool.not_eq_true', beq_eq_false_iff_ne, Bool.or_eq_true]
theorem holdP_up {rows : Rows} {n : Int} {s : Bool} : (holdP rows n s).Pairwise (· ≤ ·) := (sortI_srt _).filter _
/-- rows of the same numbers, whose ties to other ones tell the same of these -/
def AlikeD (rows rows' : Rows) : Prop := keysOf rows = keysOf rows' ∧ ∀ n ∈ keysOf rows, ∀ o ∈ keysOf rows, o ≠ n → ∀ b, (o, b) ∈ tiesAt rows n ↔ (o, b) ∈ tiesAt rows' n
theorem Alike.d {rows rows' : Rows} (h : Alike rows rows') : AlikeD rows rows' := ⟨h.1, fun n hn o ho _ b => h.2 n hn o ho b⟩
theorem AlikeD.hold {rows rows' : Rows} (h : AlikeD rows rows') (n : Int) (s : Bool) : holdP rows n s = holdP rows' n s := by
  unfold holdP
  rw [← h.1]
  apply List.filter_congr
  intro o ho
  have ho := mem_sortI.mp ho
  by_cases e : o = n
  · simp [e]
  · congr 1
    rw [Bool.eq_iff_iff]
    unfold waitsP
    simp only [List.contains_iff_mem, List.mem_filter, mem_sortI, Bool.or_eq_true, Bool.and_eq_true]
    constructor
    · rintro ⟨h1, h2⟩
      exact ⟨h1, h2.imp (fun z => (h.2 o ho n h1 (Ne.symm e) true).mp z) fun z => ⟨z.1, (h.2 o ho n h1 (Ne.symm e) false).mp z.2⟩⟩
    · rintro ⟨h1, h2⟩
      exact ⟨h1, h2.imp (fun z => (h.2 o ho n h1 (Ne.symm e) true).mpr z) fun z => ⟨z.1, (h.2 o ho n h1 (Ne.symm e) false).mpr z.2⟩⟩
theorem AlikeD.freeS {rows rows' : Rows} (h : AlikeD rows rows') (s : Bool) : Mp.freeS rows s = Mp.freeS rows' s := by
  unfold Mp.freeS
  rw [← h.1]
  apply List.filter_congr
  intro n _
  rw [h.hold]
theorem AlikeD.without {rows rows' : Rows} (h : AlikeD rows rows') (n : Int) : AlikeD (without rows n) (without rows' n) := by
  refine ⟨by rw [keysOf_without, keysOf_without, h.1], fun m hm o ho hne b => ?_⟩
  rw [keysOf_without, List.mem_filter] at hm ho
  have e : m ≠ n := by simpa using hm.2
  rw [tiesAt_without e, tiesAt_without e]
  exact h.2 m hm.1 o ho.1 hne b
theorem AlikeD.empty {rows rows' : Rows} (h : AlikeD rows rows') : rows.isEmpty = rows'.isEmpty := by
  have := h.1
  cases rows <;> cases rows' <;> simp [keysOf] at this ⊢
theorem AlikeD.strike : ∀ (k : Nat) {rows rows' : Rows}, AlikeD rows rows' → strikeP k rows = strikeP k rows'
  | 0, rows, rows', h => by simp only [strikeP, h.empty]
  | k + 1, rows, rows', h => by
    simp only [strikeP, h.empty, h.freeS, h.hold]
    split
    · rfl
    · cases Mp.freeS rows' false ++ Mp.freeS rows' true with
      | nil => rfl
      | cons n l =>
        dsimp only
        rw [AlikeD.strike k (h.without n)]
theorem Alike.strike (k : Nat) {rows rows' : Rows} (h : Alike rows rows') : strikeP k rows = strikeP k rows' := h.d.strike k
theorem strikeP_go {k : Nat} {left : Rows} {n : Int} {l : List Int} (h : left.isEmpty = false) (hf : freeS left false ++ freeS left true = n :: l) : strikeP (k + 1) left = (strikeP k (without left n)).map ((n, holdP left n false) :: ·) := by
  simp only [strikeP, h, hf]
  rfl
theorem freeS_keys {rows : Rows} {s : Bool} {n : Int} (h : n ∈ freeS rows s) : n ∈ keysOf rows := mem_sortI.mp (List.mem_filter.mp h).1
/-- rows whose ties are the same, but for those to n -/
def Near (n : Int) (rows rows' : Rows) : Prop := keysOf rows = keysOf rows' ∧ ∀ m ∈ keysOf rows, ∀ o, o ≠ n → ∀ b, (o, b) ∈ tiesAt rows m ↔ (o, b) ∈ tiesAt rows' m
theorem Near.refl {n : Int} {rows : Rows} : Near n rows rows := ⟨rfl, fun _ _ _ _ _ => Iff.rfl⟩
theorem Near.alike {n : Int} {rows rows' : Rows} (h : Near n rows rows') : Alike (without rows n) (without rows' n) := by
  refine ⟨by rw [keysOf_without, keysOf_without, h.1], fun m hm o ho b => ?_⟩
  rw [keysOf_without, List.mem_filter] at hm ho
  have e1 : m ≠ n := by simpa using hm.2
  have e2 : o ≠ n := by simpa using ho.2
  rw [tiesAt_without e1, tiesAt_without e1]
  exact h.2 m hm.1 o e2 b
def untie (rows : Rows) (o n : Int) : Rows := rows.map fun r => if r.1 == o then (r.1, r.2.filter fun t => !(t.1 == n)) else r
theorem keys_untie (rows : Rows) (o n : Int) : keysOf (untie rows o n) = keysOf rows := by
  unfold keysOf untie
  rw [List.map_map]
  apply List.map_congr_left
  intro r _
  simp only [Function.comp]
  split <;> rfl
theorem tiesOf_untie (rows : Rows) (o n m : Int) : tiesOf (untie rows o n) m = (tiesOf rows m).map fun ts => if m == o then ts.filter fun t => !(t.1 == n) else ts := by
  unfold tiesOf untie
  induction rows with
  | nil => rfl
  | cons r rows ih =>
    simp only [List.map_cons, List.find?_cons]
    have e : (if r.1 == o then (r.1, r.2.filter fun t => !(t.1 == n)) else r).1 = r.1 := by split <;> rfl
    rw [e]
    cases h : r.1 == m with
    | true =>
      have : r.1 = m := by simpa using h
      subst this
      simp only [Option.map_some]
      split <;> rfl
    | false => exact ih
theorem Near.untie {n : Int} {rows rows' : Rows} (h : Near n rows rows') (o : Int) : Near n rows (Mp.untie rows' o n) := by
  refine ⟨by rw [keys_untie]; exact h.1, fun m hm p hp b => ?_⟩
  rw [h.2 m hm p hp b]
  unfold tiesAt
  rw [tiesOf_untie]
  cases tiesOf rows' m with
  | none => rfl
  | some ts =>
    simp only [Option.map_some, Option.getD_some]
    split
    · rw [List.mem_filter]
      simp [hp]
    · rfl
theorem untie_lens {rows : Rows} {o n : Int} {B : Nat} (h : ∀ r ∈ rows, r.2.length < B) : ∀ r ∈ untie rows o n, r.2.length < B := by
  intro r hr
  obtain ⟨r0, h0, rfl⟩ := List.mem_map.mp hr
  have := h r0 h0
  split
  · exact Nat.lt_of_le_of_lt (List.length_filter_le ..) this
  · exact this
section
variable {QD : D → Sto → Prop} {E : Nat → Sto → Prop} {S : Sto}
theorem in_intsT {ns : List Int} {o : Int} : (gIn (.int o) (.tup (ns.map .int)) S).sat QD E = QD (.bl (ns.contains o)) S := by
  simp only [gIn, inB_ints (S := S) (b := .tup (ns.map .int)) (ns := ns) rfl (fun z h => by cases h), sat_ok]
theorem holders_sat {rows : Rows} {r : Nat} {lk : Bool} {n : Int} {s : Bool} (h : S[r]? = some (.dct lk (rows.map kRow))) (hl : rows.length < 64)
    (q : ∀ S', Ext S S' → QD (.tup ((holdP rows n s).map .int)) S') : (m_holders [.ref r, .int n, .bl s] S).sat QD E := by
  unfold m_holders
  refine run_sat ?_
  unfold b_holders c_holders_1
  simp only [sSeq_sat, sExpr_sat, sSet_sat, sIf_sat, sRet_sat, sNil_sat, sAsg_sat, sPar_sat, sPar3_sat, sSub_sat, sTry_sat, sRaise_sat, sBreak_sat, sCont_sat, sFld_sat, tryH_nil, tryH_cons, eML_sat, eMD_sat, eVar_sat, eC_sat, eB_sat, eBin_sat, eUn_sat, eCall_sat, eTup_sat, eLst_sat, eLstM_sat, eDNew_sat, eIf_sat, eAnd_sat, eOr_sat, eNot_sat, eT_sat, eSl_sat, oNone_sat, oSome_sat, eFld_sat, eMake_sat, eMeth_sat, eRgL1_sat, eRgL2_sat, eChain_sat, aCons_sat, aNil_sat, tTru_sat, tNot_sat, tAnd_sat, tOr_sat, tYes_sat, tCmp_sat, tVal_sat, iSeq_sat, iRng1_sat, iRng2_sat, iZip_sat, iEnum_sat, iStr_sat, asg_nm, asg_tp, asgs_cons, asgs_nil, wipe_nil, wipe_cons, items_tup, items_lst, items_kls, held_tup, held_lst, held_kls, still_nil, truth_bl, truth_tup, truth_lst, truth_kls, truth_int, truth_non, gAdd_int, gSub_int, gLt_int, gLe_int, gGt_int, gGe_int, gAdd_tup, gAdd_lst, gIsN_non, gNotN_non, bLen_tup, bLen_lst, bLen_kls, bTuple_lst, bTuple_tup, litems_lst, sat_ok, List.map_cons, List.map_nil, List.cons_append, List.nil_append, List.length_cons, List.length_nil, List.replicate, List.getElem?_cons_zero, List.getElem?_cons_succ, List.set_cons_zero, List.set_cons_succ, List.isEmpty_cons, List.isEmpty_nil, Nat.reduceSub, Nat.reduceAdd, Nat.zero_add, line0, line1, line2, line3, line4, line5, line6, line7, line8, true_and, and_true, if_true, if_false, Bool.false_eq_true, Bool.not_true, Bool.not_false, reduceCtorEq]
  refine comp_of_list (sortI (keysOf rows)) D.int (fun o => !(o == n) && (waitsP (keysOf rows) (tiesAt rows o) s).contains n) D.int ?_ ?_ ?_ ?_
  · simp only [sSeq_sat, sExpr_sat, sSet_sat, sIf_sat, sRet_sat, sNil_sat, sAsg_sat, sPar_sat, sPar3_sat, sSub_sat, sTry_sat, sRaise_sat, sBreak_sat, sCont_sat, sFld_sat, tryH_nil, tryH_cons, eML_sat, eMD_sat, eVar_sat, eC_sat, eB_sat, eBin_sat, eUn_sat, eCall_sat, eTup_sat, eLst_sat, eLstM_sat, eDNew_sat, eIf_sat, eAnd_sat, eOr_sat, eNot_sat, eT_sat, eSl_sat, oNone_sat, oSome_sat, eFld_sat, eMake_sat, eMeth_sat, eRgL1_sat, eRgL2_sat, eChain_sat, aCons_sat, aNil_sat, tTru_sat, tNot_sat, tAnd_sat, tOr_sat, tYes_sat, tCmp_sat, tVal_sat, iSeq_sat, iRng1_sat, iRng2_sat, iZip_sat, iEnum_sat, iStr_sat, asg_nm, asg_tp, asgs_cons, asgs_nil, wipe_nil, wipe_cons, items_tup, items_lst, items_kls, held_tup, held_lst, held_kls, still_nil, truth_bl, truth_tup, truth_lst, truth_kls, truth_int, truth_non, gAdd_int, gSub_int, gLt_int, gLe_int, gGt_int, gGe_int, gAdd_tup, gAdd_lst, gIsN_non, gNotN_non, bLen_tup, bLen_lst, bLen_kls, bTuple_lst, bTuple_tup, litems_lst, sat_ok, List.map_cons, List.map_nil, List.cons_append, List.nil_append, List.length_cons, List.length_nil, List.replicate, List.getElem?_cons_zero, List.getElem?_cons_succ, List.set_cons_zero, List.set_cons_succ, List.isEmpty_cons, List.isEmpty_nil, Nat.reduceSub, Nat.reduceAdd, Nat.zero_add, line0, line1, line2, line3, line4, line5, line6, line7, line8, true_and, and_true, if_true, if_false, Bool.false_eq_true, Bool.not_true, Bool.not_false, reduceCtorEq]
    rw [sorted_dict h hl]
    exact ⟨rfl, Ext.refl⟩
  · rw [sortI_length, keysOf, List.length_map]; show _ ≤ 16777216; omega
  · intro o ho S1 h1
    refine ⟨_, asg_nm, ?_⟩
    simp only [sSeq_sat, sExpr_sat, sSet_sat, sIf_sat, sRet_sat, sNil_sat, sAsg_sat, sPar_sat, sPar3_sat, sSub_sat, sTry_sat, sRaise_sat, sBreak_sat, sCont_sat, sFld_sat, tryH_nil, tryH_cons, eML_sat, eMD_sat, eVar_sat, eC_sat, eB_sat, eBin_sat, eUn_sat, eCall_sat, eTup_sat, eLst_sat, eLstM_sat, eDNew_sat, eIf_sat, eAnd_sat, eOr_sat, eNot_sat, eT_sat, eSl_sat, oNone_sat, oSome_sat, eFld_sat, eMake_sat, eMeth_sat, eRgL1_sat, eRgL2_sat, eChain_sat, aCons_sat, aNil_sat, tTru_sat, tNot_sat, tAnd_sat, tOr_sat, tYes_sat, tCmp_sat, tVal_sat, iSeq_sat, iRng1_sat, iRng2_sat, iZip_sat, iEnum_sat, iStr_sat, asg_nm, asg_tp, asgs_cons, asgs_nil, wipe_nil, wipe_cons, items_tup, items_lst, items_kls, held_tup, held_lst, held_kls, still_nil, truth_bl, truth_tup, truth_lst, truth_kls, truth_int, truth_non, gAdd_int, gSub_int, gLt_int, gLe_int, gGt_int, gGe_int, gAdd_tup, gAdd_lst, gIsN_non, gNotN_non, bLen_tup, bLen_lst, bLen_kls, bTuple_lst, bTuple_tup, litems_lst, sat_ok, List.map_cons, List.map_nil, List.cons_append, List.nil_append, List.length_cons, List.length_nil, List.replicate, List.getElem?_cons_zero, List.getElem?_cons_succ, List.set_cons_zero, List.set_cons_succ, List.isEmpty_cons, List.isEmpty_nil, Nat.reduceSub, Nat.reduceAdd, Nat.zero_add, line0, line1, line2, line3, line4, line5, line6, line7, line8, true_and, and_true, if_true, if_false, Bool.false_eq_true, Bool.not_true, Bool.not_false, reduceCtorEq]
    rw [ne_ints]
    by_cases e : o = n
    · subst e
      simp
      exact h1
    · have e2 : (o == n) = false := by simp [e]
      rw [e2]
      simp only [sSeq_sat, sExpr_sat, sSet_sat, sIf_sat, sRet_sat, sNil_sat, sAsg_sat, sPar_sat, sPar3_sat, sSub_sat, sTry_sat, sRaise_sat, sBreak_sat, sCont_sat, sFld_sat, tryH_nil, tryH_cons, eML_sat, eMD_sat, eVar_sat, eC_sat, eB_sat, eBin_sat, eUn_sat, eCall_sat, eTup_sat, eLst_sat, eLstM_sat, eDNew_sat, eIf_sat, eAnd_sat, eOr_sat, eNot_sat, eT_sat, eSl_sat, oNone_sat, oSome_sat, eFld_sat, eMake_sat, eMeth_sat, eRgL1_sat, eRgL2_sat, eChain_sat, aCons_sat, aNil_sat, tTru_sat, tNot_sat, tAnd_sat, tOr_sat, tYes_sat, tCmp_sat, tVal_sat, iSeq_sat, iRng1_sat, iRng2_sat, iZip_sat, iEnum_sat, iStr_sat, asg_nm, asg_tp, asgs_cons, asgs_nil, wipe_nil, wipe_cons, items_tup, items_lst, items_kls, held_tup, held_lst, held_kls, still_nil, truth_bl, truth_tup, truth_lst, truth_kls, truth_int, truth_non, gAdd_int, gSub_int, gLt_int, gLe_int, gGt_int, gGe_int, gAdd_tup, gAdd_lst, gIsN_non, gNotN_non, bLen_tup, bLen_lst, bLen_kls, bTuple_lst, bTuple_tup, litems_lst, sat_ok, List.map_cons, List.map_nil, List.cons_append, List.nil_append, List.length_cons, List.length_nil, List.replicate, List.getElem?_cons_zero, List.getElem?_cons_succ, List.set_cons_zero, List.set_cons_succ, List.isEmpty_cons, List.isEmpty_nil, Nat.reduceSub, Nat.reduceAdd, Nat.zero_add, line0, line1, line2, line3, line4, line5, line6, line7, line8, true_and, and_true, if_true, if_false, Bool.false_eq_true, Bool.not_true, Bool.not_false, reduceCtorEq]
      obtain ⟨ts, ht, _⟩ := tiesOf_mem (mem_sortI.mp ho)
      have et : tiesAt rows o = ts := by unfold tiesAt; rw [ht]; rfl
      refine waits_sat (h1.get h) hl ht fun S2 h2 => ?_
      rw [in_intsT, et]
      exact ⟨h1.trans h2, rfl, fun _ => h1.trans h2⟩
  · intro S' hS
    rw [bTuple_lst]
    exact q S' hS
theorem eq_unit {l : List Int} : (gEq (.tup (l.map .int)) (.tup []) S).sat QD E = QD (.bl l.isEmpty) S := by
  rw [eq_of (c := l.isEmpty) (tupI_plain l) rfl (by simp [D.dep, D.deps]) (by cases l <;> simp [D.eqv, D.eqvs])]
theorem freeS_sat {left : Rows} {r : Nat} {s : Bool} {x0 x1 x3 x4 x5 x6 x7 : Option D} {c : Ev} (hc : c = eComp (iSeq (eB bSortedDI (aCons (eVar 2) (aNil)))) (.nm 4) (tCmp gEq (eCall (m_holders) (aCons (eVar 2) (aCons (eVar 4) (aCons (eC (.bl s)) (aNil))))) (eTup (aNil))) (eVar 4) [4])
    (h : S[r]? = some (.dct false (left.map kRow))) (hl : left.length < 64) (q : ∀ S', Ext S S' → QD (.lst ((freeS left s).map .int)) S') : (c [x0, x1, some (.ref r), x3, x4, x5, x6, x7] S).sat QD E := by
  subst hc
  refine comp_of_list (sortI (keysOf left)) D.int (fun n => (holdP left n s).isEmpty) D.int ?_ ?_ ?_ q
  · simp only [sSeq_sat, sExpr_sat, sSet_sat, sIf_sat, sRet_sat, sNil_sat, sAsg_sat, sPar_sat, sPar3_sat, sSub_sat, sTry_sat, sRaise_sat, sBreak_sat, sCont_sat, sFld_sat, tryH_nil, tryH_cons, eML_sat, eMD_sat, eVar_sat, eC_sat, eB_sat, eBin_sat, eUn_sat, eCall_sat, eTup_sat, eLst_sat, eLstM_sat, eDNew_sat, eIf_sat, eAnd_sat, eOr_sat, eNot_sat, eT_sat, eSl_sat, oNone_sat, oSome_sat, eFld_sat, eMake_sat, eMeth_sat, eRgL1_sat, eRgL2_sat, eChain_sat, aCons_sat, aNil_sat, tTru_sat, tNot_sat, tAnd_sat, tOr_sat, tYes_sat, tCmp_sat, tVal_sat, iSeq_sat, iRng1_sat, iRng2_sat, iZip_sat, iEnum_sat, iStr_sat, asg_nm, asg_tp, asgs_cons, asgs_nil, wipe_nil, wipe_cons, items_tup, items_lst, items_kls, held_tup, held_lst, held_kls, still_nil, truth_bl, truth_tup, truth_lst, truth_kls, truth_int, truth_non, gAdd_int, gSub_int, gLt_int, gLe_int, gGt_int, gGe_int, gAdd_tup, gAdd_lst, gIsN_non, gNotN_non, bLen_tup, bLen_lst, bLen_kls, bTuple_lst, bTuple_tup, litems_lst, sat_ok, List.map_cons, List.map_nil, List.cons_append, List.nil_append, List.length_cons, List.length_nil, List.replicate, List.getElem?_cons_zero, List.getElem?_cons_succ, List.set_cons_zero, List.set_cons_succ, List.isEmpty_cons, List.isEmpty_nil, Nat.reduceSub, Nat.reduceAdd, Nat.zero_add, line0, line1, line2, line3, line4, line5, line6, line7, line8, true_and, and_true, if_true, if_false, Bool.false_eq_true, Bool.not_true, Bool.not_false, reduceCtorEq]
    rw [sorted_dict h hl]
    exact ⟨rfl, Ext.refl⟩
  · rw [sortI_length, keysOf, List.length_map]; show _ ≤ 16777216; omega
  · intro o ho S1 h1
    refine ⟨_, asg_nm, ?_⟩
    simp only [sSeq_sat, sExpr_sat, sSet_sat, sIf_sat, sRet_sat, sNil_sat, sAsg_sat, sPar_sat, sPar3_sat, sSub_sat, sTry_sat, sRaise_sat, sBreak_sat, sCont_sat, sFld_sat, tryH_nil, tryH_cons, eML_sat, eMD_sat, eVar_sat, eC_sat, eB_sat, eBin_sat, eUn_sat, eCall_sat, eTup_sat, eLst_sat, eLstM_sat, eDNew_sat, eIf_sat, eAnd_sat, eOr_sat, eNot_sat, eT_sat, eSl_sat, oNone_sat, oSome_sat, eFld_sat, eMake_sat, eMeth_sat, eRgL1_sat, eRgL2_sat, eChain_sat, aCons_sat, aNil_sat, tTru_sat, tNot_sat, tAnd_sat, tOr_sat, tYes_sat, tCmp_sat, tVal_sat, iSeq_sat, iRng1_sat, iRng2_sat, iZip_sat, iEnum_sat, iStr_sat, asg_nm, asg_tp, asgs_cons, asgs_nil, wipe_nil, wipe_cons, items_tup, items_lst, items_kls, held_tup, held_lst, held_kls, still_nil, truth_bl, truth_tup, truth_lst, truth_kls, truth_int, truth_non, gAdd_int, gSub_int, gLt_int, gLe_int, gGt_int, gGe_int, gAdd_tup, gAdd_lst, gIsN_non, gNotN_non, bLen_tup, bLen_lst, bLen_kls, bTuple_lst, bTuple_tup, litems_lst, sat_ok, List.map_cons, List.map_nil, List.cons_append, List.nil_append, List.length_cons, List.length_nil, List.replicate, List.getElem?_cons_zero, List.getElem?_cons_succ, List.set_cons_zero, List.set_cons_succ, List.isEmpty_cons, List.isEmpty_nil, Nat.reduceSub, Nat.reduceAdd, Nat.zero_add, line0, line1, line2, line3, line4, line5, line6, line7, line8, true_and, and_true, if_true, if_false, Bool.false_eq_true, Bool.not_true, Bool.not_false, reduceCtorEq]
    refine holders_sat (h1.get h) hl fun S2 h2 => ?_
    rw [eq_unit]
    exact ⟨h1.trans h2, rfl, fun _ => h1.trans h2⟩
theorem tiesOf_of {rows : Rows} {o : Int} {ts : Ties} (hn : (keysOf rows).Nodup) (h : (o, ts) ∈ rows) : tiesOf rows o = some ts := by
  unfold tiesOf
  induction rows with
  | nil => cases h
  | cons r rows ih =>
    have hn' : (r.1 :: keysOf rows).Nodup := hn
    rw [List.nodup_cons] at hn'
    rw [List.find?_cons]
    rcases List.mem_cons.mp h with e | e
    · subst e
      simp
    · have : (r.1 == o) = false := by
        rw [beq_eq_false_iff_ne]
        intro z
        exact hn'.1 (z ▸ List.mem_map.mpr ⟨_, e, rfl⟩)
      rw [this]
      exact ih hn'.2 e
theorem two_ways {A B : Bool} {T F : Prop} (h : A = true → B = true → False) (hT : T) : if A = true then (if B = true then F else T) else T := by
  cases A with
  | false => exact hT
  | true =>
    cases B with
    | false => exact hT
    | true => exact (h rfl rfl).elim
theorem kput_rows {rows : Rows} {o : Int} {n : Int} (h : o ∈ keysOf rows) (hn : (keysOf rows).Nodup) {ts : Ties} (ht : tiesOf rows o = some ts) : kput (rows.map kRow) (.int o) (eTies (ts.filter fun t => !(t.1 == n))) = (untie rows o n).map kRow := by
  have hk : khas (rows.map kRow) (.int o) = true := by rw [khas_rows]; simpa [keysOf] using h
  unfold kput
  rw [hk, if_pos rfl]
  unfold untie
  rw [List.map_map, List.map_map]
  apply List.map_congr_left
  intro r hr
  simp only [Function.comp]
  show (if (D.int r.1).keq (.int o) = true then _ else _) = _
  rw [keq_int]
  by_cases e : r.1 = o
  · have e2 : (r.1 == o) = true := by simp [e]
    rw [e2, if_pos rfl, if_pos rfl]
    have : r.2 = ts := by
      have : tiesOf rows o = some r.2 := tiesOf_of hn (by rw [← e]; exact hr)
      rw [this] at ht
      exact Option.some.inj ht
    rw [this]
    rfl
  · have e2 : (r.1 == o) = false := by simp [e]
    rw [e2, if_neg Bool.false_ne_true, if_neg Bool.false_ne_true]
theorem drop_sat {ts : Ties} {n : Int} {kv : List (D × D)} {r : Nat} {o : Int} {x0 x1 x3 x5 x7 : Option D} (h : S[r]? = some (.dct false kv)) (hk : kget kv (.int o) = some (eTies ts)) (hl : ts.length < 64) (q : ∀ S', Ext S S' → QD (.lst ((ts.filter fun t => !(t.1 == n)).map eTie)) S') :
    (c_strike_order_3 [x0, x1, some (.ref r), x3, some (.int n), x5, some (.int o), x7] S).sat QD E := by
  unfold c_strike_order_3
  refine comp_of_list ts eTie (fun t => !(t.1 == n)) eTie ?_ (by show _ ≤ 16777216; omega) ?_ q
  · simp only [sSeq_sat, sExpr_sat, sSet_sat, sIf_sat, sRet_sat, sNil_sat, sAsg_sat, sPar_sat, sPar3_sat, sSub_sat, sTry_sat, sRaise_sat, sBreak_sat, sCont_sat, sFld_sat, tryH_nil, tryH_cons, eML_sat, eMD_sat, eVar_sat, eC_sat, eB_sat, eBin_sat, eUn_sat, eCall_sat, eTup_sat, eLst_sat, eLstM_sat, eDNew_sat, eIf_sat, eAnd_sat, eOr_sat, eNot_sat, eT_sat, eSl_sat, oNone_sat, oSome_sat, eFld_sat, eMake_sat, eMeth_sat, eRgL1_sat, eRgL2_sat, eChain_sat, aCons_sat, aNil_sat, tTru_sat, tNot_sat, tAnd_sat, tOr_sat, tYes_sat, tCmp_sat, tVal_sat, iSeq_sat, iRng1_sat, iRng2_sat, iZip_sat, iEnum_sat, iStr_sat, asg_nm, asg_tp, asgs_cons, asgs_nil, wipe_nil, wipe_cons, items_tup, items_lst, items_kls, held_tup, held_lst, held_kls, still_nil, truth_bl, truth_tup, truth_lst, truth_kls, truth_int, truth_non, gAdd_int, gSub_int, gLt_int, gLe_int, gGt_int, gGe_int, gAdd_tup, gAdd_lst, gIsN_non, gNotN_non, bLen_tup, bLen_lst, bLen_kls, bTuple_lst, bTuple_tup, litems_lst, sat_ok, List.map_cons, List.map_nil, List.cons_append, List.nil_append, List.length_cons, List.length_nil, List.replicate, List.getElem?_cons_zero, List.getElem?_cons_succ, List.set_cons_zero, List.set_cons_succ, List.isEmpty_cons, List.isEmpty_nil, Nat.reduceSub, Nat.reduceAdd, Nat.zero_add, line0, line1, line2, line3, line4, line5, line6, line7, line8, true_and, and_true, if_true, if_false, Bool.false_eq_true, Bool.not_true, Bool.not_false, reduceCtorEq]
    rw [ix_dict' h hk]
    exact ⟨rfl, Ext.refl⟩
  · rintro ⟨p, b⟩ _ S1 h1
    refine ⟨_, asg_nm, ?_⟩
    simp only [sSeq_sat, sExpr_sat, sSet_sat, sIf_sat, sRet_sat, sNil_sat, sAsg_sat, sPar_sat, sPar3_sat, sSub_sat, sTry_sat, sRaise_sat, sBreak_sat, sCont_sat, sFld_sat, tryH_nil, tryH_cons, eML_sat, eMD_sat, eVar_sat, eC_sat, eB_sat, eBin_sat, eUn_sat, eCall_sat, eTup_sat, eLst_sat, eLstM_sat, eDNew_sat, eIf_sat, eAnd_sat, eOr_sat, eNot_sat, eT_sat, eSl_sat, oNone_sat, oSome_sat, eFld_sat, eMake_sat, eMeth_sat, eRgL1_sat, eRgL2_sat, eChain_sat, aCons_sat, aNil_sat, tTru_sat, tNot_sat, tAnd_sat, tOr_sat, tYes_sat, tCmp_sat, tVal_sat, iSeq_sat, iRng1_sat, iRng2_sat, iZip_sat, iEnum_sat, iStr_sat, asg_nm, asg_tp, asgs_cons, asgs_nil, wipe_nil, wipe_cons, items_tup, items_lst, items_kls, held_tup, held_lst, held_kls, still_nil, truth_bl, truth_tup, truth_lst, truth_kls, truth_int, truth_non, gAdd_int, gSub_int, gLt_int, gLe_int, gGt_int, gGe_int, gAdd_tup, gAdd_lst, gIsN_non, gNotN_non, bLen_tup, bLen_lst, bLen_kls, bTuple_lst, bTuple_tup, litems_lst, sat_ok, List.map_cons, List.map_nil, List.cons_append, List.nil_append, List.length_cons, List.length_nil, List.replicate, List.getElem?_cons_zero, List.getElem?_cons_succ, List.set_cons_zero, List.set_cons_succ, List.isEmpty_cons, List.isEmpty_nil, Nat.reduceSub, Nat.reduceAdd, Nat.zero_add, line0, line1, line2, line3, line4, line5, line6, line7, line8, true_and, and_true, if_true, if_false, Bool.false_eq_true, Bool.not_true, Bool.not_false, reduceCtorEq, eTie, ixt0]
    rw [ne_ints]
    exact ⟨h1, rfl, fun _ => h1⟩
theorem strike_sat {rows : Rows} (hn : (keysOf rows).Nodup) (hl : rows.length < 64) (hts : ∀ r ∈ rows, r.2.length < 64) (q : ∀ out S', strikeP rows.length rows = some out → Ext S S' → QD (.tup (out.map eOut)) S') (qe : ∀ S', strikeP rows.length rows = none → Ext S S' → E 1 S') :
    (m_strike_order [.tup (rows.map eRow)] S).sat QD E := by
  unfold m_strike_order
  refine run_sat ?_
  unfold b_strike_order
  simp only [sSeq_sat, sExpr_sat, sSet_sat, sIf_sat, sRet_sat, sNil_sat, sAsg_sat, sPar_sat, sPar3_sat, sSub_sat, sTry_sat, sRaise_sat, sBreak_sat, sCont_sat, sFld_sat, tryH_nil, tryH_cons, eML_sat, eMD_sat, eVar_sat, eC_sat, eB_sat, eBin_sat, eUn_sat, eCall_sat, eTup_sat, eLst_sat, eLstM_sat, eDNew_sat, eIf_sat, eAnd_sat, eOr_sat, eNot_sat, eT_sat, eSl_sat, oNone_sat, oSome_sat, eFld_sat, eMake_sat, eMeth_sat, eRgL1_sat, eRgL2_sat, eChain_sat, aCons_sat, aNil_sat, tTru_sat, tNot_sat, tAnd_sat, tOr_sat, tYes_sat, tCmp_sat, tVal_sat, iSeq_sat, iRng1_sat, iRng2_sat, iZip_sat, iEnum_sat, iStr_sat, asg_nm, asg_tp, asgs_cons, asgs_nil, wipe_nil, wipe_cons, items_tup, items_lst, items_kls, held_tup, held_lst, held_kls, still_nil, truth_bl, truth_tup, truth_lst, truth_kls, truth_int, truth_non, gAdd_int, gSub_int, gLt_int, gLe_int, gGt_int, gGe_int, gAdd_tup, gAdd_lst, gIsN_non, gNotN_non, bLen_tup, bLen_lst, bLen_kls, bTuple_lst, bTuple_tup, litems_lst, sat_ok, List.map_cons, List.map_nil, List.cons_append, List.nil_append, List.length_cons, List.length_nil, List.replicate, List.getElem?_cons_zero, List.getElem?_cons_succ, List.set_cons_zero, List.set_cons_succ, List.isEmpty_cons, List.isEmpty_nil, Nat.reduceSub, Nat.reduceAdd, Nat.zero_add, line0, line1, line2, line3, line4, line5, line6, line7, line8, true_and, and_true, if_true, if_false, Bool.false_eq_true, Bool.not_true, Bool.not_false, reduceCtorEq]
  rw [dict_rows hn]
  refine sWhile_sat rows.length (by omega) (fun k ρ S' => ∃ left found x3 x4 x5 x6 x7, ρ = [some (.tup (rows.map eRow)), some (.tup (found.map eOut)), some (.ref S.length), x3, x4, x5, x6, x7] ∧ k = left.length ∧ S'[S.length]? = some (.dct false (left.map kRow)) ∧ Ext S S' ∧ (keysOf left).Nodup ∧
    (∀ r ∈ left, r.2.length < 64) ∧ found.length + left.length = rows.length ∧ strikeP rows.length rows = (strikeP left.length left).map (found ++ ·)) ⟨rows, [], none, none, none, none, none, by simp, rfl, by simp, Ext.push, hn, hts, by simp, by cases strikeP rows.length rows <;> simp⟩ ?_
  rintro k ρ S1 ⟨left, found, x3, x4, x5, x6, x7, rfl, rfl, hS, hE, hnd, htl, hlen, hp⟩
  by_cases hne : left = []
  · subst hne
    simp [hS]
    have hp' : strikeP rows.length rows = some found := by rw [hp]; simp [strikeP]
    exact q found S1 hp' hE
  · have hle : left.isEmpty = false := by cases left with | nil => exact absurd rfl hne | cons a b => rfl
    have em : (left.map kRow).isEmpty = false := by cases left with | nil => exact absurd rfl hne | cons a b => rfl
    have h0 : left.length ≠ 0 := fun z => hne (List.length_eq_zero_iff.mp z)
    simp only [sSeq_sat, sExpr_sat, sSet_sat, sIf_sat, sRet_sat, sNil_sat, sAsg_sat, sPar_sat, sPar3_sat, sSub_sat, sTry_sat, sRaise_sat, sBreak_sat, sCont_sat, sFld_sat, tryH_nil, tryH_cons, eML_sat, eMD_sat, eVar_sat, eC_sat, eB_sat, eBin_sat, eUn_sat, eCall_sat, eTup_sat, eLst_sat, eLstM_sat, eDNew_sat, eIf_sat, eAnd_sat, eOr_sat, eNot_sat, eT_sat, eSl_sat, oNone_sat, oSome_sat, eFld_sat, eMake_sat, eMeth_sat, eRgL1_sat, eRgL2_sat, eChain_sat, aCons_sat, aNil_sat, tTru_sat, tNot_sat, tAnd_sat, tOr_sat, tYes_sat, tCmp_sat, tVal_sat, iSeq_sat, iRng1_sat, iRng2_sat, iZip_sat, iEnum_sat, iStr_sat, asg_nm, asg_tp, asgs_cons, asgs_nil, wipe_nil, wipe_cons, items_tup, items_lst, items_kls, held_tup, held_lst, held_kls, still_nil, truth_bl, truth_tup, truth_lst, truth_kls, truth_int, truth_non, gAdd_int, gSub_int, gLt_int, gLe_int, gGt_int, gGe_int, gAdd_tup, gAdd_lst, gIsN_non, gNotN_non, bLen_tup, bLen_lst, bLen_kls, bTuple_lst, bTuple_tup, litems_lst, sat_ok, List.map_cons, List.map_nil, List.cons_append, List.nil_append, List.length_cons, List.length_nil, List.replicate, List.getElem?_cons_zero, List.getElem?_cons_succ, List.set_cons_zero, List.set_cons_succ, List.isEmpty_cons, List.isEmpty_nil, Nat.reduceSub, Nat.reduceAdd, Nat.zero_add, line0, line1, line2, line3, line4, line5, line6, line7, line8, true_and, and_true, if_true, if_false, Bool.false_eq_true, Bool.not_true, Bool.not_false, reduceCtorEq, truth_ref, hS]
    rw [em, if_pos (by rfl)]
    refine ⟨left.length - 1, by omega, ?_⟩
    unfold w_strike_order_1
    simp only [sSeq_sat, sExpr_sat, sSet_sat, sIf_sat, sRet_sat, sNil_sat, sAsg_sat, sPar_sat, sPar3_sat, sSub_sat, sTry_sat, sRaise_sat, sBreak_sat, sCont_sat, sFld_sat, tryH_nil, tryH_cons, eML_sat, eMD_sat, eVar_sat, eC_sat, eB_sat, eBin_sat, eUn_sat, eCall_sat, eTup_sat, eLst_sat, eLstM_sat, eDNew_sat, eIf_sat, eAnd_sat, eOr_sat, eNot_sat, eT_sat, eSl_sat, oNone_sat, oSome_sat, eFld_sat, eMake_sat, eMeth_sat, eRgL1_sat, eRgL2_sat, eChain_sat, aCons_sat, aNil_sat, tTru_sat, tNot_sat, tAnd_sat, tOr_sat, tYes_sat, tCmp_sat, tVal_sat, iSeq_sat, iRng1_sat, iRng2_sat, iZip_sat, iEnum_sat, iStr_sat, asg_nm, asg_tp, asgs_cons, asgs_nil, wipe_nil, wipe_cons, items_tup, items_lst, items_kls, held_tup, held_lst, held_kls, still_nil, truth_bl, truth_tup, truth_lst, truth_kls, truth_int, truth_non, gAdd_int, gSub_int, gLt_int, gLe_int, gGt_int, gGe_int, gAdd_tup, gAdd_lst, gIsN_non, gNotN_non, bLen_tup, bLen_lst, bLen_kls, bTuple_lst, bTuple_tup, litems_lst, sat_ok, List.map_cons, List.map_nil, List.cons_append, List.nil_append, List.length_cons, List.length_nil, List.replicate, List.getElem?_cons_zero, List.getElem?_cons_succ, List.set_cons_zero, List.set_cons_succ, List.isEmpty_cons, List.isEmpty_nil, Nat.reduceSub, Nat.reduceAdd, Nat.zero_add, line0, line1, line2, line3, line4, line5, line6, line7, line8, true_and, and_true, if_true, if_false, Bool.false_eq_true, Bool.not_true, Bool.not_false, reduceCtorEq]
    refine freeS_sat (s := false) rfl hS (by omega) fun S2 h2 => ?_
    simp only [sSeq_sat, sExpr_sat, sSet_sat, sIf_sat, sRet_sat, sNil_sat, sAsg_sat, sPar_sat, sPar3_sat, sSub_sat, sTry_sat, sRaise_sat, sBreak_sat, sCont_sat, sFld_sat, tryH_nil, tryH_cons, eML_sat, eMD_sat, eVar_sat, eC_sat, eB_sat, eBin_sat, eUn_sat, eCall_sat, eTup_sat, eLst_sat, eLstM_sat, eDNew_sat, eIf_sat, eAnd_sat, eOr_sat, eNot_sat, eT_sat, eSl_sat, oNone_sat, oSome_sat, eFld_sat, eMake_sat, eMeth_sat, eRgL1_sat, eRgL2_sat, eChain_sat, aCons_sat, aNil_sat, tTru_sat, tNot_sat, tAnd_sat, tOr_sat, tYes_sat, tCmp_sat, tVal_sat, iSeq_sat, iRng1_sat, iRng2_sat, iZip_sat, iEnum_sat, iStr_sat, asg_nm, asg_tp, asgs_cons, asgs_nil, wipe_nil, wipe_cons, items_tup, items_lst, items_kls, held_tup, held_lst, held_kls, still_nil, truth_bl, truth_tup, truth_lst, truth_kls, truth_int, truth_non, gAdd_int, gSub_int, gLt_int, gLe_int, gGt_int, gGe_int, gAdd_tup, gAdd_lst, gIsN_non, gNotN_non, bLen_tup, bLen_lst, bLen_kls, bTuple_lst, bTuple_tup, litems_lst, sat_ok, List.map_cons, List.map_nil, List.cons_append, List.nil_append, List.length_cons, List.length_nil, List.replicate, List.getElem?_cons_zero, List.getElem?_cons_succ, List.set_cons_zero, List.set_cons_succ, List.isEmpty_cons, List.isEmpty_nil, Nat.reduceSub, Nat.reduceAdd, Nat.zero_add, line0, line1, line2, line3, line4, line5, line6, line7, line8, true_and, and_true, if_true, if_false, Bool.false_eq_true, Bool.not_true, Bool.not_false, reduceCtorEq]
    refine freeS_sat (s := true) rfl (h2.get hS) (by omega) fun S3 h3 => ?_
    have h23 := h2.trans h3
    have hS3 := h23.get hS
    simp only [sSeq_sat, sExpr_sat, sSet_sat, sIf_sat, sRet_sat, sNil_sat, sAsg_sat, sPar_sat, sPar3_sat, sSub_sat, sTry_sat, sRaise_sat, sBreak_sat, sCont_sat, sFld_sat, tryH_nil, tryH_cons, eML_sat, eMD_sat, eVar_sat, eC_sat, eB_sat, eBin_sat, eUn_sat, eCall_sat, eTup_sat, eLst_sat, eLstM_sat, eDNew_sat, eIf_sat, eAnd_sat, eOr_sat, eNot_sat, eT_sat, eSl_sat, oNone_sat, oSome_sat, eFld_sat, eMake_sat, eMeth_sat, eRgL1_sat, eRgL2_sat, eChain_sat, aCons_sat, aNil_sat, tTru_sat, tNot_sat, tAnd_sat, tOr_sat, tYes_sat, tCmp_sat, tVal_sat, iSeq_sat, iRng1_sat, iRng2_sat, iZip_sat, iEnum_sat, iStr_sat, asg_nm, asg_tp, asgs_cons, asgs_nil, wipe_nil, wipe_cons, items_tup, items_lst, items_kls, held_tup, held_lst, held_kls, still_nil, truth_bl, truth_tup, truth_lst, truth_kls, truth_int, truth_non, gAdd_int, gSub_int, gLt_int, gLe_int, gGt_int, gGe_int, gAdd_tup, gAdd_lst, gIsN_non, gNotN_non, bLen_tup, bLen_lst, bLen_kls, bTuple_lst, bTuple_tup, litems_lst, sat_ok, List.map_cons, List.map_nil, List.cons_append, List.nil_append, List.length_cons, List.length_nil, List.replicate, List.getElem?_cons_zero, List.getElem?_cons_succ, List.set_cons_zero, List.set_cons_succ, List.isEmpty_cons, List.isEmpty_nil, Nat.reduceSub, Nat.reduceAdd, Nat.zero_add, line0, line1, line2, line3, line4, line5, line6, line7, line8, true_and, and_true, if_true, if_false, Bool.false_eq_true, Bool.not_true, Bool.not_false, reduceCtorEq]
    cases hall : freeS left false ++ freeS left true with
    | nil =>
      obtain ⟨e1, e2⟩ := List.append_eq_nil_iff.mp hall
      rw [e1, e2]
      simp
      refine qe S3 ?_ (hE.trans h23)
      have hl1 : left.length = (left.length - 1) + 1 := by omega
      rw [hp, hl1]
      have : strikeP (left.length - 1 + 1) left = none := by simp only [strikeP, hle, hall]; rfl
      rw [this]
      rfl
    | cons n l =>
      have hnk : n ∈ keysOf left := by
        have : n ∈ freeS left false ++ freeS left true := by rw [hall]; exact List.mem_cons_self
        rcases List.mem_append.mp this with z | z
        · exact freeS_keys z
        · exact freeS_keys z
      have hll : ((freeS left false).map D.int).length + ((freeS left true).map D.int).length ≤ line := by
        have a1 : (freeS left false).length ≤ left.length := by unfold freeS; refine Nat.le_trans (List.length_filter_le ..) ?_; rw [sortI_length, keysOf, List.length_map]; exact Nat.le_refl _
        have a2 : (freeS left true).length ≤ left.length := by unfold freeS; refine Nat.le_trans (List.length_filter_le ..) ?_; rw [sortI_length, keysOf, List.length_map]; exact Nat.le_refl _
        rw [List.length_map, List.length_map]; show _ ≤ 16777216; omega
      have eall : (freeS left false).map D.int ++ (freeS left true).map D.int = .int n :: l.map D.int := by rw [← List.map_append, hall]; rfl
      refine two_ways (fun a b => ?_) ?_
      · have a' : freeS left false = [] := by simpa using a
        have b' : freeS left true = [] := by simpa using b
        rw [a', b'] at hall
        cases hall
      refine ⟨hll, ?_⟩
      rw [eall, ixl0]
      refine holders_sat hS3 (by omega) fun S4 h4 => ⟨by rw [List.length_map]; show _ ≤ 16777216; omega, ?_⟩
      have hS4 := h4.get hS3
      refine for_of_call (holdP left n false) D.int (fun QW hq => ?_) (fun i ρ S' => ∃ left' x6 x7, ρ = [some (.tup (rows.map eRow)), some (.tup ((found ++ [(n, holdP left n false)]).map eOut)), some (.ref S.length), some (.lst ((freeS left false).map D.int)), some (.int n), some (.lst ((freeS left true).map D.int)), x6, x7] ∧
        Near n left left' ∧ (∀ r ∈ left', r.2.length < 64) ∧ S'[S.length]? = some (.dct false (left'.map kRow)) ∧ Ext S S') (fun S0 h0 => ⟨left, x6, x7, by rw [List.map_append]; rfl, Near.refl, htl, h0.get hS4, hE.trans (h23.trans (h4.trans h0))⟩) ?_ ?_
      · simp only [sSeq_sat, sExpr_sat, sSet_sat, sIf_sat, sRet_sat, sNil_sat, sAsg_sat, sPar_sat, sPar3_sat, sSub_sat, sTry_sat, sRaise_sat, sBreak_sat, sCont_sat, sFld_sat, tryH_nil, tryH_cons, eML_sat, eMD_sat, eVar_sat, eC_sat, eB_sat, eBin_sat, eUn_sat, eCall_sat, eTup_sat, eLst_sat, eLstM_sat, eDNew_sat, eIf_sat, eAnd_sat, eOr_sat, eNot_sat, eT_sat, eSl_sat, oNone_sat, oSome_sat, eFld_sat, eMake_sat, eMeth_sat, eRgL1_sat, eRgL2_sat, eChain_sat, aCons_sat, aNil_sat, tTru_sat, tNot_sat, tAnd_sat, tOr_sat, tYes_sat, tCmp_sat, tVal_sat, iSeq_sat, iRng1_sat, iRng2_sat, iZip_sat, iEnum_sat, iStr_sat, asg_nm, asg_tp, asgs_cons, asgs_nil, wipe_nil, wipe_cons, items_tup, items_lst, items_kls, held_tup, held_lst, held_kls, still_nil, truth_bl, truth_tup, truth_lst, truth_kls, truth_int, truth_non, gAdd_int, gSub_int, gLt_int, gLe_int, gGt_int, gGe_int, gAdd_tup, gAdd_lst, gIsN_non, gNotN_non, bLen_tup, bLen_lst, bLen_kls, bTuple_lst, bTuple_tup, litems_lst, sat_ok, List.map_cons, List.map_nil, List.cons_append, List.nil_append, List.length_cons, List.length_nil, List.replicate, List.getElem?_cons_zero, List.getElem?_cons_succ, List.set_cons_zero, List.set_cons_succ, List.isEmpty_cons, List.isEmpty_nil, Nat.reduceSub, Nat.reduceAdd, Nat.zero_add, line0, line1, line2, line3, line4, line5, line6, line7, line8, true_and, and_true, if_true, if_false, Bool.false_eq_true, Bool.not_true, Bool.not_false, reduceCtorEq]
        refine holders_sat hS4 (by omega) fun S5 h5 => ?_
        simp only [sSeq_sat, sExpr_sat, sSet_sat, sIf_sat, sRet_sat, sNil_sat, sAsg_sat, sPar_sat, sPar3_sat, sSub_sat, sTry_sat, sRaise_sat, sBreak_sat, sCont_sat, sFld_sat, tryH_nil, tryH_cons, eML_sat, eMD_sat, eVar_sat, eC_sat, eB_sat, eBin_sat, eUn_sat, eCall_sat, eTup_sat, eLst_sat, eLstM_sat, eDNew_sat, eIf_sat, eAnd_sat, eOr_sat, eNot_sat, eT_sat, eSl_sat, oNone_sat, oSome_sat, eFld_sat, eMake_sat, eMeth_sat, eRgL1_sat, eRgL2_sat, eChain_sat, aCons_sat, aNil_sat, tTru_sat, tNot_sat, tAnd_sat, tOr_sat, tYes_sat, tCmp_sat, tVal_sat, iSeq_sat, iRng1_sat, iRng2_sat, iZip_sat, iEnum_sat, iStr_sat, asg_nm, asg_tp, asgs_cons, asgs_nil, wipe_nil, wipe_cons, items_tup, items_lst, items_kls, held_tup, held_lst, held_kls, still_nil, truth_bl, truth_tup, truth_lst, truth_kls, truth_int, truth_non, gAdd_int, gSub_int, gLt_int, gLe_int, gGt_int, gGe_int, gAdd_tup, gAdd_lst, gIsN_non, gNotN_non, bLen_tup, bLen_lst, bLen_kls, bTuple_lst, bTuple_tup, litems_lst, sat_ok, List.map_cons, List.map_nil, List.cons_append, List.nil_append, List.length_cons, List.length_nil, List.replicate, List.getElem?_cons_zero, List.getElem?_cons_succ, List.set_cons_zero, List.set_cons_succ, List.isEmpty_cons, List.isEmpty_nil, Nat.reduceSub, Nat.reduceAdd, Nat.zero_add, line0, line1, line2, line3, line4, line5, line6, line7, line8, true_and, and_true, if_true, if_false, Bool.false_eq_true, Bool.not_true, Bool.not_false, reduceCtorEq]
        exact hq S5 h5
      · rintro i o ρ S5 ho hi ⟨left', x6, x7, rfl, near, hl5, hS5, hE5⟩
        refine ⟨_, asg_nm, ?_⟩
        unfold f_strike_order_1
        have hok : o ∈ keysOf left := (mem_holdP.mp (List.mem_of_getElem? ho)).1
        have hok' : o ∈ keysOf left' := by rw [← near.1]; exact hok
        obtain ⟨ts, ht, htm⟩ := tiesOf_mem hok'
        have hkg : kget (left'.map kRow) (.int o) = some (eTies ts) := by rw [kget_rows, ht]; rfl
        have hnd' : (keysOf left').Nodup := by rw [← near.1]; exact hnd
        have hlen' : left'.length = left.length := by have := congrArg List.length near.1; simpa [keysOf] using this.symm
        simp only [sSeq_sat, sExpr_sat, sSet_sat, sIf_sat, sRet_sat, sNil_sat, sAsg_sat, sPar_sat, sPar3_sat, sSub_sat, sTry_sat, sRaise_sat, sBreak_sat, sCont_sat, sFld_sat, tryH_nil, tryH_cons, eML_sat, eMD_sat, eVar_sat, eC_sat, eB_sat, eBin_sat, eUn_sat, eCall_sat, eTup_sat, eLst_sat, eLstM_sat, eDNew_sat, eIf_sat, eAnd_sat, eOr_sat, eNot_sat, eT_sat, eSl_sat, oNone_sat, oSome_sat, eFld_sat, eMake_sat, eMeth_sat, eRgL1_sat, eRgL2_sat, eChain_sat, aCons_sat, aNil_sat, tTru_sat, tNot_sat, tAnd_sat, tOr_sat, tYes_sat, tCmp_sat, tVal_sat, iSeq_sat, iRng1_sat, iRng2_sat, iZip_sat, iEnum_sat, iStr_sat, asg_nm, asg_tp, asgs_cons, asgs_nil, wipe_nil, wipe_cons, items_tup, items_lst, items_kls, held_tup, held_lst, held_kls, still_nil, truth_bl, truth_tup, truth_lst, truth_kls, truth_int, truth_non, gAdd_int, gSub_int, gLt_int, gLe_int, gGt_int, gGe_int, gAdd_tup, gAdd_lst, gIsN_non, gNotN_non, bLen_tup, bLen_lst, bLen_kls, bTuple_lst, bTuple_tup, litems_lst, sat_ok, List.map_cons, List.map_nil, List.cons_append, List.nil_append, List.length_cons, List.length_nil, List.replicate, List.getElem?_cons_zero, List.getElem?_cons_succ, List.set_cons_zero, List.set_cons_succ, List.isEmpty_cons, List.isEmpty_nil, Nat.reduceSub, Nat.reduceAdd, Nat.zero_add, line0, line1, line2, line3, line4, line5, line6, line7, line8, true_and, and_true, if_true, if_false, Bool.false_eq_true, Bool.not_true, Bool.not_false, reduceCtorEq]
        refine drop_sat hS5 hkg (hl5 _ htm) fun S6 h6 => ?_
        rw [bTuple_lst]
        have hS6 := h6.get hS5
        have hr6 : S.length < S6.length := (List.getElem?_eq_some_iff.mp hS6).1
        have e : gSetD (.ref S.length) (.int o) (.tup ((ts.filter fun t => !(t.1 == n)).map eTie)) S6 = some (S6.set S.length (.dct false ((untie left' o n).map kRow))) := by
          have hll : (left'.map kRow).length < line := by rw [List.length_map]; show _ < 16777216; omega
          have := kput_rows (n := n) hok' hnd' ht
          unfold eTies at this
          simp only [gSetD, hS6, D.isKey, true_and]
          rw [if_pos hll, this]
        rw [e]
        exact ⟨untie left' o n, _, x7, rfl, near.untie o, untie_lens hl5, by rw [List.getElem?_set_self hr6], (hE5.trans h6).set (Nat.le_refl _)⟩
      · rintro ρ S5 ⟨left', x6, x7, rfl, near, hl5, hS5, hE5⟩
        have hok' : n ∈ keysOf left' := by rw [← near.1]; exact hnk
        obtain ⟨ts, ht, htm⟩ := tiesOf_mem hok'
        have hkg : kget (left'.map kRow) (.int n) = some (eTies ts) := by rw [kget_rows, ht]; rfl
        have hnd' : (keysOf left').Nodup := by rw [← near.1]; exact hnd
        have hlen' : left'.length = left.length := by have := congrArg List.length near.1; simpa [keysOf] using this.symm
        simp only [sSeq_sat, sExpr_sat, sSet_sat, sIf_sat, sRet_sat, sNil_sat, sAsg_sat, sPar_sat, sPar3_sat, sSub_sat, sTry_sat, sRaise_sat, sBreak_sat, sCont_sat, sFld_sat, tryH_nil, tryH_cons, eML_sat, eMD_sat, eVar_sat, eC_sat, eB_sat, eBin_sat, eUn_sat, eCall_sat, eTup_sat, eLst_sat, eLstM_sat, eDNew_sat, eIf_sat, eAnd_sat, eOr_sat, eNot_sat, eT_sat, eSl_sat, oNone_sat, oSome_sat, eFld_sat, eMake_sat, eMeth_sat, eRgL1_sat, eRgL2_sat, eChain_sat, aCons_sat, aNil_sat, tTru_sat, tNot_sat, tAnd_sat, tOr_sat, tYes_sat, tCmp_sat, tVal_sat, iSeq_sat, iRng1_sat, iRng2_sat, iZip_sat, iEnum_sat, iStr_sat, asg_nm, asg_tp, asgs_cons, asgs_nil, wipe_nil, wipe_cons, items_tup, items_lst, items_kls, held_tup, held_lst, held_kls, still_nil, truth_bl, truth_tup, truth_lst, truth_kls, truth_int, truth_non, gAdd_int, gSub_int, gLt_int, gLe_int, gGt_int, gGe_int, gAdd_tup, gAdd_lst, gIsN_non, gNotN_non, bLen_tup, bLen_lst, bLen_kls, bTuple_lst, bTuple_tup, litems_lst, sat_ok, List.map_cons, List.map_nil, List.cons_append, List.nil_append, List.length_cons, List.length_nil, List.replicate, List.getElem?_cons_zero, List.getElem?_cons_succ, List.set_cons_zero, List.set_cons_succ, List.isEmpty_cons, List.isEmpty_nil, Nat.reduceSub, Nat.reduceAdd, Nat.zero_add, line0, line1, line2, line3, line4, line5, line6, line7, line8, true_and, and_true, if_true, if_false, Bool.false_eq_true, Bool.not_true, Bool.not_false, reduceCtorEq, pairs_ref', hS5]
        rw [pop_dict hS5 hkg, kdel_rows]
        have hr5 : S.length < S5.length := (List.getElem?_eq_some_iff.mp hS5).1
        have hwl := without_length hnd' hok'
        have hwl2 := without_length hnd hnk
        refine ⟨without left' n, found ++ [(n, holdP left n false)], _, _, _, _, _, rfl, by omega, by rw [List.getElem?_set_self hr5], hE5.set (Nat.le_refl _), nodup_without hnd', fun r hr => hl5 r (mem_without.mp hr).1, by rw [List.length_append]; simp only [List.length_cons, List.length_nil]; omega, ?_⟩
        have hl2 : left.length = (without left n).length + 1 := by omega
        have e3 : (without left' n).length = (without left n).length := by omega
        rw [hp, hl2, strikeP_go hle hall, Option.map_map, e3, near.alike.strike]
        congr 1
        funext x
        simp
end
end Mp

namespace Mp
open PySem
/-- the town stands, and is no longer than that -/
def Tn (B : Nat) (S : Sto) : Prop := ∃ town, S[0]? = some (.lst town) ∧ town.length ≤ B
theorem Tn.mono {B B' : Nat} {S : Sto} (h : Tn B S) (hb : B ≤ B') : Tn B' S := let ⟨t, h1, h2⟩ := h; ⟨t, h1, Nat.le_trans h2 hb⟩
theorem Tn.ext {B : Nat} {S S' : Sto} (h : Tn B S) (x : Ext S S') : Tn B S' := let ⟨t, h1, h2⟩ := h; ⟨t, x.get h1, h2⟩
section
variable {QD : D → Sto → Prop} {E : Nat → Sto → Prop} {S : Sto} {ns : List Int} {B : Nat}
theorem Tn.draw {many : Int} (h : Tn B S) (hB : B < line) (hm : 0 < many) (q : ∀ r S', 0 ≤ r → r < many → Tn (B + 1) S' → QD (.int r) S') : (m_law_draw [.kls (ns.map .int), .ref 0, .int many] S).sat QD E := by
  obtain ⟨town, h1, h2⟩ := h
  have hl : 0 < S.length := (List.getElem?_eq_some_iff.mp h1).1
  exact draw_sat h1 (Nat.lt_of_le_of_lt h2 hB) hm fun r r0 r1 => q r _ r0 r1 ⟨town ++ [.int 0], by rw [List.getElem?_set_self hl], by rw [List.length_append]; simp only [List.length_cons, List.length_nil]; omega⟩
def evens (m : Nat) : List Int := (List.range m).map fun (j : Nat) => (j : Int) * 2
theorem evens_up (m : Nat) : (evens m).Pairwise (· < ·) := by
  unfold evens
  rw [List.pairwise_map]
  exact List.pairwise_lt_range.imp fun {a b} h => by omega
theorem upto_map (m : Nat) : ∀ lo : Int, upto lo m = (List.range m).map fun j => D.int (lo + (j : Nat)) := by
  induction m with
  | zero => intro lo; rfl
  | succ m ih =>
    intro lo
    rw [upto, ih, List.range_succ_eq_map, List.map_cons, List.map_map]
    simp only [Int.natCast_zero, Int.add_zero]
    congr 1
    apply List.map_congr_left
    intro j _
    simp only [Function.comp]
    congr 1
    omega
end
end Mp

namespace Mp
open PySem
/-! ### what orders of strikes keep -/
theorem sortI_filter (p : Int → Bool) (l : List Int) : sortI (l.filter p) = (sortI l).filter p :=
  sorted_unique (sortI_srt _) ((sortI_srt l).filter _) ((sortI_pm _).trans ((sortI_pm l).filter p).symm)
theorem freeS_true {left : Rows} {n : Int} (h : n ∈ freeS left false ++ freeS left true) : n ∈ keysOf left ∧ holdP left n true = [] := by
  rcases List.mem_append.mp h with z | z
  · have z2 := (List.mem_filter.mp z).2
    refine ⟨freeS_keys z, ?_⟩
    rw [List.isEmpty_iff] at z2
    rw [List.eq_nil_iff_forall_not_mem]
    intro o ho
    obtain ⟨h1, h2, h3, h4⟩ := mem_holdP.mp ho
    have : o ∈ holdP left n false := mem_holdP.mpr ⟨h1, h2, h3, h4.imp id fun z => absurd z.1 (by decide)⟩
    rw [z2] at this
    cases this
  · exact ⟨freeS_keys z, List.isEmpty_iff.mp (List.mem_filter.mp z).2⟩
/-- the first step -/
theorem strike_step {rows : Rows} {p : Int × List Int} {out : List (Int × List Int)} (hn : (keysOf rows).Nodup) (h : strikeP rows.length rows = some (p :: out)) :
    p.1 ∈ keysOf rows ∧ p.2 = holdP rows p.1 false ∧ holdP rows p.1 true = [] ∧ strikeP (without rows p.1).length (without rows p.1) = some out := by
  cases hle : rows.isEmpty with
  | true =>
    have e : rows = [] := List.isEmpty_iff.mp hle
    subst e
    simp [strikeP] at h
  | false =>
    cases hl : rows.length with
    | zero =>
      have : rows = [] := List.length_eq_zero_iff.mp hl
      subst this
      simp at hle
    | succ k =>
      rw [hl] at h
      cases hall : freeS rows false ++ freeS rows true with
      | nil => simp [strikeP, hle, hall] at h
      | cons n l =>
        rw [strikeP_go hle hall] at h
        obtain ⟨hk, ht⟩ := freeS_true (show n ∈ freeS rows false ++ freeS rows true by rw [hall]; exact List.mem_cons_self)
        cases hr : strikeP k (without rows n) with
        | none => rw [hr] at h; cases h
        | some o2 =>
          rw [hr] at h
          have h := Option.some.inj h
          obtain ⟨e1, e2⟩ := List.cons.inj h
          subst e1
          subst e2
          have := without_length hn hk
          refine ⟨hk, rfl, ht, ?_⟩
          show strikeP (without rows n).length (without rows n) = _
          rw [show (without rows n).length = k by omega]
          exact hr
theorem strike_nil {rows : Rows} (h : strikeP rows.length rows = some []) : rows = [] := by
  cases hle : rows.isEmpty with
  | true => exact List.isEmpty_iff.mp hle
  | false =>
    cases hl : rows.length with
    | zero => exact List.length_eq_zero_iff.mp hl
    | succ k =>
      rw [hl] at h
      cases hall : freeS rows false ++ freeS rows true with
      | nil => simp [strikeP, hle, hall] at h
      | cons n l =>
        rw [strikeP_go hle hall] at h
        cases hr : strikeP k (without rows n) with
        | none => rw [hr] at h; cases h
        | some o2 => rw [hr] at h; cases h
/-- a ring of needed ties -/
theorem strike_none_of_ring : ∀ (k : Nat) {left : Rows} {L : List Int}, L ≠ [] → (∀ n ∈ L, n ∈ keysOf left) → (∀ n ∈ L, ∃ o ∈ L, o ≠ n ∧ (n, true) ∈ tiesAt left o) → strikeP k left = none
  | k, left, L, h0, h1, h2 => by
    obtain ⟨x, hx⟩ := List.exists_mem_of_ne_nil L h0
    have hle : left.isEmpty = false := by
      have := h1 x hx
      cases left with
      | nil => simp [keysOf] at this
      | cons a b => rfl
    cases k with
    | zero => simp [strikeP, hle]
    | succ k =>
      cases hall : freeS left false ++ freeS left true with
      | nil => simp [strikeP, hle, hall]
      | cons n l =>
        rw [strikeP_go hle hall]
        obtain ⟨hk, ht⟩ := freeS_true (show n ∈ freeS left false ++ freeS left true by rw [hall]; exact List.mem_cons_self)
        have hnL : n ∉ L := fun z => by
          obtain ⟨o, ho, hne, hto⟩ := h2 n z
          have : o ∈ holdP left n true := mem_holdP.mpr ⟨h1 o ho, hne, hk, .inl hto⟩
          rw [ht] at this
          cases this
        have ne : ∀ m ∈ L, m ≠ n := fun m hm e => hnL (e ▸ hm)
        rw [strike_none_of_ring k (left := without left n) (L := L) h0 (fun m hm => by rw [keysOf_without, List.mem_filter]; exact ⟨h1 m hm, by simpa using ne m hm⟩) (fun m hm => by
          obtain ⟨o, ho, hne, hto⟩ := h2 m hm
          exact ⟨o, ho, hne, by rw [tiesAt_without (ne o ho)]; exact hto⟩)]
        rfl
/-- without needed ties it is told -/
theorem strike_some_free : ∀ (k : Nat) {left : Rows}, left.length ≤ k → (keysOf left).Nodup → (∀ n o : Int, (o, true) ∉ tiesAt left n) → ∃ out, strikeP k left = some out
  | k, left, hk, hn, h => by
    cases hle : left.isEmpty with
    | true =>
      have e : left = [] := List.isEmpty_iff.mp hle
      subst e
      cases k <;> exact ⟨[], rfl⟩
    | false =>
      cases k with
      | zero => cases left with | nil => simp at hle | cons a b => simp at hk
      | succ k =>
        have h0 : keysOf left ≠ [] := by cases left with | nil => simp at hle | cons a b => simp [keysOf]
        obtain ⟨n, hnk⟩ := List.exists_mem_of_ne_nil _ h0
        have hf : n ∈ freeS left true := List.mem_filter.mpr ⟨mem_sortI.mpr hnk, by
          rw [List.isEmpty_iff, List.eq_nil_iff_forall_not_mem]
          intro o ho
          rcases (mem_holdP.mp ho).2.2.2 with z | z
          · exact h o n z
          · exact absurd z.1 (by decide)⟩
        cases hall : freeS left false ++ freeS left true with
        | nil =>
          have : n ∈ freeS left false ++ freeS left true := List.mem_append_right _ hf
          rw [hall] at this
          cases this
        | cons m l =>
          rw [strikeP_go hle hall]
          obtain ⟨hmk, _⟩ := freeS_true (show m ∈ freeS left false ++ freeS left true by rw [hall]; exact List.mem_cons_self)
          have hwl := without_length hn hmk
          obtain ⟨out, ho⟩ := strike_some_free k (left := without left m) (by omega) (nodup_without hn) fun n o => by
            by_cases e : n = m
            · subst e
              rw [tiesAt_none (by rw [keysOf_without, List.mem_filter]; simp)]
              simp
            · rw [tiesAt_without e]
              exact h n o
          exact ⟨_, by rw [ho]; rfl⟩
/-! ### straight rows: each ties to greater ones -/
def Up (rows : Rows) : Prop := ∀ n o b, (o, b) ∈ tiesAt rows n → n < o
theorem Up.without {rows : Rows} (h : Up rows) (n : Int) : Up (without rows n) := fun m o b hm => by
  by_cases e : m = n
  · subst e
    rw [tiesAt_none (by rw [keysOf_without, List.mem_filter]; simp)] at hm
    cases hm
  · rw [tiesAt_without e] at hm
    exact h m o b hm
theorem without_first {n : Int} {ts : Ties} {rows : Rows} (hn : (keysOf ((n, ts) :: rows)).Nodup) : without ((n, ts) :: rows) n = rows := by
  have hn' : (n :: keysOf rows).Nodup := hn
  rw [List.nodup_cons] at hn'
  unfold Mp.without
  rw [List.filter_cons_of_neg (by simp), List.filter_eq_self]
  intro r hr
  have : r.1 ≠ n := fun z => hn'.1 (z ▸ List.mem_map.mpr ⟨r, hr, rfl⟩)
  simpa using this
theorem sortI_up {l : List Int} (h : l.Pairwise (· < ·)) : sortI l = l := sorted_unique (sortI_srt l) (h.imp Int.le_of_lt) (sortI_pm l)
theorem strike_up : ∀ (rows : Rows), (keysOf rows).Pairwise (· < ·) → Up rows → strikeP rows.length rows = some ((keysOf rows).map fun n => (n, []))
  | [], _, _ => rfl
  | (n, ts) :: rows, h, hu => by
    have h' : (n :: keysOf rows).Pairwise (· < ·) := h
    have hp := List.pairwise_cons.mp h'
    have hnd : (keysOf ((n, ts) :: rows)).Nodup := h.imp Int.ne_of_lt
    have h0 : holdP ((n, ts) :: rows) n false = [] := by
      rw [List.eq_nil_iff_forall_not_mem]
      intro o ho
      obtain ⟨h1, h2, h3, h4⟩ := mem_holdP.mp ho
      have h1 : o ∈ n :: keysOf rows := h1
      have lt : n < o := by
        rcases List.mem_cons.mp h1 with z | z
        · exact absurd z h2
        · exact hp.1 o z
      have : o < n := by
        rcases h4 with z | z
        · exact hu o n true z
        · exact hu o n false z.2
      omega
    have hf : freeS ((n, ts) :: rows) false = n :: (keysOf rows).filter fun m => (holdP ((n, ts) :: rows) m false).isEmpty := by
      unfold freeS
      rw [sortI_up h]
      show List.filter _ (n :: keysOf rows) = _
      rw [List.filter_cons_of_pos (by rw [h0]; rfl)]
    have hall : freeS ((n, ts) :: rows) false ++ freeS ((n, ts) :: rows) true = n :: ((keysOf rows).filter (fun m => (holdP ((n, ts) :: rows) m false).isEmpty) ++ freeS ((n, ts) :: rows) true) := by rw [hf]; rfl
    rw [List.length_cons, strikeP_go rfl hall, without_first hnd, h0]
    have hu' : Up rows := by have := hu.without n; rwa [without_first hnd] at this
    rw [strike_up rows hp.2 hu']
    rfl
/-- puts of straight rows: told one by one, each behind what it ties to -/
theorem put_up : ∀ (k : Nat) (rows : Rows), rows.length ≤ k → (keysOf rows).Nodup → Up rows →
    ∃ out, putP k rows = some out ∧ (out.map (·.1)).Perm (keysOf rows) ∧ ∀ (i : Nat) (n : Int) (l : List Int), out[i]? = some (n, l) → ∀ o b, (o, b) ∈ tiesAt rows n → o ∈ keysOf rows → o ∈ (out.take i).map (·.1)
  | k, rows, hk, hn, hu => by
    cases hle : rows.isEmpty with
    | true =>
      have e : rows = [] := List.isEmpty_iff.mp hle
      subst e
      exact ⟨[], by cases k <;> rfl, .refl _, fun i n l e => by simp at e⟩
    | false =>
      cases k with
      | zero => cases rows with | nil => simp at hle | cons a b => simp at hk
      | succ k =>
        -- the greatest waits for none
        have h0 : sortI (keysOf rows) ≠ [] := by
          intro z
          have := sortI_length (keysOf rows)
          rw [z] at this
          cases rows with
          | nil => simp at hle
          | cons a b => simp [keysOf] at this
        let m := (sortI (keysOf rows)).getLast h0
        have hm : m ∈ sortI (keysOf rows) := List.getLast_mem h0
        have hmax : ∀ o ∈ keysOf rows, o ≤ m := fun o ho => by
          have hs := sortI_srt (keysOf rows)
          have ho := mem_sortI.mpr ho
          obtain ⟨i, hi, e⟩ := List.mem_iff_getElem.mp ho
          have hl : m = (sortI (keysOf rows))[(sortI (keysOf rows)).length - 1]'(by omega) := List.getLast_eq_getElem h0
          rw [hl, ← e]
          by_cases z : i = (sortI (keysOf rows)).length - 1
          · simp [z]
          · exact List.pairwise_iff_getElem.mp hs i _ hi (by omega) (by omega)
        have hfm : m ∈ freeP rows false := List.mem_filter.mpr ⟨hm, waits_nil_iff.mpr fun o ho => ⟨fun z => by have := hu m o true z; have := hmax o ho; omega, fun _ z => by have := hu m o false z; have := hmax o ho; omega⟩⟩
        cases hf : freeP rows false with
        | nil => rw [hf] at hfm; cases hfm
        | cons n l =>
          have hall : freeP rows false ++ freeP rows true = n :: (l ++ freeP rows true) := by rw [hf]; rfl
          have hnf : n ∈ freeP rows false := by rw [hf]; exact List.mem_cons_self
          have hnk := free_keys hnf
          have hwn := waits_nil_iff.mp (List.mem_filter.mp hnf).2
          have hwl := without_length hn hnk
          obtain ⟨out, h1, h2, h3⟩ := put_up k (without rows n) (by omega) (nodup_without hn) (hu.without n)
          refine ⟨(n, waitsP (keysOf rows) (tiesAt rows n) false) :: out, by rw [putP_go hle hall, h1]; rfl, (h2.cons n).trans (keys_without hn hnk), fun i x l' e o b ht hk => ?_⟩
          cases i with
          | zero =>
            simp at e
            obtain ⟨rfl, _⟩ := e
            exfalso
            cases b
            · exact (hwn o hk).2 rfl ht
            · exact (hwn o hk).1 ht
          | succ i =>
            have e : out[i]? = some (x, l') := by simpa using e
            have hx : x ∈ keysOf (without rows n) := h2.mem_iff.mp (List.mem_map.mpr ⟨_, List.mem_of_getElem? e, rfl⟩)
            rw [keysOf_without, List.mem_filter] at hx
            have hxn : x ≠ n := by simpa using hx.2
            rw [List.take_succ_cons, List.map_cons]
            by_cases eo : o = n
            · rw [eo]; exact List.mem_cons_self
            · refine List.mem_cons_of_mem _ (h3 i x l' e o b (by rw [tiesAt_without hxn]; exact ht) ?_)
              rw [keysOf_without, List.mem_filter]
              exact ⟨hk, by simpa using eo⟩
end Mp

namespace Mp
open PySem
def upI (m : Nat) : List Int := (List.range m).map fun (j : Nat) => (j : Int)
theorem upto_upI (m : Nat) : upto 0 m = (upI m).map D.int := by
  rw [upto_map, upI, List.map_map]
  apply List.map_congr_left
  intro j _
  simp
theorem upI_length (m : Nat) : (upI m).length = m := by simp [upI]
theorem upI_up (m : Nat) : (upI m).Pairwise (· < ·) := by
  unfold upI
  rw [List.pairwise_map]
  exact List.pairwise_lt_range.imp fun {a b} h => by omega
theorem upI_mem {m : Nat} {n : Int} (h : n ∈ upI m) : 0 ≤ n ∧ n < m := by
  unfold upI at h
  obtain ⟨j, hj, e⟩ := List.mem_map.mp h
  rw [List.mem_range] at hj
  omega
def ordD : Option (List (Int × List Int)) → D
  | some out => .tup (out.map eOut)
  | none => .non
abbrev stP (rows : Rows) : Option (List (Int × List Int)) := strikeP rows.length rows
theorem outs_plain : ∀ out : List (Int × List Int), D.plains (out.map eOut) = true
  | [] => rfl
  | p :: out => by simp [D.plains, eOut, D.plain, ints_plain, outs_plain out]
theorem outs_dep : ∀ {out : List (Int × List Int)}, D.deps (out.map eOut) ≤ 2
  | [] => by simp [D.deps]
  | p :: out => by
    have := outs_dep (out := out)
    simp only [List.map_cons, D.deps, eOut, D.dep, ints_dep]
    omega
theorem ordD_plain (o : Option (List (Int × List Int))) : (ordD o).plain = true := by
  cases o with
  | none => rfl
  | some out => simp only [ordD, D.plain]; exact outs_plain out
theorem ordD_dep (o : Option (List (Int × List Int))) : (ordD o).dep ≤ 60 := by
  cases o with
  | none => simp [ordD, D.dep]
  | some out =>
    have := outs_dep (out := out)
    simp only [ordD, D.dep]
    omega
section
variable {QD : D → Sto → Prop} {E : Nat → Sto → Prop} {S : Sto} {ns : List Int} {B : Nat}
theorem ord_sat {rows : Rows} (hn : (keysOf rows).Nodup) (hl : rows.length < 64) (hts : ∀ r ∈ rows, r.2.length < 64) (q : ∀ S', Ext S S' → QD (ordD (stP rows)) S') : (m_law_order [.tup (rows.map eRow)] S).sat QD E := by
  unfold m_law_order
  refine run_sat ?_
  unfold b_law_order
  simp only [sSeq_sat, sExpr_sat, sSet_sat, sIf_sat, sRet_sat, sNil_sat, sAsg_sat, sPar_sat, sPar3_sat, sSub_sat, sTry_sat, sRaise_sat, sBreak_sat, sCont_sat, sFld_sat, tryH_nil, tryH_cons, eML_sat, eMD_sat, eVar_sat, eC_sat, eB_sat, eBin_sat, eUn_sat, eCall_sat, eTup_sat, eLst_sat, eLstM_sat, eDNew_sat, eIf_sat, eAnd_sat, eOr_sat, eNot_sat, eT_sat, eSl_sat, oNone_sat, oSome_sat, eFld_sat, eMake_sat, eMeth_sat, eRgL1_sat, eRgL2_sat, eChain_sat, aCons_sat, aNil_sat, tTru_sat, tNot_sat, tAnd_sat, tOr_sat, tYes_sat, tCmp_sat, tVal_sat, iSeq_sat, iRng1_sat, iRng2_sat, iZip_sat, iEnum_sat, iStr_sat, asg_nm, asg_tp, asgs_cons, asgs_nil, wipe_nil, wipe_cons, items_tup, items_lst, items_kls, held_tup, held_lst, held_kls, still_nil, truth_bl, truth_tup, truth_lst, truth_kls, truth_int, truth_non, gAdd_int, gSub_int, gLt_int, gLe_int, gGt_int, gGe_int, gAdd_tup, gAdd_lst, gIsN_non, gNotN_non, bLen_tup, bLen_lst, bLen_kls, bTuple_lst, bTuple_tup, litems_lst, sat_ok, List.map_cons, List.map_nil, List.cons_append, List.nil_append, List.length_cons, List.length_nil, List.replicate, List.getElem?_cons_zero, List.getElem?_cons_succ, List.set_cons_zero, List.set_cons_succ, List.isEmpty_cons, List.isEmpty_nil, Nat.reduceSub, Nat.reduceAdd, Nat.zero_add, line0, line1, line2, line3, line4, line5, line6, line7, line8, true_and, and_true, if_true, if_false, Bool.false_eq_true, Bool.not_true, Bool.not_false, reduceCtorEq]
  refine strike_sat hn hl hts (fun out S' h hS => ?_) fun S' h hS => ?_
  · have := q S' hS
    unfold stP at this
    rw [h] at this
    exact this
  · have := q S' hS
    unfold stP at this
    rw [h] at this
    simp
    exact this
def Gt (bk : Bool) (n : Int) (ts : Ties) : Prop := bk = false → ∀ t ∈ ts, n < t.1
/-- what is drawn -/
structure Rw (rows : Rows) (m : Nat) (bk : Bool) : Prop where
  keys : keysOf rows = upI m
  m9 : m < 9
  ties : ∀ r ∈ rows, r.2.length < 5 ∧ Gt bk r.1 r.2
theorem Rw.len {rows : Rows} {m : Nat} {bk : Bool} (h : Rw rows m bk) : rows.length = m := by
  have := congrArg List.length h.keys
  rwa [keysOf, List.length_map, upI_length] at this
theorem Rw.nodup {rows : Rows} {m : Nat} {bk : Bool} (h : Rw rows m bk) : (keysOf rows).Nodup := by rw [h.keys]; exact (upI_up _).imp Int.ne_of_lt
theorem Rw.ties64 {rows : Rows} {m : Nat} {bk : Bool} (h : Rw rows m bk) : ∀ r ∈ rows, r.2.length < 64 := fun r hr => by have := (h.ties r hr).1; omega
theorem rows_sat {many : Int} {bk : Bool} (h : Tn B S) (hB : B + 200 < line) (h0 : 0 ≤ many) (h9 : many < 9) (q : ∀ (rows : Rows) S', Rw rows many.toNat bk → Tn (B + 200) S' → QD (.tup (rows.map eRow)) S') :
    (m_law_rows [.kls (ns.map .int), .ref 0, .int many, .bl bk] S).sat QD E := by
  have hB : B + 200 < 16777216 := hB
  unfold m_law_rows
  refine run_sat ?_
  unfold b_law_rows
  simp only [sSeq_sat, sExpr_sat, sSet_sat, sIf_sat, sRet_sat, sNil_sat, sAsg_sat, sPar_sat, sPar3_sat, sSub_sat, sTry_sat, sRaise_sat, sBreak_sat, sCont_sat, sFld_sat, tryH_nil, tryH_cons, eML_sat, eMD_sat, eVar_sat, eC_sat, eB_sat, eBin_sat, eUn_sat, eCall_sat, eTup_sat, eLst_sat, eLstM_sat, eDNew_sat, eIf_sat, eAnd_sat, eOr_sat, eNot_sat, eT_sat, eSl_sat, oNone_sat, oSome_sat, eFld_sat, eMake_sat, eMeth_sat, eRgL1_sat, eRgL2_sat, eChain_sat, aCons_sat, aNil_sat, tTru_sat, tNot_sat, tAnd_sat, tOr_sat, tYes_sat, tCmp_sat, tVal_sat, iSeq_sat, iRng1_sat, iRng2_sat, iZip_sat, iEnum_sat, iStr_sat, asg_nm, asg_tp, asgs_cons, asgs_nil, wipe_nil, wipe_cons, items_tup, items_lst, items_kls, held_tup, held_lst, held_kls, still_nil, truth_bl, truth_tup, truth_lst, truth_kls, truth_int, truth_non, gAdd_int, gSub_int, gLt_int, gLe_int, gGt_int, gGe_int, gAdd_tup, gAdd_lst, gIsN_non, gNotN_non, bLen_tup, bLen_lst, bLen_kls, bTuple_lst, bTuple_tup, litems_lst, sat_ok, List.map_cons, List.map_nil, List.cons_append, List.nil_append, List.length_cons, List.length_nil, List.replicate, List.getElem?_cons_zero, List.getElem?_cons_succ, List.set_cons_zero, List.set_cons_succ, List.isEmpty_cons, List.isEmpty_nil, Nat.reduceSub, Nat.reduceAdd, Nat.zero_add, line0, line1, line2, line3, line4, line5, line6, line7, line8, true_and, and_true, if_true, if_false, Bool.false_eq_true, Bool.not_true, Bool.not_false, reduceCtorEq]
  refine for_of_list (upI many.toNat) D.int (S0 := S) ?_ (fun i ρ S2 => ∃ rows x5 x6 x7 x8, ρ = [some (.kls (ns.map .int)), some (.ref 0), some (.int many), some (.bl bk), some (.tup (rows.map eRow)), x5, x6, x7, x8] ∧ keysOf rows = (upI many.toNat).take i ∧ i ≤ many.toNat ∧ (∀ r ∈ rows, r.2.length < 5 ∧ Gt bk r.1 r.2) ∧ Tn (B + 20 * i) S2)
    ⟨[], none, none, none, none, rfl, rfl, Nat.zero_le _, (fun r hr => by cases hr), h⟩ ?_ ?_
  · simp only [sSeq_sat, sExpr_sat, sSet_sat, sIf_sat, sRet_sat, sNil_sat, sAsg_sat, sPar_sat, sPar3_sat, sSub_sat, sTry_sat, sRaise_sat, sBreak_sat, sCont_sat, sFld_sat, tryH_nil, tryH_cons, eML_sat, eMD_sat, eVar_sat, eC_sat, eB_sat, eBin_sat, eUn_sat, eCall_sat, eTup_sat, eLst_sat, eLstM_sat, eDNew_sat, eIf_sat, eAnd_sat, eOr_sat, eNot_sat, eT_sat, eSl_sat, oNone_sat, oSome_sat, eFld_sat, eMake_sat, eMeth_sat, eRgL1_sat, eRgL2_sat, eChain_sat, aCons_sat, aNil_sat, tTru_sat, tNot_sat, tAnd_sat, tOr_sat, tYes_sat, tCmp_sat, tVal_sat, iSeq_sat, iRng1_sat, iRng2_sat, iZip_sat, iEnum_sat, iStr_sat, asg_nm, asg_tp, asgs_cons, asgs_nil, wipe_nil, wipe_cons, items_tup, items_lst, items_kls, held_tup, held_lst, held_kls, still_nil, truth_bl, truth_tup, truth_lst, truth_kls, truth_int, truth_non, gAdd_int, gSub_int, gLt_int, gLe_int, gGt_int, gGe_int, gAdd_tup, gAdd_lst, gIsN_non, gNotN_non, bLen_tup, bLen_lst, bLen_kls, bTuple_lst, bTuple_tup, litems_lst, sat_ok, List.map_cons, List.map_nil, List.cons_append, List.nil_append, List.length_cons, List.length_nil, List.replicate, List.getElem?_cons_zero, List.getElem?_cons_succ, List.set_cons_zero, List.set_cons_succ, List.isEmpty_cons, List.isEmpty_nil, Nat.reduceSub, Nat.reduceAdd, Nat.zero_add, line0, line1, line2, line3, line4, line5, line6, line7, line8, true_and, and_true, if_true, if_false, Bool.false_eq_true, Bool.not_true, Bool.not_false, reduceCtorEq]
    exact ⟨⟨by omega, by omega⟩, by rw [upto_upI]⟩
  · rintro i n ρ S2 hn hi ⟨rows, x5, x6, x7, x8, rfl, hk, hi2, hr, hT⟩
    rw [upI_length] at hi
    refine ⟨_, asg_nm, ?_⟩
    unfold f_law_rows_2
    simp only [sSeq_sat, sExpr_sat, sSet_sat, sIf_sat, sRet_sat, sNil_sat, sAsg_sat, sPar_sat, sPar3_sat, sSub_sat, sTry_sat, sRaise_sat, sBreak_sat, sCont_sat, sFld_sat, tryH_nil, tryH_cons, eML_sat, eMD_sat, eVar_sat, eC_sat, eB_sat, eBin_sat, eUn_sat, eCall_sat, eTup_sat, eLst_sat, eLstM_sat, eDNew_sat, eIf_sat, eAnd_sat, eOr_sat, eNot_sat, eT_sat, eSl_sat, oNone_sat, oSome_sat, eFld_sat, eMake_sat, eMeth_sat, eRgL1_sat, eRgL2_sat, eChain_sat, aCons_sat, aNil_sat, tTru_sat, tNot_sat, tAnd_sat, tOr_sat, tYes_sat, tCmp_sat, tVal_sat, iSeq_sat, iRng1_sat, iRng2_sat, iZip_sat, iEnum_sat, iStr_sat, asg_nm, asg_tp, asgs_cons, asgs_nil, wipe_nil, wipe_cons, items_tup, items_lst, items_kls, held_tup, held_lst, held_kls, still_nil, truth_bl, truth_tup, truth_lst, truth_kls, truth_int, truth_non, gAdd_int, gSub_int, gLt_int, gLe_int, gGt_int, gGe_int, gAdd_tup, gAdd_lst, gIsN_non, gNotN_non, bLen_tup, bLen_lst, bLen_kls, bTuple_lst, bTuple_tup, litems_lst, sat_ok, List.map_cons, List.map_nil, List.cons_append, List.nil_append, List.length_cons, List.length_nil, List.replicate, List.getElem?_cons_zero, List.getElem?_cons_succ, List.set_cons_zero, List.set_cons_succ, List.isEmpty_cons, List.isEmpty_nil, Nat.reduceSub, Nat.reduceAdd, Nat.zero_add, line0, line1, line2, line3, line4, line5, line6, line7, line8, true_and, and_true, if_true, if_false, Bool.false_eq_true, Bool.not_true, Bool.not_false, reduceCtorEq]
    refine sFor_sat ?_
    simp only [sSeq_sat, sExpr_sat, sSet_sat, sIf_sat, sRet_sat, sNil_sat, sAsg_sat, sPar_sat, sPar3_sat, sSub_sat, sTry_sat, sRaise_sat, sBreak_sat, sCont_sat, sFld_sat, tryH_nil, tryH_cons, eML_sat, eMD_sat, eVar_sat, eC_sat, eB_sat, eBin_sat, eUn_sat, eCall_sat, eTup_sat, eLst_sat, eLstM_sat, eDNew_sat, eIf_sat, eAnd_sat, eOr_sat, eNot_sat, eT_sat, eSl_sat, oNone_sat, oSome_sat, eFld_sat, eMake_sat, eMeth_sat, eRgL1_sat, eRgL2_sat, eChain_sat, aCons_sat, aNil_sat, tTru_sat, tNot_sat, tAnd_sat, tOr_sat, tYes_sat, tCmp_sat, tVal_sat, iSeq_sat, iRng1_sat, iRng2_sat, iZip_sat, iEnum_sat, iStr_sat, asg_nm, asg_tp, asgs_cons, asgs_nil, wipe_nil, wipe_cons, items_tup, items_lst, items_kls, held_tup, held_lst, held_kls, still_nil, truth_bl, truth_tup, truth_lst, truth_kls, truth_int, truth_non, gAdd_int, gSub_int, gLt_int, gLe_int, gGt_int, gGe_int, gAdd_tup, gAdd_lst, gIsN_non, gNotN_non, bLen_tup, bLen_lst, bLen_kls, bTuple_lst, bTuple_tup, litems_lst, sat_ok, List.map_cons, List.map_nil, List.cons_append, List.nil_append, List.length_cons, List.length_nil, List.replicate, List.getElem?_cons_zero, List.getElem?_cons_succ, List.set_cons_zero, List.set_cons_succ, List.isEmpty_cons, List.isEmpty_nil, Nat.reduceSub, Nat.reduceAdd, Nat.zero_add, line0, line1, line2, line3, line4, line5, line6, line7, line8, true_and, and_true, if_true, if_false, Bool.false_eq_true, Bool.not_true, Bool.not_false, reduceCtorEq]
    refine hT.draw (by show _ < 16777216; omega) (by decide) fun r S3 r0 r1 hT3 => ?_
    refine ⟨⟨by omega, by omega⟩, fun j ρ S4 => j ≤ 4 ∧ ∃ (ts : Ties) (x7 x8 : Option D), ρ = [some (.kls (ns.map .int)), some (.ref 0), some (.int many), some (.bl bk), some (.tup (rows.map eRow)), some (.int n), some (eTies ts), x7, x8] ∧ ts.length ≤ j ∧ Gt bk n ts ∧ Tn (B + 20 * i + 1 + 2 * j) S4,
      ⟨by omega, [], x7, x8, rfl, Nat.le_refl _, (fun _ t ht => by cases ht), hT3⟩, fun _ _ _ _ => by simp, ?_, ?_⟩
    · rintro j d ρ S4 hd4 ⟨hj, ts, z7, z8, rfl, htl, htb, hT4⟩
      have hj2 : j < 4 := by
        have := (List.getElem?_eq_some_iff.mp hd4).1
        have this : j < (upto 0 r.toNat).length := this
        rw [upto_upI, List.length_map, upI_length] at this
        omega
      refine ⟨_, asg_nm (S := S4), ?_⟩
      unfold f_law_rows_1
      simp only [sSeq_sat, sExpr_sat, sSet_sat, sIf_sat, sRet_sat, sNil_sat, sAsg_sat, sPar_sat, sPar3_sat, sSub_sat, sTry_sat, sRaise_sat, sBreak_sat, sCont_sat, sFld_sat, tryH_nil, tryH_cons, eML_sat, eMD_sat, eVar_sat, eC_sat, eB_sat, eBin_sat, eUn_sat, eCall_sat, eTup_sat, eLst_sat, eLstM_sat, eDNew_sat, eIf_sat, eAnd_sat, eOr_sat, eNot_sat, eT_sat, eSl_sat, oNone_sat, oSome_sat, eFld_sat, eMake_sat, eMeth_sat, eRgL1_sat, eRgL2_sat, eChain_sat, aCons_sat, aNil_sat, tTru_sat, tNot_sat, tAnd_sat, tOr_sat, tYes_sat, tCmp_sat, tVal_sat, iSeq_sat, iRng1_sat, iRng2_sat, iZip_sat, iEnum_sat, iStr_sat, asg_nm, asg_tp, asgs_cons, asgs_nil, wipe_nil, wipe_cons, items_tup, items_lst, items_kls, held_tup, held_lst, held_kls, still_nil, truth_bl, truth_tup, truth_lst, truth_kls, truth_int, truth_non, gAdd_int, gSub_int, gLt_int, gLe_int, gGt_int, gGe_int, gAdd_tup, gAdd_lst, gIsN_non, gNotN_non, bLen_tup, bLen_lst, bLen_kls, bTuple_lst, bTuple_tup, litems_lst, sat_ok, List.map_cons, List.map_nil, List.cons_append, List.nil_append, List.length_cons, List.length_nil, List.replicate, List.getElem?_cons_zero, List.getElem?_cons_succ, List.set_cons_zero, List.set_cons_succ, List.isEmpty_cons, List.isEmpty_nil, Nat.reduceSub, Nat.reduceAdd, Nat.zero_add, line0, line1, line2, line3, line4, line5, line6, line7, line8, true_and, and_true, if_true, if_false, Bool.false_eq_true, Bool.not_true, Bool.not_false, reduceCtorEq]
      have fin : ∀ (o : Int) S5, (bk = false → n < o) → Tn (B + 20 * i + 1 + 2 * j + 1) S5 → (sSet 6 (eBin gAdd (eVar 6) (eTup (aCons (eTup (aCons (eVar 8) (aCons (eBin gEq (eCall (m_law_draw) (aCons (eVar 0) (aCons (eVar 1) (aCons (eC (.int 3)) (aNil))))) (eC (.int 0))) (aNil)))) (aNil)))) [some (.kls (ns.map .int)), some (.ref 0), some (.int many), some (.bl bk), some (.tup (rows.map eRow)), some (.int n), some (eTies ts), some (d), some (.int o)] S5).sat
          { nx := fun ρ S => j + 1 ≤ 4 ∧ ∃ (ts : Ties) (x7 x8 : Option D), ρ = [some (.kls (ns.map .int)), some (.ref 0), some (.int many), some (.bl bk), some (.tup (rows.map eRow)), some (.int n), some (eTies ts), x7, x8] ∧ ts.length ≤ j + 1 ∧ Gt bk n ts ∧ Tn (B + 20 * i + 1 + 2 * (j + 1)) S, rt := QD, bk := fun _ _ => False, ct := fun _ _ => False, ex := fun c _ S => E c S } := by
        intro o S5 ho hT5
        simp only [sSeq_sat, sExpr_sat, sSet_sat, sIf_sat, sRet_sat, sNil_sat, sAsg_sat, sPar_sat, sPar3_sat, sSub_sat, sTry_sat, sRaise_sat, sBreak_sat, sCont_sat, sFld_sat, tryH_nil, tryH_cons, eML_sat, eMD_sat, eVar_sat, eC_sat, eB_sat, eBin_sat, eUn_sat, eCall_sat, eTup_sat, eLst_sat, eLstM_sat, eDNew_sat, eIf_sat, eAnd_sat, eOr_sat, eNot_sat, eT_sat, eSl_sat, oNone_sat, oSome_sat, eFld_sat, eMake_sat, eMeth_sat, eRgL1_sat, eRgL2_sat, eChain_sat, aCons_sat, aNil_sat, tTru_sat, tNot_sat, tAnd_sat, tOr_sat, tYes_sat, tCmp_sat, tVal_sat, iSeq_sat, iRng1_sat, iRng2_sat, iZip_sat, iEnum_sat, iStr_sat, asg_nm, asg_tp, asgs_cons, asgs_nil, wipe_nil, wipe_cons, items_tup, items_lst, items_kls, held_tup, held_lst, held_kls, still_nil, truth_bl, truth_tup, truth_lst, truth_kls, truth_int, truth_non, gAdd_int, gSub_int, gLt_int, gLe_int, gGt_int, gGe_int, gAdd_tup, gAdd_lst, gIsN_non, gNotN_non, bLen_tup, bLen_lst, bLen_kls, bTuple_lst, bTuple_tup, litems_lst, sat_ok, List.map_cons, List.map_nil, List.cons_append, List.nil_append, List.length_cons, List.length_nil, List.replicate, List.getElem?_cons_zero, List.getElem?_cons_succ, List.set_cons_zero, List.set_cons_succ, List.isEmpty_cons, List.isEmpty_nil, Nat.reduceSub, Nat.reduceAdd, Nat.zero_add, line0, line1, line2, line3, line4, line5, line6, line7, line8, true_and, and_true, if_true, if_false, Bool.false_eq_true, Bool.not_true, Bool.not_false, reduceCtorEq]
        refine hT5.draw (by show _ < 16777216; omega) (by decide) fun r3 S6 _ _ hT6 => ?_
        rw [eq_ints]
        simp only [sSeq_sat, sExpr_sat, sSet_sat, sIf_sat, sRet_sat, sNil_sat, sAsg_sat, sPar_sat, sPar3_sat, sSub_sat, sTry_sat, sRaise_sat, sBreak_sat, sCont_sat, sFld_sat, tryH_nil, tryH_cons, eML_sat, eMD_sat, eVar_sat, eC_sat, eB_sat, eBin_sat, eUn_sat, eCall_sat, eTup_sat, eLst_sat, eLstM_sat, eDNew_sat, eIf_sat, eAnd_sat, eOr_sat, eNot_sat, eT_sat, eSl_sat, oNone_sat, oSome_sat, eFld_sat, eMake_sat, eMeth_sat, eRgL1_sat, eRgL2_sat, eChain_sat, aCons_sat, aNil_sat, tTru_sat, tNot_sat, tAnd_sat, tOr_sat, tYes_sat, tCmp_sat, tVal_sat, iSeq_sat, iRng1_sat, iRng2_sat, iZip_sat, iEnum_sat, iStr_sat, asg_nm, asg_tp, asgs_cons, asgs_nil, wipe_nil, wipe_cons, items_tup, items_lst, items_kls, held_tup, held_lst, held_kls, still_nil, truth_bl, truth_tup, truth_lst, truth_kls, truth_int, truth_non, gAdd_int, gSub_int, gLt_int, gLe_int, gGt_int, gGe_int, gAdd_tup, gAdd_lst, gIsN_non, gNotN_non, bLen_tup, bLen_lst, bLen_kls, bTuple_lst, bTuple_tup, litems_lst, sat_ok, List.map_cons, List.map_nil, List.cons_append, List.nil_append, List.length_cons, List.length_nil, List.replicate, List.getElem?_cons_zero, List.getElem?_cons_succ, List.set_cons_zero, List.set_cons_succ, List.isEmpty_cons, List.isEmpty_nil, Nat.reduceSub, Nat.reduceAdd, Nat.zero_add, line0, line1, line2, line3, line4, line5, line6, line7, line8, true_and, and_true, if_true, if_false, Bool.false_eq_true, Bool.not_true, Bool.not_false, reduceCtorEq, eTies, List.length_map]
        refine ⟨by show _ ≤ 16777216; omega, by omega, ts ++ [(o, r3 == 0)], _, _, by rw [List.map_append]; rfl, by rw [List.length_append]; simp only [List.length_cons, List.length_nil]; omega, fun hb t ht => ?_, hT6.mono (by omega)⟩
        rcases List.mem_append.mp ht with z | z
        · exact htb hb t z
        · rw [List.mem_singleton.mp z]
          exact ho hb
      cases bk with
      | true =>
        rw [if_pos rfl]
        refine hT4.draw (by show _ < 16777216; omega) (by omega) fun o S5 o0 o1 hT5 => ?_
        have := fin o S5 (fun z => by cases z) hT5
        simp only [sSeq_sat, sExpr_sat, sSet_sat, sIf_sat, sRet_sat, sNil_sat, sAsg_sat, sPar_sat, sPar3_sat, sSub_sat, sTry_sat, sRaise_sat, sBreak_sat, sCont_sat, sFld_sat, tryH_nil, tryH_cons, eML_sat, eMD_sat, eVar_sat, eC_sat, eB_sat, eBin_sat, eUn_sat, eCall_sat, eTup_sat, eLst_sat, eLstM_sat, eDNew_sat, eIf_sat, eAnd_sat, eOr_sat, eNot_sat, eT_sat, eSl_sat, oNone_sat, oSome_sat, eFld_sat, eMake_sat, eMeth_sat, eRgL1_sat, eRgL2_sat, eChain_sat, aCons_sat, aNil_sat, tTru_sat, tNot_sat, tAnd_sat, tOr_sat, tYes_sat, tCmp_sat, tVal_sat, iSeq_sat, iRng1_sat, iRng2_sat, iZip_sat, iEnum_sat, iStr_sat, asg_nm, asg_tp, asgs_cons, asgs_nil, wipe_nil, wipe_cons, items_tup, items_lst, items_kls, held_tup, held_lst, held_kls, still_nil, truth_bl, truth_tup, truth_lst, truth_kls, truth_int, truth_non, gAdd_int, gSub_int, gLt_int, gLe_int, gGt_int, gGe_int, gAdd_tup, gAdd_lst, gIsN_non, gNotN_non, bLen_tup, bLen_lst, bLen_kls, bTuple_lst, bTuple_tup, litems_lst, sat_ok, List.map_cons, List.map_nil, List.cons_append, List.nil_append, List.length_cons, List.length_nil, List.replicate, List.getElem?_cons_zero, List.getElem?_cons_succ, List.set_cons_zero, List.set_cons_succ, List.isEmpty_cons, List.isEmpty_nil, Nat.reduceSub, Nat.reduceAdd, Nat.zero_add, line0, line1, line2, line3, line4, line5, line6, line7, line8, true_and, and_true, if_true, if_false, Bool.false_eq_true, Bool.not_true, Bool.not_false, reduceCtorEq] at this
        exact this
      | false =>
        rw [if_neg (by decide)]
        refine hT4.draw (by show _ < 16777216; omega) (by decide) fun o S5 o0 o1 hT5 => ?_
        have := fin (n + 1 + o) S5 (fun _ => by omega) hT5
        simp only [sSeq_sat, sExpr_sat, sSet_sat, sIf_sat, sRet_sat, sNil_sat, sAsg_sat, sPar_sat, sPar3_sat, sSub_sat, sTry_sat, sRaise_sat, sBreak_sat, sCont_sat, sFld_sat, tryH_nil, tryH_cons, eML_sat, eMD_sat, eVar_sat, eC_sat, eB_sat, eBin_sat, eUn_sat, eCall_sat, eTup_sat, eLst_sat, eLstM_sat, eDNew_sat, eIf_sat, eAnd_sat, eOr_sat, eNot_sat, eT_sat, eSl_sat, oNone_sat, oSome_sat, eFld_sat, eMake_sat, eMeth_sat, eRgL1_sat, eRgL2_sat, eChain_sat, aCons_sat, aNil_sat, tTru_sat, tNot_sat, tAnd_sat, tOr_sat, tYes_sat, tCmp_sat, tVal_sat, iSeq_sat, iRng1_sat, iRng2_sat, iZip_sat, iEnum_sat, iStr_sat, asg_nm, asg_tp, asgs_cons, asgs_nil, wipe_nil, wipe_cons, items_tup, items_lst, items_kls, held_tup, held_lst, held_kls, still_nil, truth_bl, truth_tup, truth_lst, truth_kls, truth_int, truth_non, gAdd_int, gSub_int, gLt_int, gLe_int, gGt_int, gGe_int, gAdd_tup, gAdd_lst, gIsN_non, gNotN_non, bLen_tup, bLen_lst, bLen_kls, bTuple_lst, bTuple_tup, litems_lst, sat_ok, List.map_cons, List.map_nil, List.cons_append, List.nil_append, List.length_cons, List.length_nil, List.replicate, List.getElem?_cons_zero, List.getElem?_cons_succ, List.set_cons_zero, List.set_cons_succ, List.isEmpty_cons, List.isEmpty_nil, Nat.reduceSub, Nat.reduceAdd, Nat.zero_add, line0, line1, line2, line3, line4, line5, line6, line7, line8, true_and, and_true, if_true, if_false, Bool.false_eq_true, Bool.not_true, Bool.not_false, reduceCtorEq] at this
        exact this
    · rintro ρ S4 ⟨hj, ts, z7, z8, rfl, htl, htb, hT4⟩
      have hrl : rows.length = i := by
        have : (keysOf rows).length = ((upI many.toNat).take i).length := by rw [hk]
        rw [keysOf, List.length_map, List.length_take, upI_length] at this
        omega
      have hul : (upto 0 r.toNat).length ≤ 4 := by rw [upto_upI, List.length_map, upI_length]; omega
      simp only [sSeq_sat, sExpr_sat, sSet_sat, sIf_sat, sRet_sat, sNil_sat, sAsg_sat, sPar_sat, sPar3_sat, sSub_sat, sTry_sat, sRaise_sat, sBreak_sat, sCont_sat, sFld_sat, tryH_nil, tryH_cons, eML_sat, eMD_sat, eVar_sat, eC_sat, eB_sat, eBin_sat, eUn_sat, eCall_sat, eTup_sat, eLst_sat, eLstM_sat, eDNew_sat, eIf_sat, eAnd_sat, eOr_sat, eNot_sat, eT_sat, eSl_sat, oNone_sat, oSome_sat, eFld_sat, eMake_sat, eMeth_sat, eRgL1_sat, eRgL2_sat, eChain_sat, aCons_sat, aNil_sat, tTru_sat, tNot_sat, tAnd_sat, tOr_sat, tYes_sat, tCmp_sat, tVal_sat, iSeq_sat, iRng1_sat, iRng2_sat, iZip_sat, iEnum_sat, iStr_sat, asg_nm, asg_tp, asgs_cons, asgs_nil, wipe_nil, wipe_cons, items_tup, items_lst, items_kls, held_tup, held_lst, held_kls, still_nil, truth_bl, truth_tup, truth_lst, truth_kls, truth_int, truth_non, gAdd_int, gSub_int, gLt_int, gLe_int, gGt_int, gGe_int, gAdd_tup, gAdd_lst, gIsN_non, gNotN_non, bLen_tup, bLen_lst, bLen_kls, bTuple_lst, bTuple_tup, litems_lst, sat_ok, List.map_cons, List.map_nil, List.cons_append, List.nil_append, List.length_cons, List.length_nil, List.replicate, List.getElem?_cons_zero, List.getElem?_cons_succ, List.set_cons_zero, List.set_cons_succ, List.isEmpty_cons, List.isEmpty_nil, Nat.reduceSub, Nat.reduceAdd, Nat.zero_add, line0, line1, line2, line3, line4, line5, line6, line7, line8, true_and, and_true, if_true, if_false, Bool.false_eq_true, Bool.not_true, Bool.not_false, reduceCtorEq, List.length_map]
      have hul2 : ts.length ≤ 4 := Nat.le_trans htl hul
      refine ⟨by show _ ≤ 16777216; omega, rows ++ [(n, ts)], _, _, _, _, by rw [List.map_append]; rfl, ?_, by omega, fun r hr' => ?_, hT4.mono (by omega)⟩
      · rw [keysOf, List.map_append, List.take_add_one, hn]
        show keysOf rows ++ [n] = _
        rw [hk]
        rfl
      · rcases List.mem_append.mp hr' with z | z
        · exact hr r z
        · rw [List.mem_singleton.mp z]
          exact ⟨(by show ts.length < 5; omega), htb⟩
  · rintro ρ S2 ⟨rows, x5, x6, x7, x8, rfl, hk, hi2, hr, hT⟩
    simp only [sSeq_sat, sExpr_sat, sSet_sat, sIf_sat, sRet_sat, sNil_sat, sAsg_sat, sPar_sat, sPar3_sat, sSub_sat, sTry_sat, sRaise_sat, sBreak_sat, sCont_sat, sFld_sat, tryH_nil, tryH_cons, eML_sat, eMD_sat, eVar_sat, eC_sat, eB_sat, eBin_sat, eUn_sat, eCall_sat, eTup_sat, eLst_sat, eLstM_sat, eDNew_sat, eIf_sat, eAnd_sat, eOr_sat, eNot_sat, eT_sat, eSl_sat, oNone_sat, oSome_sat, eFld_sat, eMake_sat, eMeth_sat, eRgL1_sat, eRgL2_sat, eChain_sat, aCons_sat, aNil_sat, tTru_sat, tNot_sat, tAnd_sat, tOr_sat, tYes_sat, tCmp_sat, tVal_sat, iSeq_sat, iRng1_sat, iRng2_sat, iZip_sat, iEnum_sat, iStr_sat, asg_nm, asg_tp, asgs_cons, asgs_nil, wipe_nil, wipe_cons, items_tup, items_lst, items_kls, held_tup, held_lst, held_kls, still_nil, truth_bl, truth_tup, truth_lst, truth_kls, truth_int, truth_non, gAdd_int, gSub_int, gLt_int, gLe_int, gGt_int, gGe_int, gAdd_tup, gAdd_lst, gIsN_non, gNotN_non, bLen_tup, bLen_lst, bLen_kls, bTuple_lst, bTuple_tup, litems_lst, sat_ok, List.map_cons, List.map_nil, List.cons_append, List.nil_append, List.length_cons, List.length_nil, List.replicate, List.getElem?_cons_zero, List.getElem?_cons_succ, List.set_cons_zero, List.set_cons_succ, List.isEmpty_cons, List.isEmpty_nil, Nat.reduceSub, Nat.reduceAdd, Nat.zero_add, line0, line1, line2, line3, line4, line5, line6, line7, line8, true_and, and_true, if_true, if_false, Bool.false_eq_true, Bool.not_true, Bool.not_false, reduceCtorEq]
    rw [upI_length] at hk hi2 hT
    refine q rows S2 ⟨?_, by omega, hr⟩ (hT.mono (by omega))
    rw [hk, List.take_of_length_le (by rw [upI_length]; exact Nat.le_refl _)]
end
end Mp

namespace Mp
open PySem
section
variable {QD : D → Sto → Prop} {E : Nat → Sto → Prop} {S : Sto} {ns : List Int} {B : Nat}
theorem due_eq {rows left : Rows} {n : Int} (hn : n ∈ keysOf left) (ht : ∀ m ∈ keysOf left, tiesAt left m = tiesAt rows m) :
    (sortI (keysOf (without left n))).filter (fun o => (tiesAt rows o).contains (n, false) || (tiesAt rows o).contains (n, true)) = holdP left n false := by
  rw [keysOf_without, sortI_filter, List.filter_filter]
  unfold holdP
  apply List.filter_congr
  intro o ho
  have ho := mem_sortI.mp ho
  rw [← ht o ho, Bool.and_comm]
  congr 1
  unfold waitsP
  rw [Bool.eq_iff_iff]
  simp only [List.contains_iff_mem, List.mem_filter, mem_sortI, Bool.or_eq_true, Bool.and_eq_true, Bool.not_false, true_and]
  constructor
  · exact fun z => ⟨hn, z.symm⟩
  · exact fun z => z.2.symm
theorem told_holds_sat {rows : Rows} {out : List (Int × List Int)} (hn : (keysOf rows).Nodup) (hl : rows.length < 64) (ho : stP rows = some out) (hol : out.length < 64) (hlo : ∀ p ∈ out, p.2.length < 64) (q : ∀ S', Ext S S' → QD (.bl true) S') :
    (m_law_told_holds [.tup (rows.map eRow), .tup (out.map eOut)] S).sat QD E := by
  unfold m_law_told_holds
  refine run_sat ?_
  unfold b_law_told_holds
  simp only [sSeq_sat, sExpr_sat, sSet_sat, sIf_sat, sRet_sat, sNil_sat, sAsg_sat, sPar_sat, sPar3_sat, sSub_sat, sTry_sat, sRaise_sat, sBreak_sat, sCont_sat, sFld_sat, tryH_nil, tryH_cons, eML_sat, eMD_sat, eVar_sat, eC_sat, eB_sat, eBin_sat, eUn_sat, eCall_sat, eTup_sat, eLst_sat, eLstM_sat, eDNew_sat, eIf_sat, eAnd_sat, eOr_sat, eNot_sat, eT_sat, eSl_sat, oNone_sat, oSome_sat, eFld_sat, eMake_sat, eMeth_sat, eRgL1_sat, eRgL2_sat, eChain_sat, aCons_sat, aNil_sat, tTru_sat, tNot_sat, tAnd_sat, tOr_sat, tYes_sat, tCmp_sat, tVal_sat, iSeq_sat, iRng1_sat, iRng2_sat, iZip_sat, iEnum_sat, iStr_sat, asg_nm, asg_tp, asgs_cons, asgs_nil, wipe_nil, wipe_cons, items_tup, items_lst, items_kls, held_tup, held_lst, held_kls, still_nil, truth_bl, truth_tup, truth_lst, truth_kls, truth_int, truth_non, gAdd_int, gSub_int, gLt_int, gLe_int, gGt_int, gGe_int, gAdd_tup, gAdd_lst, gIsN_non, gNotN_non, bLen_tup, bLen_lst, bLen_kls, bTuple_lst, bTuple_tup, litems_lst, sat_ok, List.map_cons, List.map_nil, List.cons_append, List.nil_append, List.length_cons, List.length_nil, List.replicate, List.getElem?_cons_zero, List.getElem?_cons_succ, List.set_cons_zero, List.set_cons_succ, List.isEmpty_cons, List.isEmpty_nil, Nat.reduceSub, Nat.reduceAdd, Nat.zero_add, line0, line1, line2, line3, line4, line5, line6, line7, line8, true_and, and_true, if_true, if_false, Bool.false_eq_true, Bool.not_true, Bool.not_false, reduceCtorEq]
  rw [dict_rows hn]
  rw [dict_rows hn]
  try simp only [sSeq_sat, sExpr_sat, sSet_sat, sIf_sat, sRet_sat, sNil_sat, sAsg_sat, sPar_sat, sPar3_sat, sSub_sat, sTry_sat, sRaise_sat, sBreak_sat, sCont_sat, sFld_sat, tryH_nil, tryH_cons, eML_sat, eMD_sat, eVar_sat, eC_sat, eB_sat, eBin_sat, eUn_sat, eCall_sat, eTup_sat, eLst_sat, eLstM_sat, eDNew_sat, eIf_sat, eAnd_sat, eOr_sat, eNot_sat, eT_sat, eSl_sat, oNone_sat, oSome_sat, eFld_sat, eMake_sat, eMeth_sat, eRgL1_sat, eRgL2_sat, eChain_sat, aCons_sat, aNil_sat, tTru_sat, tNot_sat, tAnd_sat, tOr_sat, tYes_sat, tCmp_sat, tVal_sat, iSeq_sat, iRng1_sat, iRng2_sat, iZip_sat, iEnum_sat, iStr_sat, asg_nm, asg_tp, asgs_cons, asgs_nil, wipe_nil, wipe_cons, items_tup, items_lst, items_kls, held_tup, held_lst, held_kls, still_nil, truth_bl, truth_tup, truth_lst, truth_kls, truth_int, truth_non, gAdd_int, gSub_int, gLt_int, gLe_int, gGt_int, gGe_int, gAdd_tup, gAdd_lst, gIsN_non, gNotN_non, bLen_tup, bLen_lst, bLen_kls, bTuple_lst, bTuple_tup, litems_lst, sat_ok, List.map_cons, List.map_nil, List.cons_append, List.nil_append, List.length_cons, List.length_nil, List.replicate, List.getElem?_cons_zero, List.getElem?_cons_succ, List.set_cons_zero, List.set_cons_succ, List.isEmpty_cons, List.isEmpty_nil, Nat.reduceSub, Nat.reduceAdd, Nat.zero_add, line0, line1, line2, line3, line4, line5, line6, line7, line8, true_and, and_true, if_true, if_false, Bool.false_eq_true, Bool.not_true, Bool.not_false, reduceCtorEq]
  have el : (S ++ [O.dct false (rows.map kRow)]).length = S.length + 1 := by simp
  rw [el]
  refine for_of_list out eOut (S0 := S ++ [O.dct false (rows.map kRow)] ++ [O.dct false (rows.map kRow)]) ?_ (fun i ρ S2 => ∃ left x4 x5 x6 x7, ρ = [some (.tup (rows.map eRow)), some (.tup (out.map eOut)), some (.ref S.length), some (.ref (S.length + 1)), x4, x5, x6, x7] ∧
      Ext S S2 ∧ S2[S.length]? = some (.dct false (rows.map kRow)) ∧ S2[S.length + 1]? = some (.dct false (left.map kRow)) ∧ (keysOf left).Nodup ∧ stP left = some (out.drop i) ∧ (∀ m ∈ keysOf left, m ∈ keysOf rows ∧ tiesAt left m = tiesAt rows m) ∧ left.length ≤ rows.length)
    ⟨rows, none, none, none, none, rfl, Ext.push.trans Ext.push, by rw [List.getElem?_append_left (by simp)]; simp, by simp, hn, ho, fun m hm => ⟨hm, rfl⟩, Nat.le_refl _⟩ ?_ ?_
  · (simp only [sSeq_sat, sExpr_sat, sSet_sat, sIf_sat, sRet_sat, sNil_sat, sAsg_sat, sPar_sat, sPar3_sat, sSub_sat, sTry_sat, sRaise_sat, sBreak_sat, sCont_sat, sFld_sat, tryH_nil, tryH_cons, eML_sat, eMD_sat, eVar_sat, eC_sat, eB_sat, eBin_sat, eUn_sat, eCall_sat, eTup_sat, eLst_sat, eLstM_sat, eDNew_sat, eIf_sat, eAnd_sat, eOr_sat, eNot_sat, eT_sat, eSl_sat, oNone_sat, oSome_sat, eFld_sat, eMake_sat, eMeth_sat, eRgL1_sat, eRgL2_sat, eChain_sat, aCons_sat, aNil_sat, tTru_sat, tNot_sat, tAnd_sat, tOr_sat, tYes_sat, tCmp_sat, tVal_sat, iSeq_sat, iRng1_sat, iRng2_sat, iZip_sat, iEnum_sat, iStr_sat, asg_nm, asg_tp, asgs_cons, asgs_nil, wipe_nil, wipe_cons, items_tup, items_lst, items_kls, held_tup, held_lst, held_kls, still_nil, truth_bl, truth_tup, truth_lst, truth_kls, truth_int, truth_non, gAdd_int, gSub_int, gLt_int, gLe_int, gGt_int, gGe_int, gAdd_tup, gAdd_lst, gIsN_non, gNotN_non, bLen_tup, bLen_lst, bLen_kls, bTuple_lst, bTuple_tup, litems_lst, sat_ok, List.map_cons, List.map_nil, List.cons_append, List.nil_append, List.length_cons, List.length_nil, List.replicate, List.getElem?_cons_zero, List.getElem?_cons_succ, List.set_cons_zero, List.set_cons_succ, List.isEmpty_cons, List.isEmpty_nil, Nat.reduceSub, Nat.reduceAdd, Nat.zero_add, line0, line1, line2, line3, line4, line5, line6, line7, line8, true_and, and_true, if_true, if_false, Bool.false_eq_true, Bool.not_true, Bool.not_false, reduceCtorEq] <;> first | exact Ext.refl | exact ⟨rfl, Ext.refl⟩ | exact ⟨trivial, Ext.refl⟩ | exact ⟨rfl, rfl⟩ | exact ⟨trivial, trivial⟩)
  · rintro i ⟨n, l⟩ ρ S2 hi hil ⟨left, x4, x5, x6, x7, rfl, hE, hr, hS, hnd, hst, hsub, hlen⟩
    refine ⟨_, by simp only [sSeq_sat, sExpr_sat, sSet_sat, sIf_sat, sRet_sat, sNil_sat, sAsg_sat, sPar_sat, sPar3_sat, sSub_sat, sTry_sat, sRaise_sat, sBreak_sat, sCont_sat, sFld_sat, tryH_nil, tryH_cons, eML_sat, eMD_sat, eVar_sat, eC_sat, eB_sat, eBin_sat, eUn_sat, eCall_sat, eTup_sat, eLst_sat, eLstM_sat, eDNew_sat, eIf_sat, eAnd_sat, eOr_sat, eNot_sat, eT_sat, eSl_sat, oNone_sat, oSome_sat, eFld_sat, eMake_sat, eMeth_sat, eRgL1_sat, eRgL2_sat, eChain_sat, aCons_sat, aNil_sat, tTru_sat, tNot_sat, tAnd_sat, tOr_sat, tYes_sat, tCmp_sat, tVal_sat, iSeq_sat, iRng1_sat, iRng2_sat, iZip_sat, iEnum_sat, iStr_sat, asg_nm, asg_tp, asgs_cons, asgs_nil, wipe_nil, wipe_cons, items_tup, items_lst, items_kls, held_tup, held_lst, held_kls, still_nil, truth_bl, truth_tup, truth_lst, truth_kls, truth_int, truth_non, gAdd_int, gSub_int, gLt_int, gLe_int, gGt_int, gGe_int, gAdd_tup, gAdd_lst, gIsN_non, gNotN_non, bLen_tup, bLen_lst, bLen_kls, bTuple_lst, bTuple_tup, litems_lst, sat_ok, List.map_cons, List.map_nil, List.cons_append, List.nil_append, List.length_cons, List.length_nil, List.replicate, List.getElem?_cons_zero, List.getElem?_cons_succ, List.set_cons_zero, List.set_cons_succ, List.isEmpty_cons, List.isEmpty_nil, Nat.reduceSub, Nat.reduceAdd, Nat.zero_add, line0, line1, line2, line3, line4, line5, line6, line7, line8, true_and, and_true, if_true, if_false, Bool.false_eq_true, Bool.not_true, Bool.not_false, reduceCtorEq, eOut]; rfl, ?_⟩
    have hd : out.drop i = (n, l) :: out.drop (i + 1) := by
      rw [List.drop_eq_getElem_cons hil]
      congr 1
      exact (List.getElem?_eq_some_iff.mp hi).2
    rw [hd] at hst
    obtain ⟨hk, hl2, hneed, hst'⟩ := strike_step hnd hst
    have hk : n ∈ keysOf left := hk
    have hl2 : l = holdP left n false := hl2
    have hneed : holdP left n true = [] := hneed
    obtain ⟨ts, ht, htm⟩ := tiesOf_mem hk
    have hkg : kget (left.map kRow) (.int n) = some (eTies ts) := by rw [kget_rows, ht]; rfl
    unfold f_law_told_holds_1
    simp only [sSeq_sat, sExpr_sat, sSet_sat, sIf_sat, sRet_sat, sNil_sat, sAsg_sat, sPar_sat, sPar3_sat, sSub_sat, sTry_sat, sRaise_sat, sBreak_sat, sCont_sat, sFld_sat, tryH_nil, tryH_cons, eML_sat, eMD_sat, eVar_sat, eC_sat, eB_sat, eBin_sat, eUn_sat, eCall_sat, eTup_sat, eLst_sat, eLstM_sat, eDNew_sat, eIf_sat, eAnd_sat, eOr_sat, eNot_sat, eT_sat, eSl_sat, oNone_sat, oSome_sat, eFld_sat, eMake_sat, eMeth_sat, eRgL1_sat, eRgL2_sat, eChain_sat, aCons_sat, aNil_sat, tTru_sat, tNot_sat, tAnd_sat, tOr_sat, tYes_sat, tCmp_sat, tVal_sat, iSeq_sat, iRng1_sat, iRng2_sat, iZip_sat, iEnum_sat, iStr_sat, asg_nm, asg_tp, asgs_cons, asgs_nil, wipe_nil, wipe_cons, items_tup, items_lst, items_kls, held_tup, held_lst, held_kls, still_nil, truth_bl, truth_tup, truth_lst, truth_kls, truth_int, truth_non, gAdd_int, gSub_int, gLt_int, gLe_int, gGt_int, gGe_int, gAdd_tup, gAdd_lst, gIsN_non, gNotN_non, bLen_tup, bLen_lst, bLen_kls, bTuple_lst, bTuple_tup, litems_lst, sat_ok, List.map_cons, List.map_nil, List.cons_append, List.nil_append, List.length_cons, List.length_nil, List.replicate, List.getElem?_cons_zero, List.getElem?_cons_succ, List.set_cons_zero, List.set_cons_succ, List.isEmpty_cons, List.isEmpty_nil, Nat.reduceSub, Nat.reduceAdd, Nat.zero_add, line0, line1, line2, line3, line4, line5, line6, line7, line8, true_and, and_true, if_true, if_false, Bool.false_eq_true, Bool.not_true, Bool.not_false, reduceCtorEq, pairs_ref', hS]
    rw [pop_dict hS hkg, kdel_rows]
    have hr1 : S.length + 1 < S2.length := (List.getElem?_eq_some_iff.mp hS).1
    generalize hS3 : S2.set (S.length + 1) (.dct false ((without left n).map kRow)) = S3
    have h3 : S3[S.length + 1]? = some (.dct false ((without left n).map kRow)) := by rw [← hS3, List.getElem?_set_self hr1]
    have h3r : S3[S.length]? = some (.dct false (rows.map kRow)) := by rw [← hS3, List.getElem?_set_ne (by omega)]; exact hr
    have hE3 : Ext S S3 := by rw [← hS3]; exact hE.set (by omega)
    have hwl := without_length hnd hk
    refine comp_of_list (sortI (keysOf (without left n))) D.int (fun o => (tiesAt rows o).contains (n, false) || (tiesAt rows o).contains (n, true)) D.int ?_ ?_ ?_ ?_
    · try simp only [sSeq_sat, sExpr_sat, sSet_sat, sIf_sat, sRet_sat, sNil_sat, sAsg_sat, sPar_sat, sPar3_sat, sSub_sat, sTry_sat, sRaise_sat, sBreak_sat, sCont_sat, sFld_sat, tryH_nil, tryH_cons, eML_sat, eMD_sat, eVar_sat, eC_sat, eB_sat, eBin_sat, eUn_sat, eCall_sat, eTup_sat, eLst_sat, eLstM_sat, eDNew_sat, eIf_sat, eAnd_sat, eOr_sat, eNot_sat, eT_sat, eSl_sat, oNone_sat, oSome_sat, eFld_sat, eMake_sat, eMeth_sat, eRgL1_sat, eRgL2_sat, eChain_sat, aCons_sat, aNil_sat, tTru_sat, tNot_sat, tAnd_sat, tOr_sat, tYes_sat, tCmp_sat, tVal_sat, iSeq_sat, iRng1_sat, iRng2_sat, iZip_sat, iEnum_sat, iStr_sat, asg_nm, asg_tp, asgs_cons, asgs_nil, wipe_nil, wipe_cons, items_tup, items_lst, items_kls, held_tup, held_lst, held_kls, still_nil, truth_bl, truth_tup, truth_lst, truth_kls, truth_int, truth_non, gAdd_int, gSub_int, gLt_int, gLe_int, gGt_int, gGe_int, gAdd_tup, gAdd_lst, gIsN_non, gNotN_non, bLen_tup, bLen_lst, bLen_kls, bTuple_lst, bTuple_tup, litems_lst, sat_ok, List.map_cons, List.map_nil, List.cons_append, List.nil_append, List.length_cons, List.length_nil, List.replicate, List.getElem?_cons_zero, List.getElem?_cons_succ, List.set_cons_zero, List.set_cons_succ, List.isEmpty_cons, List.isEmpty_nil, Nat.reduceSub, Nat.reduceAdd, Nat.zero_add, line0, line1, line2, line3, line4, line5, line6, line7, line8, true_and, and_true, if_true, if_false, Bool.false_eq_true, Bool.not_true, Bool.not_false, reduceCtorEq]
      rw [sorted_dict h3 (by omega)]
      exact ⟨rfl, Ext.refl⟩
    · rw [sortI_length, keysOf, List.length_map]; show _ ≤ 16777216; omega
    · intro o ho S4 h4
      have ho := mem_sortI.mp ho
      rw [keysOf_without, List.mem_filter] at ho
      obtain ⟨ts2, ht2, _⟩ := tiesOf_mem (hsub o ho.1).1
      have hkg2 : kget (rows.map kRow) (.int o) = some (eTies ts2) := by rw [kget_rows, ht2]; rfl
      have et2 : tiesAt rows o = ts2 := by unfold tiesAt; rw [ht2]; rfl
      refine ⟨_, asg_nm (S := S4), ?_⟩
      try simp only [sSeq_sat, sExpr_sat, sSet_sat, sIf_sat, sRet_sat, sNil_sat, sAsg_sat, sPar_sat, sPar3_sat, sSub_sat, sTry_sat, sRaise_sat, sBreak_sat, sCont_sat, sFld_sat, tryH_nil, tryH_cons, eML_sat, eMD_sat, eVar_sat, eC_sat, eB_sat, eBin_sat, eUn_sat, eCall_sat, eTup_sat, eLst_sat, eLstM_sat, eDNew_sat, eIf_sat, eAnd_sat, eOr_sat, eNot_sat, eT_sat, eSl_sat, oNone_sat, oSome_sat, eFld_sat, eMake_sat, eMeth_sat, eRgL1_sat, eRgL2_sat, eChain_sat, aCons_sat, aNil_sat, tTru_sat, tNot_sat, tAnd_sat, tOr_sat, tYes_sat, tCmp_sat, tVal_sat, iSeq_sat, iRng1_sat, iRng2_sat, iZip_sat, iEnum_sat, iStr_sat, asg_nm, asg_tp, asgs_cons, asgs_nil, wipe_nil, wipe_cons, items_tup, items_lst, items_kls, held_tup, held_lst, held_kls, still_nil, truth_bl, truth_tup, truth_lst, truth_kls, truth_int, truth_non, gAdd_int, gSub_int, gLt_int, gLe_int, gGt_int, gGe_int, gAdd_tup, gAdd_lst, gIsN_non, gNotN_non, bLen_tup, bLen_lst, bLen_kls, bTuple_lst, bTuple_tup, litems_lst, sat_ok, List.map_cons, List.map_nil, List.cons_append, List.nil_append, List.length_cons, List.length_nil, List.replicate, List.getElem?_cons_zero, List.getElem?_cons_succ, List.set_cons_zero, List.set_cons_succ, List.isEmpty_cons, List.isEmpty_nil, Nat.reduceSub, Nat.reduceAdd, Nat.zero_add, line0, line1, line2, line3, line4, line5, line6, line7, line8, true_and, and_true, if_true, if_false, Bool.false_eq_true, Bool.not_true, Bool.not_false, reduceCtorEq]
      rw [ix_dict' (h4.get h3r) hkg2, in_ties, et2]
      cases ts2.contains (n, false) with
      | true => (first | exact (h4) | exact ⟨(h4), rfl⟩ | exact ⟨rfl, (h4)⟩ | exact ⟨trivial, (h4)⟩ | exact ⟨(h4), fun _ => (h4)⟩ | exact ⟨(h4), fun _ => ⟨(h4), rfl⟩⟩ | exact ⟨(h4), rfl, fun _ => (h4)⟩ | exact ⟨(h4), rfl, fun _ => ⟨(h4), rfl⟩⟩)
      | false =>
        try simp only [sSeq_sat, sExpr_sat, sSet_sat, sIf_sat, sRet_sat, sNil_sat, sAsg_sat, sPar_sat, sPar3_sat, sSub_sat, sTry_sat, sRaise_sat, sBreak_sat, sCont_sat, sFld_sat, tryH_nil, tryH_cons, eML_sat, eMD_sat, eVar_sat, eC_sat, eB_sat, eBin_sat, eUn_sat, eCall_sat, eTup_sat, eLst_sat, eLstM_sat, eDNew_sat, eIf_sat, eAnd_sat, eOr_sat, eNot_sat, eT_sat, eSl_sat, oNone_sat, oSome_sat, eFld_sat, eMake_sat, eMeth_sat, eRgL1_sat, eRgL2_sat, eChain_sat, aCons_sat, aNil_sat, tTru_sat, tNot_sat, tAnd_sat, tOr_sat, tYes_sat, tCmp_sat, tVal_sat, iSeq_sat, iRng1_sat, iRng2_sat, iZip_sat, iEnum_sat, iStr_sat, asg_nm, asg_tp, asgs_cons, asgs_nil, wipe_nil, wipe_cons, items_tup, items_lst, items_kls, held_tup, held_lst, held_kls, still_nil, truth_bl, truth_tup, truth_lst, truth_kls, truth_int, truth_non, gAdd_int, gSub_int, gLt_int, gLe_int, gGt_int, gGe_int, gAdd_tup, gAdd_lst, gIsN_non, gNotN_non, bLen_tup, bLen_lst, bLen_kls, bTuple_lst, bTuple_tup, litems_lst, sat_ok, List.map_cons, List.map_nil, List.cons_append, List.nil_append, List.length_cons, List.length_nil, List.replicate, List.getElem?_cons_zero, List.getElem?_cons_succ, List.set_cons_zero, List.set_cons_succ, List.isEmpty_cons, List.isEmpty_nil, Nat.reduceSub, Nat.reduceAdd, Nat.zero_add, line0, line1, line2, line3, line4, line5, line6, line7, line8, true_and, and_true, if_true, if_false, Bool.false_eq_true, Bool.not_true, Bool.not_false, reduceCtorEq]
        rw [ix_dict' (h4.get h3r) hkg2, in_ties]
        (first | exact (h4) | exact ⟨(h4), rfl⟩ | exact ⟨rfl, (h4)⟩ | exact ⟨trivial, (h4)⟩ | exact ⟨(h4), fun _ => (h4)⟩ | exact ⟨(h4), fun _ => ⟨(h4), rfl⟩⟩ | exact ⟨(h4), rfl, fun _ => (h4)⟩ | exact ⟨(h4), rfl, fun _ => ⟨(h4), rfl⟩⟩)
    · intro S4 h4
      rw [due_eq hk fun m hm => (hsub m hm).2]
      try simp only [sSeq_sat, sExpr_sat, sSet_sat, sIf_sat, sRet_sat, sNil_sat, sAsg_sat, sPar_sat, sPar3_sat, sSub_sat, sTry_sat, sRaise_sat, sBreak_sat, sCont_sat, sFld_sat, tryH_nil, tryH_cons, eML_sat, eMD_sat, eVar_sat, eC_sat, eB_sat, eBin_sat, eUn_sat, eCall_sat, eTup_sat, eLst_sat, eLstM_sat, eDNew_sat, eIf_sat, eAnd_sat, eOr_sat, eNot_sat, eT_sat, eSl_sat, oNone_sat, oSome_sat, eFld_sat, eMake_sat, eMeth_sat, eRgL1_sat, eRgL2_sat, eChain_sat, aCons_sat, aNil_sat, tTru_sat, tNot_sat, tAnd_sat, tOr_sat, tYes_sat, tCmp_sat, tVal_sat, iSeq_sat, iRng1_sat, iRng2_sat, iZip_sat, iEnum_sat, iStr_sat, asg_nm, asg_tp, asgs_cons, asgs_nil, wipe_nil, wipe_cons, items_tup, items_lst, items_kls, held_tup, held_lst, held_kls, still_nil, truth_bl, truth_tup, truth_lst, truth_kls, truth_int, truth_non, gAdd_int, gSub_int, gLt_int, gLe_int, gGt_int, gGe_int, gAdd_tup, gAdd_lst, gIsN_non, gNotN_non, bLen_tup, bLen_lst, bLen_kls, bTuple_lst, bTuple_tup, litems_lst, sat_ok, List.map_cons, List.map_nil, List.cons_append, List.nil_append, List.length_cons, List.length_nil, List.replicate, List.getElem?_cons_zero, List.getElem?_cons_succ, List.set_cons_zero, List.set_cons_succ, List.isEmpty_cons, List.isEmpty_nil, Nat.reduceSub, Nat.reduceAdd, Nat.zero_add, line0, line1, line2, line3, line4, line5, line6, line7, line8, true_and, and_true, if_true, if_false, Bool.false_eq_true, Bool.not_true, Bool.not_false, reduceCtorEq]
      have bl : ∀ {QD : D → Sto → Prop} {E : Nat → Sto → Prop}, (bList [.tup (l.map D.int)] S4).sat QD E = QD (.lst (l.map .int)) S4 := rfl
      rw [bl, hl2, ne_self (lst_plain _) (lst_dep _)]
      try simp only [sSeq_sat, sExpr_sat, sSet_sat, sIf_sat, sRet_sat, sNil_sat, sAsg_sat, sPar_sat, sPar3_sat, sSub_sat, sTry_sat, sRaise_sat, sBreak_sat, sCont_sat, sFld_sat, tryH_nil, tryH_cons, eML_sat, eMD_sat, eVar_sat, eC_sat, eB_sat, eBin_sat, eUn_sat, eCall_sat, eTup_sat, eLst_sat, eLstM_sat, eDNew_sat, eIf_sat, eAnd_sat, eOr_sat, eNot_sat, eT_sat, eSl_sat, oNone_sat, oSome_sat, eFld_sat, eMake_sat, eMeth_sat, eRgL1_sat, eRgL2_sat, eChain_sat, aCons_sat, aNil_sat, tTru_sat, tNot_sat, tAnd_sat, tOr_sat, tYes_sat, tCmp_sat, tVal_sat, iSeq_sat, iRng1_sat, iRng2_sat, iZip_sat, iEnum_sat, iStr_sat, asg_nm, asg_tp, asgs_cons, asgs_nil, wipe_nil, wipe_cons, items_tup, items_lst, items_kls, held_tup, held_lst, held_kls, still_nil, truth_bl, truth_tup, truth_lst, truth_kls, truth_int, truth_non, gAdd_int, gSub_int, gLt_int, gLe_int, gGt_int, gGe_int, gAdd_tup, gAdd_lst, gIsN_non, gNotN_non, bLen_tup, bLen_lst, bLen_kls, bTuple_lst, bTuple_tup, litems_lst, sat_ok, List.map_cons, List.map_nil, List.cons_append, List.nil_append, List.length_cons, List.length_nil, List.replicate, List.getElem?_cons_zero, List.getElem?_cons_succ, List.set_cons_zero, List.set_cons_succ, List.isEmpty_cons, List.isEmpty_nil, Nat.reduceSub, Nat.reduceAdd, Nat.zero_add, line0, line1, line2, line3, line4, line5, line6, line7, line8, true_and, and_true, if_true, if_false, Bool.false_eq_true, Bool.not_true, Bool.not_false, reduceCtorEq]
      rw [← hl2]
      refine comp_of_map l D.int (fun _ => .bl false) ?_ ?_ ?_ ?_
      · (simp only [sSeq_sat, sExpr_sat, sSet_sat, sIf_sat, sRet_sat, sNil_sat, sAsg_sat, sPar_sat, sPar3_sat, sSub_sat, sTry_sat, sRaise_sat, sBreak_sat, sCont_sat, sFld_sat, tryH_nil, tryH_cons, eML_sat, eMD_sat, eVar_sat, eC_sat, eB_sat, eBin_sat, eUn_sat, eCall_sat, eTup_sat, eLst_sat, eLstM_sat, eDNew_sat, eIf_sat, eAnd_sat, eOr_sat, eNot_sat, eT_sat, eSl_sat, oNone_sat, oSome_sat, eFld_sat, eMake_sat, eMeth_sat, eRgL1_sat, eRgL2_sat, eChain_sat, aCons_sat, aNil_sat, tTru_sat, tNot_sat, tAnd_sat, tOr_sat, tYes_sat, tCmp_sat, tVal_sat, iSeq_sat, iRng1_sat, iRng2_sat, iZip_sat, iEnum_sat, iStr_sat, asg_nm, asg_tp, asgs_cons, asgs_nil, wipe_nil, wipe_cons, items_tup, items_lst, items_kls, held_tup, held_lst, held_kls, still_nil, truth_bl, truth_tup, truth_lst, truth_kls, truth_int, truth_non, gAdd_int, gSub_int, gLt_int, gLe_int, gGt_int, gGe_int, gAdd_tup, gAdd_lst, gIsN_non, gNotN_non, bLen_tup, bLen_lst, bLen_kls, bTuple_lst, bTuple_tup, litems_lst, sat_ok, List.map_cons, List.map_nil, List.cons_append, List.nil_append, List.length_cons, List.length_nil, List.replicate, List.getElem?_cons_zero, List.getElem?_cons_succ, List.set_cons_zero, List.set_cons_succ, List.isEmpty_cons, List.isEmpty_nil, Nat.reduceSub, Nat.reduceAdd, Nat.zero_add, line0, line1, line2, line3, line4, line5, line6, line7, line8, true_and, and_true, if_true, if_false, Bool.false_eq_true, Bool.not_true, Bool.not_false, reduceCtorEq] <;> first | exact Ext.refl | exact ⟨rfl, Ext.refl⟩ | exact ⟨trivial, Ext.refl⟩ | exact ⟨rfl, rfl⟩ | exact ⟨trivial, trivial⟩)
      · have := hlo _ (List.mem_of_getElem? hi)
        show _ ≤ 16777216
        have this : l.length < 64 := this
        omega
      · intro o ho S5 h5
        rw [hl2] at ho
        obtain ⟨g1, g2, g3, g4⟩ := mem_holdP.mp ho
        obtain ⟨ts2, ht2, _⟩ := tiesOf_mem (hsub o g1).1
        have hkg2 : kget (rows.map kRow) (.int o) = some (eTies ts2) := by rw [kget_rows, ht2]; rfl
        have et2 : tiesAt rows o = ts2 := by unfold tiesAt; rw [ht2]; rfl
        have hno : ts2.contains (n, true) = false := by
          cases hc : ts2.contains (n, true) with
          | false => rfl
          | true =>
            have : o ∈ holdP left n true := mem_holdP.mpr ⟨g1, g2, g3, .inl (by rw [(hsub o g1).2, et2]; simpa using hc)⟩
            rw [hneed] at this
            cases this
        refine ⟨_, asg_nm (S := S5), ?_⟩
        try simp only [sSeq_sat, sExpr_sat, sSet_sat, sIf_sat, sRet_sat, sNil_sat, sAsg_sat, sPar_sat, sPar3_sat, sSub_sat, sTry_sat, sRaise_sat, sBreak_sat, sCont_sat, sFld_sat, tryH_nil, tryH_cons, eML_sat, eMD_sat, eVar_sat, eC_sat, eB_sat, eBin_sat, eUn_sat, eCall_sat, eTup_sat, eLst_sat, eLstM_sat, eDNew_sat, eIf_sat, eAnd_sat, eOr_sat, eNot_sat, eT_sat, eSl_sat, oNone_sat, oSome_sat, eFld_sat, eMake_sat, eMeth_sat, eRgL1_sat, eRgL2_sat, eChain_sat, aCons_sat, aNil_sat, tTru_sat, tNot_sat, tAnd_sat, tOr_sat, tYes_sat, tCmp_sat, tVal_sat, iSeq_sat, iRng1_sat, iRng2_sat, iZip_sat, iEnum_sat, iStr_sat, asg_nm, asg_tp, asgs_cons, asgs_nil, wipe_nil, wipe_cons, items_tup, items_lst, items_kls, held_tup, held_lst, held_kls, still_nil, truth_bl, truth_tup, truth_lst, truth_kls, truth_int, truth_non, gAdd_int, gSub_int, gLt_int, gLe_int, gGt_int, gGe_int, gAdd_tup, gAdd_lst, gIsN_non, gNotN_non, bLen_tup, bLen_lst, bLen_kls, bTuple_lst, bTuple_tup, litems_lst, sat_ok, List.map_cons, List.map_nil, List.cons_append, List.nil_append, List.length_cons, List.length_nil, List.replicate, List.getElem?_cons_zero, List.getElem?_cons_succ, List.set_cons_zero, List.set_cons_succ, List.isEmpty_cons, List.isEmpty_nil, Nat.reduceSub, Nat.reduceAdd, Nat.zero_add, line0, line1, line2, line3, line4, line5, line6, line7, line8, true_and, and_true, if_true, if_false, Bool.false_eq_true, Bool.not_true, Bool.not_false, reduceCtorEq]
        rw [ix_dict' (h5.get (h4.get h3r)) hkg2, in_ties, hno]
        (first | exact (h5) | exact ⟨(h5), rfl⟩ | exact ⟨rfl, (h5)⟩ | exact ⟨trivial, (h5)⟩ | exact ⟨(h5), fun _ => (h5)⟩ | exact ⟨(h5), fun _ => ⟨(h5), rfl⟩⟩ | exact ⟨(h5), rfl, fun _ => (h5)⟩ | exact ⟨(h5), rfl, fun _ => ⟨(h5), rfl⟩⟩)
      · intro S5 h5
        have e : l.map (fun _ => D.bl false) = (l.map fun _ => false).map .bl := by rw [List.map_map]; rfl
        rw [e, anys]
        have e2 : (l.map fun _ => false).any id = false := by
          rw [List.any_eq_false]
          intro b hb
          obtain ⟨_, _, rfl⟩ := List.mem_map.mp hb
          decide
        rw [e2]
        try simp only [sSeq_sat, sExpr_sat, sSet_sat, sIf_sat, sRet_sat, sNil_sat, sAsg_sat, sPar_sat, sPar3_sat, sSub_sat, sTry_sat, sRaise_sat, sBreak_sat, sCont_sat, sFld_sat, tryH_nil, tryH_cons, eML_sat, eMD_sat, eVar_sat, eC_sat, eB_sat, eBin_sat, eUn_sat, eCall_sat, eTup_sat, eLst_sat, eLstM_sat, eDNew_sat, eIf_sat, eAnd_sat, eOr_sat, eNot_sat, eT_sat, eSl_sat, oNone_sat, oSome_sat, eFld_sat, eMake_sat, eMeth_sat, eRgL1_sat, eRgL2_sat, eChain_sat, aCons_sat, aNil_sat, tTru_sat, tNot_sat, tAnd_sat, tOr_sat, tYes_sat, tCmp_sat, tVal_sat, iSeq_sat, iRng1_sat, iRng2_sat, iZip_sat, iEnum_sat, iStr_sat, asg_nm, asg_tp, asgs_cons, asgs_nil, wipe_nil, wipe_cons, items_tup, items_lst, items_kls, held_tup, held_lst, held_kls, still_nil, truth_bl, truth_tup, truth_lst, truth_kls, truth_int, truth_non, gAdd_int, gSub_int, gLt_int, gLe_int, gGt_int, gGe_int, gAdd_tup, gAdd_lst, gIsN_non, gNotN_non, bLen_tup, bLen_lst, bLen_kls, bTuple_lst, bTuple_tup, litems_lst, sat_ok, List.map_cons, List.map_nil, List.cons_append, List.nil_append, List.length_cons, List.length_nil, List.replicate, List.getElem?_cons_zero, List.getElem?_cons_succ, List.set_cons_zero, List.set_cons_succ, List.isEmpty_cons, List.isEmpty_nil, Nat.reduceSub, Nat.reduceAdd, Nat.zero_add, line0, line1, line2, line3, line4, line5, line6, line7, line8, true_and, and_true, if_true, if_false, Bool.false_eq_true, Bool.not_true, Bool.not_false, reduceCtorEq]
        refine ⟨without left n, _, _, _, _, rfl, hE3.trans (h4.trans h5), h5.get (h4.get h3r), h5.get (h4.get h3), nodup_without hnd, hst', fun m hm => ?_, by omega⟩
        rw [keysOf_without, List.mem_filter] at hm
        have hmn : m ≠ n := by simpa using hm.2
        exact ⟨(hsub m hm.1).1, by rw [tiesAt_without hmn]; exact (hsub m hm.1).2⟩
  · rintro ρ S2 ⟨left, x4, x5, x6, x7, rfl, hE, hr, hS, hnd, hst, hsub, hlen⟩
    rw [List.drop_of_length_le (Nat.le_refl _)] at hst
    have := strike_nil hst
    subst this
    try simp only [sSeq_sat, sExpr_sat, sSet_sat, sIf_sat, sRet_sat, sNil_sat, sAsg_sat, sPar_sat, sPar3_sat, sSub_sat, sTry_sat, sRaise_sat, sBreak_sat, sCont_sat, sFld_sat, tryH_nil, tryH_cons, eML_sat, eMD_sat, eVar_sat, eC_sat, eB_sat, eBin_sat, eUn_sat, eCall_sat, eTup_sat, eLst_sat, eLstM_sat, eDNew_sat, eIf_sat, eAnd_sat, eOr_sat, eNot_sat, eT_sat, eSl_sat, oNone_sat, oSome_sat, eFld_sat, eMake_sat, eMeth_sat, eRgL1_sat, eRgL2_sat, eChain_sat, aCons_sat, aNil_sat, tTru_sat, tNot_sat, tAnd_sat, tOr_sat, tYes_sat, tCmp_sat, tVal_sat, iSeq_sat, iRng1_sat, iRng2_sat, iZip_sat, iEnum_sat, iStr_sat, asg_nm, asg_tp, asgs_cons, asgs_nil, wipe_nil, wipe_cons, items_tup, items_lst, items_kls, held_tup, held_lst, held_kls, still_nil, truth_bl, truth_tup, truth_lst, truth_kls, truth_int, truth_non, gAdd_int, gSub_int, gLt_int, gLe_int, gGt_int, gGe_int, gAdd_tup, gAdd_lst, gIsN_non, gNotN_non, bLen_tup, bLen_lst, bLen_kls, bTuple_lst, bTuple_tup, litems_lst, sat_ok, List.map_cons, List.map_nil, List.cons_append, List.nil_append, List.length_cons, List.length_nil, List.replicate, List.getElem?_cons_zero, List.getElem?_cons_succ, List.set_cons_zero, List.set_cons_succ, List.isEmpty_cons, List.isEmpty_nil, Nat.reduceSub, Nat.reduceAdd, Nat.zero_add, line0, line1, line2, line3, line4, line5, line6, line7, line8, true_and, and_true, if_true, if_false, Bool.false_eq_true, Bool.not_true, Bool.not_false, reduceCtorEq]
    have hr1 : S.length + 1 < S2.length := (List.getElem?_eq_some_iff.mp hS).1
    rw [gEqE_sat (kvs := []) (by rw [List.getElem?_append_left hr1]; exact hS) (by simp)]
    exact q _ (hE.trans Ext.push)
/-! ### without one number -/
def bareR (n : Int) (rows : Rows) : Rows := (without rows n).map fun r => (r.1, r.2.filter fun t => !(t.1 == n))
theorem bare_sat {rows : Rows} {n : Int} (hl : rows.length < 64) (hts : ∀ r ∈ rows, r.2.length < 64) (q : ∀ S', Ext S S' → QD (.tup ((bareR n rows).map eRow)) S') : (m_law_bare [.tup (rows.map eRow), .int n] S).sat QD E := by
  unfold m_law_bare
  refine run_sat ?_
  unfold b_law_bare c_law_bare_2
  try simp only [sSeq_sat, sExpr_sat, sSet_sat, sIf_sat, sRet_sat, sNil_sat, sAsg_sat, sPar_sat, sPar3_sat, sSub_sat, sTry_sat, sRaise_sat, sBreak_sat, sCont_sat, sFld_sat, tryH_nil, tryH_cons, eML_sat, eMD_sat, eVar_sat, eC_sat, eB_sat, eBin_sat, eUn_sat, eCall_sat, eTup_sat, eLst_sat, eLstM_sat, eDNew_sat, eIf_sat, eAnd_sat, eOr_sat, eNot_sat, eT_sat, eSl_sat, oNone_sat, oSome_sat, eFld_sat, eMake_sat, eMeth_sat, eRgL1_sat, eRgL2_sat, eChain_sat, aCons_sat, aNil_sat, tTru_sat, tNot_sat, tAnd_sat, tOr_sat, tYes_sat, tCmp_sat, tVal_sat, iSeq_sat, iRng1_sat, iRng2_sat, iZip_sat, iEnum_sat, iStr_sat, asg_nm, asg_tp, asgs_cons, asgs_nil, wipe_nil, wipe_cons, items_tup, items_lst, items_kls, held_tup, held_lst, held_kls, still_nil, truth_bl, truth_tup, truth_lst, truth_kls, truth_int, truth_non, gAdd_int, gSub_int, gLt_int, gLe_int, gGt_int, gGe_int, gAdd_tup, gAdd_lst, gIsN_non, gNotN_non, bLen_tup, bLen_lst, bLen_kls, bTuple_lst, bTuple_tup, litems_lst, sat_ok, List.map_cons, List.map_nil, List.cons_append, List.nil_append, List.length_cons, List.length_nil, List.replicate, List.getElem?_cons_zero, List.getElem?_cons_succ, List.set_cons_zero, List.set_cons_succ, List.isEmpty_cons, List.isEmpty_nil, Nat.reduceSub, Nat.reduceAdd, Nat.zero_add, line0, line1, line2, line3, line4, line5, line6, line7, line8, true_and, and_true, if_true, if_false, Bool.false_eq_true, Bool.not_true, Bool.not_false, reduceCtorEq]
  refine comp_of_list rows eRow (fun r => !(r.1 == n)) (fun r => eRow (r.1, r.2.filter fun t => !(t.1 == n))) ?_ (by show _ ≤ 16777216; omega) ?_ ?_
  · (simp only [sSeq_sat, sExpr_sat, sSet_sat, sIf_sat, sRet_sat, sNil_sat, sAsg_sat, sPar_sat, sPar3_sat, sSub_sat, sTry_sat, sRaise_sat, sBreak_sat, sCont_sat, sFld_sat, tryH_nil, tryH_cons, eML_sat, eMD_sat, eVar_sat, eC_sat, eB_sat, eBin_sat, eUn_sat, eCall_sat, eTup_sat, eLst_sat, eLstM_sat, eDNew_sat, eIf_sat, eAnd_sat, eOr_sat, eNot_sat, eT_sat, eSl_sat, oNone_sat, oSome_sat, eFld_sat, eMake_sat, eMeth_sat, eRgL1_sat, eRgL2_sat, eChain_sat, aCons_sat, aNil_sat, tTru_sat, tNot_sat, tAnd_sat, tOr_sat, tYes_sat, tCmp_sat, tVal_sat, iSeq_sat, iRng1_sat, iRng2_sat, iZip_sat, iEnum_sat, iStr_sat, asg_nm, asg_tp, asgs_cons, asgs_nil, wipe_nil, wipe_cons, items_tup, items_lst, items_kls, held_tup, held_lst, held_kls, still_nil, truth_bl, truth_tup, truth_lst, truth_kls, truth_int, truth_non, gAdd_int, gSub_int, gLt_int, gLe_int, gGt_int, gGe_int, gAdd_tup, gAdd_lst, gIsN_non, gNotN_non, bLen_tup, bLen_lst, bLen_kls, bTuple_lst, bTuple_tup, litems_lst, sat_ok, List.map_cons, List.map_nil, List.cons_append, List.nil_append, List.length_cons, List.length_nil, List.replicate, List.getElem?_cons_zero, List.getElem?_cons_succ, List.set_cons_zero, List.set_cons_succ, List.isEmpty_cons, List.isEmpty_nil, Nat.reduceSub, Nat.reduceAdd, Nat.zero_add, line0, line1, line2, line3, line4, line5, line6, line7, line8, true_and, and_true, if_true, if_false, Bool.false_eq_true, Bool.not_true, Bool.not_false, reduceCtorEq] <;> first | exact Ext.refl | exact ⟨rfl, Ext.refl⟩ | exact ⟨trivial, Ext.refl⟩ | exact ⟨rfl, rfl⟩ | exact ⟨trivial, trivial⟩)
  · rintro ⟨m, ts⟩ hm S1 h1
    refine ⟨_, by simp only [sSeq_sat, sExpr_sat, sSet_sat, sIf_sat, sRet_sat, sNil_sat, sAsg_sat, sPar_sat, sPar3_sat, sSub_sat, sTry_sat, sRaise_sat, sBreak_sat, sCont_sat, sFld_sat, tryH_nil, tryH_cons, eML_sat, eMD_sat, eVar_sat, eC_sat, eB_sat, eBin_sat, eUn_sat, eCall_sat, eTup_sat, eLst_sat, eLstM_sat, eDNew_sat, eIf_sat, eAnd_sat, eOr_sat, eNot_sat, eT_sat, eSl_sat, oNone_sat, oSome_sat, eFld_sat, eMake_sat, eMeth_sat, eRgL1_sat, eRgL2_sat, eChain_sat, aCons_sat, aNil_sat, tTru_sat, tNot_sat, tAnd_sat, tOr_sat, tYes_sat, tCmp_sat, tVal_sat, iSeq_sat, iRng1_sat, iRng2_sat, iZip_sat, iEnum_sat, iStr_sat, asg_nm, asg_tp, asgs_cons, asgs_nil, wipe_nil, wipe_cons, items_tup, items_lst, items_kls, held_tup, held_lst, held_kls, still_nil, truth_bl, truth_tup, truth_lst, truth_kls, truth_int, truth_non, gAdd_int, gSub_int, gLt_int, gLe_int, gGt_int, gGe_int, gAdd_tup, gAdd_lst, gIsN_non, gNotN_non, bLen_tup, bLen_lst, bLen_kls, bTuple_lst, bTuple_tup, litems_lst, sat_ok, List.map_cons, List.map_nil, List.cons_append, List.nil_append, List.length_cons, List.length_nil, List.replicate, List.getElem?_cons_zero, List.getElem?_cons_succ, List.set_cons_zero, List.set_cons_succ, List.isEmpty_cons, List.isEmpty_nil, Nat.reduceSub, Nat.reduceAdd, Nat.zero_add, line0, line1, line2, line3, line4, line5, line6, line7, line8, true_and, and_true, if_true, if_false, Bool.false_eq_true, Bool.not_true, Bool.not_false, reduceCtorEq, eRow]; rfl, ?_⟩
    try simp only [sSeq_sat, sExpr_sat, sSet_sat, sIf_sat, sRet_sat, sNil_sat, sAsg_sat, sPar_sat, sPar3_sat, sSub_sat, sTry_sat, sRaise_sat, sBreak_sat, sCont_sat, sFld_sat, tryH_nil, tryH_cons, eML_sat, eMD_sat, eVar_sat, eC_sat, eB_sat, eBin_sat, eUn_sat, eCall_sat, eTup_sat, eLst_sat, eLstM_sat, eDNew_sat, eIf_sat, eAnd_sat, eOr_sat, eNot_sat, eT_sat, eSl_sat, oNone_sat, oSome_sat, eFld_sat, eMake_sat, eMeth_sat, eRgL1_sat, eRgL2_sat, eChain_sat, aCons_sat, aNil_sat, tTru_sat, tNot_sat, tAnd_sat, tOr_sat, tYes_sat, tCmp_sat, tVal_sat, iSeq_sat, iRng1_sat, iRng2_sat, iZip_sat, iEnum_sat, iStr_sat, asg_nm, asg_tp, asgs_cons, asgs_nil, wipe_nil, wipe_cons, items_tup, items_lst, items_kls, held_tup, held_lst, held_kls, still_nil, truth_bl, truth_tup, truth_lst, truth_kls, truth_int, truth_non, gAdd_int, gSub_int, gLt_int, gLe_int, gGt_int, gGe_int, gAdd_tup, gAdd_lst, gIsN_non, gNotN_non, bLen_tup, bLen_lst, bLen_kls, bTuple_lst, bTuple_tup, litems_lst, sat_ok, List.map_cons, List.map_nil, List.cons_append, List.nil_append, List.length_cons, List.length_nil, List.replicate, List.getElem?_cons_zero, List.getElem?_cons_succ, List.set_cons_zero, List.set_cons_succ, List.isEmpty_cons, List.isEmpty_nil, Nat.reduceSub, Nat.reduceAdd, Nat.zero_add, line0, line1, line2, line3, line4, line5, line6, line7, line8, true_and, and_true, if_true, if_false, Bool.false_eq_true, Bool.not_true, Bool.not_false, reduceCtorEq]
    rw [ne_ints]
    try simp only [sSeq_sat, sExpr_sat, sSet_sat, sIf_sat, sRet_sat, sNil_sat, sAsg_sat, sPar_sat, sPar3_sat, sSub_sat, sTry_sat, sRaise_sat, sBreak_sat, sCont_sat, sFld_sat, tryH_nil, tryH_cons, eML_sat, eMD_sat, eVar_sat, eC_sat, eB_sat, eBin_sat, eUn_sat, eCall_sat, eTup_sat, eLst_sat, eLstM_sat, eDNew_sat, eIf_sat, eAnd_sat, eOr_sat, eNot_sat, eT_sat, eSl_sat, oNone_sat, oSome_sat, eFld_sat, eMake_sat, eMeth_sat, eRgL1_sat, eRgL2_sat, eChain_sat, aCons_sat, aNil_sat, tTru_sat, tNot_sat, tAnd_sat, tOr_sat, tYes_sat, tCmp_sat, tVal_sat, iSeq_sat, iRng1_sat, iRng2_sat, iZip_sat, iEnum_sat, iStr_sat, asg_nm, asg_tp, asgs_cons, asgs_nil, wipe_nil, wipe_cons, items_tup, items_lst, items_kls, held_tup, held_lst, held_kls, still_nil, truth_bl, truth_tup, truth_lst, truth_kls, truth_int, truth_non, gAdd_int, gSub_int, gLt_int, gLe_int, gGt_int, gGe_int, gAdd_tup, gAdd_lst, gIsN_non, gNotN_non, bLen_tup, bLen_lst, bLen_kls, bTuple_lst, bTuple_tup, litems_lst, sat_ok, List.map_cons, List.map_nil, List.cons_append, List.nil_append, List.length_cons, List.length_nil, List.replicate, List.getElem?_cons_zero, List.getElem?_cons_succ, List.set_cons_zero, List.set_cons_succ, List.isEmpty_cons, List.isEmpty_nil, Nat.reduceSub, Nat.reduceAdd, Nat.zero_add, line0, line1, line2, line3, line4, line5, line6, line7, line8, true_and, and_true, if_true, if_false, Bool.false_eq_true, Bool.not_true, Bool.not_false, reduceCtorEq]
    refine ⟨h1, fun hne => ?_⟩
    unfold c_law_bare_1
    refine comp_of_list ts eTie (fun t => !(t.1 == n)) eTie ?_ (by have := hts _ hm; show _ ≤ 16777216; have this : ts.length < 64 := this; omega) ?_ ?_
    · (simp only [sSeq_sat, sExpr_sat, sSet_sat, sIf_sat, sRet_sat, sNil_sat, sAsg_sat, sPar_sat, sPar3_sat, sSub_sat, sTry_sat, sRaise_sat, sBreak_sat, sCont_sat, sFld_sat, tryH_nil, tryH_cons, eML_sat, eMD_sat, eVar_sat, eC_sat, eB_sat, eBin_sat, eUn_sat, eCall_sat, eTup_sat, eLst_sat, eLstM_sat, eDNew_sat, eIf_sat, eAnd_sat, eOr_sat, eNot_sat, eT_sat, eSl_sat, oNone_sat, oSome_sat, eFld_sat, eMake_sat, eMeth_sat, eRgL1_sat, eRgL2_sat, eChain_sat, aCons_sat, aNil_sat, tTru_sat, tNot_sat, tAnd_sat, tOr_sat, tYes_sat, tCmp_sat, tVal_sat, iSeq_sat, iRng1_sat, iRng2_sat, iZip_sat, iEnum_sat, iStr_sat, asg_nm, asg_tp, asgs_cons, asgs_nil, wipe_nil, wipe_cons, items_tup, items_lst, items_kls, held_tup, held_lst, held_kls, still_nil, truth_bl, truth_tup, truth_lst, truth_kls, truth_int, truth_non, gAdd_int, gSub_int, gLt_int, gLe_int, gGt_int, gGe_int, gAdd_tup, gAdd_lst, gIsN_non, gNotN_non, bLen_tup, bLen_lst, bLen_kls, bTuple_lst, bTuple_tup, litems_lst, sat_ok, List.map_cons, List.map_nil, List.cons_append, List.nil_append, List.length_cons, List.length_nil, List.replicate, List.getElem?_cons_zero, List.getElem?_cons_succ, List.set_cons_zero, List.set_cons_succ, List.isEmpty_cons, List.isEmpty_nil, Nat.reduceSub, Nat.reduceAdd, Nat.zero_add, line0, line1, line2, line3, line4, line5, line6, line7, line8, true_and, and_true, if_true, if_false, Bool.false_eq_true, Bool.not_true, Bool.not_false, reduceCtorEq, eTies] <;> first | exact Ext.refl | exact ⟨rfl, Ext.refl⟩ | exact ⟨trivial, Ext.refl⟩ | exact ⟨rfl, rfl⟩ | exact ⟨trivial, trivial⟩)
    · rintro ⟨p, b⟩ _ S2 h2
      refine ⟨_, asg_nm (S := S2), ?_⟩
      simp only [sSeq_sat, sExpr_sat, sSet_sat, sIf_sat, sRet_sat, sNil_sat, sAsg_sat, sPar_sat, sPar3_sat, sSub_sat, sTry_sat, sRaise_sat, sBreak_sat, sCont_sat, sFld_sat, tryH_nil, tryH_cons, eML_sat, eMD_sat, eVar_sat, eC_sat, eB_sat, eBin_sat, eUn_sat, eCall_sat, eTup_sat, eLst_sat, eLstM_sat, eDNew_sat, eIf_sat, eAnd_sat, eOr_sat, eNot_sat, eT_sat, eSl_sat, oNone_sat, oSome_sat, eFld_sat, eMake_sat, eMeth_sat, eRgL1_sat, eRgL2_sat, eChain_sat, aCons_sat, aNil_sat, tTru_sat, tNot_sat, tAnd_sat, tOr_sat, tYes_sat, tCmp_sat, tVal_sat, iSeq_sat, iRng1_sat, iRng2_sat, iZip_sat, iEnum_sat, iStr_sat, asg_nm, asg_tp, asgs_cons, asgs_nil, wipe_nil, wipe_cons, items_tup, items_lst, items_kls, held_tup, held_lst, held_kls, still_nil, truth_bl, truth_tup, truth_lst, truth_kls, truth_int, truth_non, gAdd_int, gSub_int, gLt_int, gLe_int, gGt_int, gGe_int, gAdd_tup, gAdd_lst, gIsN_non, gNotN_non, bLen_tup, bLen_lst, bLen_kls, bTuple_lst, bTuple_tup, litems_lst, sat_ok, List.map_cons, List.map_nil, List.cons_append, List.nil_append, List.length_cons, List.length_nil, List.replicate, List.getElem?_cons_zero, List.getElem?_cons_succ, List.set_cons_zero, List.set_cons_succ, List.isEmpty_cons, List.isEmpty_nil, Nat.reduceSub, Nat.reduceAdd, Nat.zero_add, line0, line1, line2, line3, line4, line5, line6, line7, line8, true_and, and_true, if_true, if_false, Bool.false_eq_true, Bool.not_true, Bool.not_false, reduceCtorEq, eTie, ixt0]
      rw [ne_ints]
      (first | exact (h2) | exact ⟨(h2), rfl⟩ | exact ⟨rfl, (h2)⟩ | exact ⟨trivial, (h2)⟩ | exact ⟨(h2), fun _ => (h2)⟩ | exact ⟨(h2), fun _ => ⟨(h2), rfl⟩⟩ | exact ⟨(h2), rfl, fun _ => (h2)⟩ | exact ⟨(h2), rfl, fun _ => ⟨(h2), rfl⟩⟩)
    · intro S2 h2
      try simp only [sSeq_sat, sExpr_sat, sSet_sat, sIf_sat, sRet_sat, sNil_sat, sAsg_sat, sPar_sat, sPar3_sat, sSub_sat, sTry_sat, sRaise_sat, sBreak_sat, sCont_sat, sFld_sat, tryH_nil, tryH_cons, eML_sat, eMD_sat, eVar_sat, eC_sat, eB_sat, eBin_sat, eUn_sat, eCall_sat, eTup_sat, eLst_sat, eLstM_sat, eDNew_sat, eIf_sat, eAnd_sat, eOr_sat, eNot_sat, eT_sat, eSl_sat, oNone_sat, oSome_sat, eFld_sat, eMake_sat, eMeth_sat, eRgL1_sat, eRgL2_sat, eChain_sat, aCons_sat, aNil_sat, tTru_sat, tNot_sat, tAnd_sat, tOr_sat, tYes_sat, tCmp_sat, tVal_sat, iSeq_sat, iRng1_sat, iRng2_sat, iZip_sat, iEnum_sat, iStr_sat, asg_nm, asg_tp, asgs_cons, asgs_nil, wipe_nil, wipe_cons, items_tup, items_lst, items_kls, held_tup, held_lst, held_kls, still_nil, truth_bl, truth_tup, truth_lst, truth_kls, truth_int, truth_non, gAdd_int, gSub_int, gLt_int, gLe_int, gGt_int, gGe_int, gAdd_tup, gAdd_lst, gIsN_non, gNotN_non, bLen_tup, bLen_lst, bLen_kls, bTuple_lst, bTuple_tup, litems_lst, sat_ok, List.map_cons, List.map_nil, List.cons_append, List.nil_append, List.length_cons, List.length_nil, List.replicate, List.getElem?_cons_zero, List.getElem?_cons_succ, List.set_cons_zero, List.set_cons_succ, List.isEmpty_cons, List.isEmpty_nil, Nat.reduceSub, Nat.reduceAdd, Nat.zero_add, line0, line1, line2, line3, line4, line5, line6, line7, line8, true_and, and_true, if_true, if_false, Bool.false_eq_true, Bool.not_true, Bool.not_false, reduceCtorEq]
      (first | exact (h1.trans h2) | exact ⟨(h1.trans h2), rfl⟩ | exact ⟨rfl, (h1.trans h2)⟩ | exact ⟨trivial, (h1.trans h2)⟩ | exact ⟨(h1.trans h2), fun _ => (h1.trans h2)⟩ | exact ⟨(h1.trans h2), fun _ => ⟨(h1.trans h2), rfl⟩⟩ | exact ⟨(h1.trans h2), rfl, fun _ => (h1.trans h2)⟩ | exact ⟨(h1.trans h2), rfl, fun _ => ⟨(h1.trans h2), rfl⟩⟩)
  · intro S1 h1
    rw [bTuple_lst]
    have := q S1 h1
    unfold bareR at this
    rw [List.map_map] at this
    exact this
theorem bare_alike {rows : Rows} {n : Int} : Alike (without rows n) (bareR n rows) := by
  have hk : keysOf (bareR n rows) = keysOf (without rows n) := by unfold bareR keysOf; rw [List.map_map]; rfl
  refine ⟨hk.symm, fun m hm o ho b => ?_⟩
  rw [keysOf_without, List.mem_filter] at ho
  have hon : o ≠ n := by simpa using ho.2
  have : tiesOf (bareR n rows) m = (tiesOf (without rows n) m).map fun ts => ts.filter fun t => !(t.1 == n) := by
    unfold bareR tiesOf
    induction without rows n with
    | nil => rfl
    | cons r rs ih =>
      simp only [List.map_cons, List.find?_cons]
      cases r.1 == m with
      | true => rfl
      | false => exact ih
  unfold tiesAt
  rw [this]
  cases tiesOf (without rows n) m with
  | none => rfl
  | some ts =>
    simp only [Option.map_some, Option.getD_some, List.mem_filter]
    simp [hon]
end
end Mp

namespace Mp
open PySem
def mapRow (f : Int × Ties → Ties) (rows : Rows) : Rows := rows.map fun r => (r.1, f r)
theorem keys_mapRow (f : Int × Ties → Ties) (rows : Rows) : keysOf (mapRow f rows) = keysOf rows := by
  unfold keysOf mapRow
  rw [List.map_map]
  rfl
theorem length_mapRow (f : Int × Ties → Ties) (rows : Rows) : (mapRow f rows).length = rows.length := by unfold mapRow; rw [List.length_map]
theorem tiesAt_mapRow {f : Int × Ties → Ties} {rows : Rows} {n : Int} (h : n ∈ keysOf rows) : tiesAt (mapRow f rows) n = f (n, tiesAt rows n) := by
  unfold tiesAt tiesOf mapRow
  induction rows with
  | nil => cases h
  | cons r rows ih =>
    simp only [List.map_cons, List.find?_cons]
    cases hb : r.1 == n with
    | true =>
      have : r.1 = n := by simpa using hb
      subst this
      rfl
    | false =>
      refine ih ?_
      rcases List.mem_cons.mp (show n ∈ r.1 :: keysOf rows from h) with z | z
      · rw [z] at hb; simp at hb
      · exact z
theorem mapRow_rows (f : Int × Ties → Ties) (rows : Rows) : rows.map (fun r => eRow (r.1, f r)) = (mapRow f rows).map eRow := by unfold mapRow; rw [List.map_map]; rfl
def ownT (r : Int × Ties) : Ties := r.2.reverse ++ r.2 ++ [(r.1, true), (99, true)]
def freeT (r : Int × Ties) : Ties := r.2.map fun t => (t.1, false)
theorem own_alike {rows : Rows} (h : ∀ n ∈ keysOf rows, n < 9) : AlikeD rows (mapRow ownT rows) := by
  refine ⟨(keys_mapRow _ _).symm, fun n hn o ho hne b => ?_⟩
  rw [tiesAt_mapRow hn]
  have : o ≠ 99 := fun e => by have := h o ho; omega
  unfold ownT
  simp [this, hne]
theorem free_none {rows : Rows} (n o : Int) : (o, true) ∉ tiesAt (mapRow freeT rows) n := by
  by_cases h : n ∈ keysOf rows
  · rw [tiesAt_mapRow h]
    unfold freeT
    simp
  · rw [tiesAt_none (by rw [keys_mapRow]; exact h)]
    simp
def ringR : Rows := [(50, [(51, true)]), (51, [(50, true)])]
theorem ring_none {rows : Rows} (h : ∀ n ∈ keysOf rows, n < 9) : stP (rows ++ ringR) = none := by
  have hk : keysOf (rows ++ ringR) = keysOf rows ++ [50, 51] := by unfold keysOf; rw [List.map_append]; rfl
  have at_ : ∀ n ts, 9 ≤ n → (n, ts) ∈ ringR → tiesOf ringR n = some ts → tiesAt (rows ++ ringR) n = ts := by
    intro n ts hn _ hts
    unfold tiesAt tiesOf
    rw [List.find?_append]
    have : rows.find? (fun r => r.1 == n) = none := by
      rw [List.find?_eq_none]
      intro r hr e
      simp at e
      have := h n (List.mem_map.mpr ⟨r, hr, e⟩)
      omega
    rw [this]
    unfold tiesOf at hts
    rw [Option.none_or, hts]
    rfl
  refine strike_none_of_ring _ (L := [50, 51]) (by simp) (fun n hn => by rw [hk]; exact List.mem_append_right _ hn) fun n hn => ?_
  simp at hn
  rcases hn with rfl | rfl
  · exact ⟨51, by simp, by decide, by rw [at_ 51 [(50, true)] (by decide) (by decide) (by decide)]; simp⟩
  · exact ⟨50, by simp, by decide, by rw [at_ 50 [(51, true)] (by decide) (by decide) (by decide)]; simp⟩
theorem up_of {rows : Rows} {m : Nat} (h : Rw rows m false) : Up rows := by
  intro n o b hm
  by_cases hk : n ∈ keysOf rows
  · obtain ⟨ts, ht, htm⟩ := tiesOf_mem hk
    have et : tiesAt rows n = ts := by unfold tiesAt; rw [ht]; rfl
    rw [et] at hm
    exact (h.ties _ htm).2 rfl _ hm
  · rw [tiesAt_none hk] at hm
    cases hm
section
variable {QD : D → Sto → Prop} {E : Nat → Sto → Prop} {S : Sto} {ns : List Int} {B : Nat}
theorem ix_ints : ∀ (l : List Int) (o : Int), o ∈ l → ∃ j, ixOf (l.map D.int) (.int o) = some j ∧ l[j]? = some o ∧ ∀ k, k < j → l[k]? ≠ some o
  | a :: l, o, h => by
    unfold ixOf
    rw [List.map_cons, List.findIdx?_cons]
    by_cases e : a = o
    · refine ⟨0, by simp [D.eqv, e], by simp [e], fun k hk => by omega⟩
    · obtain ⟨j, h1, h2, h3⟩ := ix_ints l o ((List.mem_cons.mp h).resolve_left fun z => e z.symm)
      unfold ixOf at h1
      refine ⟨j + 1, by simp [D.eqv, e, h1], by simpa using h2, fun k hk => ?_⟩
      cases k with
      | zero => simp [e]
      | succ k => simpa using h3 k (by omega)
theorem index_sat {l : List Int} {o : Int} (h : o ∈ l) (q : ∀ j : Nat, l[j]? = some o → (∀ k, k < j → l[k]? ≠ some o) → QD (.int j) S) : (mIndex (.lst (l.map .int)) [.int o] S).sat QD E := by
  obtain ⟨j, h1, h2, h3⟩ := ix_ints l o h
  have hp : D.plains (l.map D.int) = true ∧ D.deps (l.map D.int) ≤ 60 ∧ (D.int o).plain = true ∧ (D.int o).dep ≤ 60 := ⟨ints_plain l, by rw [ints_dep]; omega, rfl, by simp [D.dep]⟩
  simp only [mIndex, litems_lst]
  rw [if_pos hp, h1]
  exact q j h2 h3
theorem own_sat {rows : Rows} {x0 x1 x2 x3 x5 x6 x7 x8 x9 x10 x11 x12 x13 x14 x15 x16 x17 : Option D} (hl : rows.length < 64) (hts : ∀ r ∈ rows, r.2.length < 64) (q : ∀ S', Ext S S' → QD (.lst ((mapRow ownT rows).map eRow)) S') : (c_law_1 [x0, x1, x2, x3, some (.tup (rows.map eRow)), x5, x6, x7, x8, x9, x10, x11, x12, x13, x14, x15, x16, x17] S).sat QD E := by
  unfold c_law_1
  refine comp_of_map rows eRow (fun r => eRow (r.1, ownT r)) ?_ (by show _ ≤ 16777216; omega) ?_ (by rw [mapRow_rows]; exact q)
  · (simp only [sSeq_sat, sExpr_sat, sSet_sat, sIf_sat, sRet_sat, sNil_sat, sAsg_sat, sPar_sat, sPar3_sat, sSub_sat, sTry_sat, sRaise_sat, sBreak_sat, sCont_sat, sFld_sat, tryH_nil, tryH_cons, eML_sat, eMD_sat, eVar_sat, eC_sat, eB_sat, eBin_sat, eUn_sat, eCall_sat, eTup_sat, eLst_sat, eLstM_sat, eDNew_sat, eIf_sat, eAnd_sat, eOr_sat, eNot_sat, eT_sat, eSl_sat, oNone_sat, oSome_sat, eFld_sat, eMake_sat, eMeth_sat, eRgL1_sat, eRgL2_sat, eChain_sat, aCons_sat, aNil_sat, tTru_sat, tNot_sat, tAnd_sat, tOr_sat, tYes_sat, tCmp_sat, tVal_sat, iSeq_sat, iRng1_sat, iRng2_sat, iZip_sat, iEnum_sat, iStr_sat, asg_nm, asg_tp, asgs_cons, asgs_nil, wipe_nil, wipe_cons, items_tup, items_lst, items_kls, held_tup, held_lst, held_kls, still_nil, truth_bl, truth_tup, truth_lst, truth_kls, truth_int, truth_non, gAdd_int, gSub_int, gLt_int, gLe_int, gGt_int, gGe_int, gAdd_tup, gAdd_lst, gIsN_non, gNotN_non, bLen_tup, bLen_lst, bLen_kls, bTuple_lst, bTuple_tup, litems_lst, sat_ok, List.map_cons, List.map_nil, List.cons_append, List.nil_append, List.length_cons, List.length_nil, List.replicate, List.getElem?_cons_zero, List.getElem?_cons_succ, List.set_cons_zero, List.set_cons_succ, List.isEmpty_cons, List.isEmpty_nil, Nat.reduceSub, Nat.reduceAdd, Nat.zero_add, line0, line1, line2, line3, line4, line5, line6, line7, line8, true_and, and_true, if_true, if_false, Bool.false_eq_true, Bool.not_true, Bool.not_false, reduceCtorEq] <;> first | exact Ext.refl | exact ⟨rfl, Ext.refl⟩ | exact ⟨trivial, Ext.refl⟩ | exact ⟨rfl, rfl⟩ | exact ⟨trivial, trivial⟩)
  · rintro ⟨n, ts⟩ hr S1 h1
    have hlt : ts.length < 64 := hts _ hr
    refine ⟨_, by simp only [sSeq_sat, sExpr_sat, sSet_sat, sIf_sat, sRet_sat, sNil_sat, sAsg_sat, sPar_sat, sPar3_sat, sSub_sat, sTry_sat, sRaise_sat, sBreak_sat, sCont_sat, sFld_sat, tryH_nil, tryH_cons, eML_sat, eMD_sat, eVar_sat, eC_sat, eB_sat, eBin_sat, eUn_sat, eCall_sat, eTup_sat, eLst_sat, eLstM_sat, eDNew_sat, eIf_sat, eAnd_sat, eOr_sat, eNot_sat, eT_sat, eSl_sat, oNone_sat, oSome_sat, eFld_sat, eMake_sat, eMeth_sat, eRgL1_sat, eRgL2_sat, eChain_sat, aCons_sat, aNil_sat, tTru_sat, tNot_sat, tAnd_sat, tOr_sat, tYes_sat, tCmp_sat, tVal_sat, iSeq_sat, iRng1_sat, iRng2_sat, iZip_sat, iEnum_sat, iStr_sat, asg_nm, asg_tp, asgs_cons, asgs_nil, wipe_nil, wipe_cons, items_tup, items_lst, items_kls, held_tup, held_lst, held_kls, still_nil, truth_bl, truth_tup, truth_lst, truth_kls, truth_int, truth_non, gAdd_int, gSub_int, gLt_int, gLe_int, gGt_int, gGe_int, gAdd_tup, gAdd_lst, gIsN_non, gNotN_non, bLen_tup, bLen_lst, bLen_kls, bTuple_lst, bTuple_tup, litems_lst, sat_ok, List.map_cons, List.map_nil, List.cons_append, List.nil_append, List.length_cons, List.length_nil, List.replicate, List.getElem?_cons_zero, List.getElem?_cons_succ, List.set_cons_zero, List.set_cons_succ, List.isEmpty_cons, List.isEmpty_nil, Nat.reduceSub, Nat.reduceAdd, Nat.zero_add, line0, line1, line2, line3, line4, line5, line6, line7, line8, true_and, and_true, if_true, if_false, Bool.false_eq_true, Bool.not_true, Bool.not_false, reduceCtorEq, eRow]; rfl, ?_⟩
    simp only [sSeq_sat, sExpr_sat, sSet_sat, sIf_sat, sRet_sat, sNil_sat, sAsg_sat, sPar_sat, sPar3_sat, sSub_sat, sTry_sat, sRaise_sat, sBreak_sat, sCont_sat, sFld_sat, tryH_nil, tryH_cons, eML_sat, eMD_sat, eVar_sat, eC_sat, eB_sat, eBin_sat, eUn_sat, eCall_sat, eTup_sat, eLst_sat, eLstM_sat, eDNew_sat, eIf_sat, eAnd_sat, eOr_sat, eNot_sat, eT_sat, eSl_sat, oNone_sat, oSome_sat, eFld_sat, eMake_sat, eMeth_sat, eRgL1_sat, eRgL2_sat, eChain_sat, aCons_sat, aNil_sat, tTru_sat, tNot_sat, tAnd_sat, tOr_sat, tYes_sat, tCmp_sat, tVal_sat, iSeq_sat, iRng1_sat, iRng2_sat, iZip_sat, iEnum_sat, iStr_sat, asg_nm, asg_tp, asgs_cons, asgs_nil, wipe_nil, wipe_cons, items_tup, items_lst, items_kls, held_tup, held_lst, held_kls, still_nil, truth_bl, truth_tup, truth_lst, truth_kls, truth_int, truth_non, gAdd_int, gSub_int, gLt_int, gLe_int, gGt_int, gGe_int, gAdd_tup, gAdd_lst, gIsN_non, gNotN_non, bLen_tup, bLen_lst, bLen_kls, bTuple_lst, bTuple_tup, litems_lst, sat_ok, List.map_cons, List.map_nil, List.cons_append, List.nil_append, List.length_cons, List.length_nil, List.replicate, List.getElem?_cons_zero, List.getElem?_cons_succ, List.set_cons_zero, List.set_cons_succ, List.isEmpty_cons, List.isEmpty_nil, Nat.reduceSub, Nat.reduceAdd, Nat.zero_add, line0, line1, line2, line3, line4, line5, line6, line7, line8, true_and, and_true, if_true, if_false, Bool.false_eq_true, Bool.not_true, Bool.not_false, reduceCtorEq, eTies, gBack_tup, List.length_map, List.length_reverse, List.length_append]
    refine ⟨by show _ ≤ 16777216; omega, by show _ ≤ 16777216; omega, h1, ?_⟩
    unfold ownT
    simp [eRow, eTies, eTie]
theorem free_sat' {rows : Rows} {x0 x1 x2 x3 x5 x6 x7 x8 x9 x10 x11 x12 x13 x14 x15 x16 x17 : Option D} (hl : rows.length < 64) (hts : ∀ r ∈ rows, r.2.length < 64) (q : ∀ S', Ext S S' → QD (.lst ((mapRow freeT rows).map eRow)) S') : (c_law_3 [x0, x1, x2, x3, some (.tup (rows.map eRow)), x5, x6, x7, x8, x9, x10, x11, x12, x13, x14, x15, x16, x17] S).sat QD E := by
  unfold c_law_3
  refine comp_of_map rows eRow (fun r => eRow (r.1, freeT r)) ?_ (by show _ ≤ 16777216; omega) ?_ (by rw [mapRow_rows]; exact q)
  · (simp only [sSeq_sat, sExpr_sat, sSet_sat, sIf_sat, sRet_sat, sNil_sat, sAsg_sat, sPar_sat, sPar3_sat, sSub_sat, sTry_sat, sRaise_sat, sBreak_sat, sCont_sat, sFld_sat, tryH_nil, tryH_cons, eML_sat, eMD_sat, eVar_sat, eC_sat, eB_sat, eBin_sat, eUn_sat, eCall_sat, eTup_sat, eLst_sat, eLstM_sat, eDNew_sat, eIf_sat, eAnd_sat, eOr_sat, eNot_sat, eT_sat, eSl_sat, oNone_sat, oSome_sat, eFld_sat, eMake_sat, eMeth_sat, eRgL1_sat, eRgL2_sat, eChain_sat, aCons_sat, aNil_sat, tTru_sat, tNot_sat, tAnd_sat, tOr_sat, tYes_sat, tCmp_sat, tVal_sat, iSeq_sat, iRng1_sat, iRng2_sat, iZip_sat, iEnum_sat, iStr_sat, asg_nm, asg_tp, asgs_cons, asgs_nil, wipe_nil, wipe_cons, items_tup, items_lst, items_kls, held_tup, held_lst, held_kls, still_nil, truth_bl, truth_tup, truth_lst, truth_kls, truth_int, truth_non, gAdd_int, gSub_int, gLt_int, gLe_int, gGt_int, gGe_int, gAdd_tup, gAdd_lst, gIsN_non, gNotN_non, bLen_tup, bLen_lst, bLen_kls, bTuple_lst, bTuple_tup, litems_lst, sat_ok, List.map_cons, List.map_nil, List.cons_append, List.nil_append, List.length_cons, List.length_nil, List.replicate, List.getElem?_cons_zero, List.getElem?_cons_succ, List.set_cons_zero, List.set_cons_succ, List.isEmpty_cons, List.isEmpty_nil, Nat.reduceSub, Nat.reduceAdd, Nat.zero_add, line0, line1, line2, line3, line4, line5, line6, line7, line8, true_and, and_true, if_true, if_false, Bool.false_eq_true, Bool.not_true, Bool.not_false, reduceCtorEq] <;> first | exact Ext.refl | exact ⟨rfl, Ext.refl⟩ | exact ⟨trivial, Ext.refl⟩ | exact ⟨rfl, rfl⟩ | exact ⟨trivial, trivial⟩)
  · rintro ⟨n, ts⟩ hr S1 h1
    have hlt : ts.length < 64 := hts _ hr
    refine ⟨_, by simp only [sSeq_sat, sExpr_sat, sSet_sat, sIf_sat, sRet_sat, sNil_sat, sAsg_sat, sPar_sat, sPar3_sat, sSub_sat, sTry_sat, sRaise_sat, sBreak_sat, sCont_sat, sFld_sat, tryH_nil, tryH_cons, eML_sat, eMD_sat, eVar_sat, eC_sat, eB_sat, eBin_sat, eUn_sat, eCall_sat, eTup_sat, eLst_sat, eLstM_sat, eDNew_sat, eIf_sat, eAnd_sat, eOr_sat, eNot_sat, eT_sat, eSl_sat, oNone_sat, oSome_sat, eFld_sat, eMake_sat, eMeth_sat, eRgL1_sat, eRgL2_sat, eChain_sat, aCons_sat, aNil_sat, tTru_sat, tNot_sat, tAnd_sat, tOr_sat, tYes_sat, tCmp_sat, tVal_sat, iSeq_sat, iRng1_sat, iRng2_sat, iZip_sat, iEnum_sat, iStr_sat, asg_nm, asg_tp, asgs_cons, asgs_nil, wipe_nil, wipe_cons, items_tup, items_lst, items_kls, held_tup, held_lst, held_kls, still_nil, truth_bl, truth_tup, truth_lst, truth_kls, truth_int, truth_non, gAdd_int, gSub_int, gLt_int, gLe_int, gGt_int, gGe_int, gAdd_tup, gAdd_lst, gIsN_non, gNotN_non, bLen_tup, bLen_lst, bLen_kls, bTuple_lst, bTuple_tup, litems_lst, sat_ok, List.map_cons, List.map_nil, List.cons_append, List.nil_append, List.length_cons, List.length_nil, List.replicate, List.getElem?_cons_zero, List.getElem?_cons_succ, List.set_cons_zero, List.set_cons_succ, List.isEmpty_cons, List.isEmpty_nil, Nat.reduceSub, Nat.reduceAdd, Nat.zero_add, line0, line1, line2, line3, line4, line5, line6, line7, line8, true_and, and_true, if_true, if_false, Bool.false_eq_true, Bool.not_true, Bool.not_false, reduceCtorEq, eRow]; rfl, ?_⟩
    simp only [sSeq_sat, sExpr_sat, sSet_sat, sIf_sat, sRet_sat, sNil_sat, sAsg_sat, sPar_sat, sPar3_sat, sSub_sat, sTry_sat, sRaise_sat, sBreak_sat, sCont_sat, sFld_sat, tryH_nil, tryH_cons, eML_sat, eMD_sat, eVar_sat, eC_sat, eB_sat, eBin_sat, eUn_sat, eCall_sat, eTup_sat, eLst_sat, eLstM_sat, eDNew_sat, eIf_sat, eAnd_sat, eOr_sat, eNot_sat, eT_sat, eSl_sat, oNone_sat, oSome_sat, eFld_sat, eMake_sat, eMeth_sat, eRgL1_sat, eRgL2_sat, eChain_sat, aCons_sat, aNil_sat, tTru_sat, tNot_sat, tAnd_sat, tOr_sat, tYes_sat, tCmp_sat, tVal_sat, iSeq_sat, iRng1_sat, iRng2_sat, iZip_sat, iEnum_sat, iStr_sat, asg_nm, asg_tp, asgs_cons, asgs_nil, wipe_nil, wipe_cons, items_tup, items_lst, items_kls, held_tup, held_lst, held_kls, still_nil, truth_bl, truth_tup, truth_lst, truth_kls, truth_int, truth_non, gAdd_int, gSub_int, gLt_int, gLe_int, gGt_int, gGe_int, gAdd_tup, gAdd_lst, gIsN_non, gNotN_non, bLen_tup, bLen_lst, bLen_kls, bTuple_lst, bTuple_tup, litems_lst, sat_ok, List.map_cons, List.map_nil, List.cons_append, List.nil_append, List.length_cons, List.length_nil, List.replicate, List.getElem?_cons_zero, List.getElem?_cons_succ, List.set_cons_zero, List.set_cons_succ, List.isEmpty_cons, List.isEmpty_nil, Nat.reduceSub, Nat.reduceAdd, Nat.zero_add, line0, line1, line2, line3, line4, line5, line6, line7, line8, true_and, and_true, if_true, if_false, Bool.false_eq_true, Bool.not_true, Bool.not_false, reduceCtorEq]
    unfold c_law_2
    refine comp_of_map ts eTie (fun t => eTie (t.1, false)) ?_ (by show _ ≤ 16777216; omega) ?_ ?_
    · (simp only [sSeq_sat, sExpr_sat, sSet_sat, sIf_sat, sRet_sat, sNil_sat, sAsg_sat, sPar_sat, sPar3_sat, sSub_sat, sTry_sat, sRaise_sat, sBreak_sat, sCont_sat, sFld_sat, tryH_nil, tryH_cons, eML_sat, eMD_sat, eVar_sat, eC_sat, eB_sat, eBin_sat, eUn_sat, eCall_sat, eTup_sat, eLst_sat, eLstM_sat, eDNew_sat, eIf_sat, eAnd_sat, eOr_sat, eNot_sat, eT_sat, eSl_sat, oNone_sat, oSome_sat, eFld_sat, eMake_sat, eMeth_sat, eRgL1_sat, eRgL2_sat, eChain_sat, aCons_sat, aNil_sat, tTru_sat, tNot_sat, tAnd_sat, tOr_sat, tYes_sat, tCmp_sat, tVal_sat, iSeq_sat, iRng1_sat, iRng2_sat, iZip_sat, iEnum_sat, iStr_sat, asg_nm, asg_tp, asgs_cons, asgs_nil, wipe_nil, wipe_cons, items_tup, items_lst, items_kls, held_tup, held_lst, held_kls, still_nil, truth_bl, truth_tup, truth_lst, truth_kls, truth_int, truth_non, gAdd_int, gSub_int, gLt_int, gLe_int, gGt_int, gGe_int, gAdd_tup, gAdd_lst, gIsN_non, gNotN_non, bLen_tup, bLen_lst, bLen_kls, bTuple_lst, bTuple_tup, litems_lst, sat_ok, List.map_cons, List.map_nil, List.cons_append, List.nil_append, List.length_cons, List.length_nil, List.replicate, List.getElem?_cons_zero, List.getElem?_cons_succ, List.set_cons_zero, List.set_cons_succ, List.isEmpty_cons, List.isEmpty_nil, Nat.reduceSub, Nat.reduceAdd, Nat.zero_add, line0, line1, line2, line3, line4, line5, line6, line7, line8, true_and, and_true, if_true, if_false, Bool.false_eq_true, Bool.not_true, Bool.not_false, reduceCtorEq, eTies] <;> first | exact Ext.refl | exact ⟨rfl, Ext.refl⟩ | exact ⟨trivial, Ext.refl⟩ | exact ⟨rfl, rfl⟩ | exact ⟨trivial, trivial⟩)
    · rintro ⟨o, b⟩ _ S2 h2
      refine ⟨_, by simp only [sSeq_sat, sExpr_sat, sSet_sat, sIf_sat, sRet_sat, sNil_sat, sAsg_sat, sPar_sat, sPar3_sat, sSub_sat, sTry_sat, sRaise_sat, sBreak_sat, sCont_sat, sFld_sat, tryH_nil, tryH_cons, eML_sat, eMD_sat, eVar_sat, eC_sat, eB_sat, eBin_sat, eUn_sat, eCall_sat, eTup_sat, eLst_sat, eLstM_sat, eDNew_sat, eIf_sat, eAnd_sat, eOr_sat, eNot_sat, eT_sat, eSl_sat, oNone_sat, oSome_sat, eFld_sat, eMake_sat, eMeth_sat, eRgL1_sat, eRgL2_sat, eChain_sat, aCons_sat, aNil_sat, tTru_sat, tNot_sat, tAnd_sat, tOr_sat, tYes_sat, tCmp_sat, tVal_sat, iSeq_sat, iRng1_sat, iRng2_sat, iZip_sat, iEnum_sat, iStr_sat, asg_nm, asg_tp, asgs_cons, asgs_nil, wipe_nil, wipe_cons, items_tup, items_lst, items_kls, held_tup, held_lst, held_kls, still_nil, truth_bl, truth_tup, truth_lst, truth_kls, truth_int, truth_non, gAdd_int, gSub_int, gLt_int, gLe_int, gGt_int, gGe_int, gAdd_tup, gAdd_lst, gIsN_non, gNotN_non, bLen_tup, bLen_lst, bLen_kls, bTuple_lst, bTuple_tup, litems_lst, sat_ok, List.map_cons, List.map_nil, List.cons_append, List.nil_append, List.length_cons, List.length_nil, List.replicate, List.getElem?_cons_zero, List.getElem?_cons_succ, List.set_cons_zero, List.set_cons_succ, List.isEmpty_cons, List.isEmpty_nil, Nat.reduceSub, Nat.reduceAdd, Nat.zero_add, line0, line1, line2, line3, line4, line5, line6, line7, line8, true_and, and_true, if_true, if_false, Bool.false_eq_true, Bool.not_true, Bool.not_false, reduceCtorEq, eTie]; rfl, ?_⟩
      simp only [sSeq_sat, sExpr_sat, sSet_sat, sIf_sat, sRet_sat, sNil_sat, sAsg_sat, sPar_sat, sPar3_sat, sSub_sat, sTry_sat, sRaise_sat, sBreak_sat, sCont_sat, sFld_sat, tryH_nil, tryH_cons, eML_sat, eMD_sat, eVar_sat, eC_sat, eB_sat, eBin_sat, eUn_sat, eCall_sat, eTup_sat, eLst_sat, eLstM_sat, eDNew_sat, eIf_sat, eAnd_sat, eOr_sat, eNot_sat, eT_sat, eSl_sat, oNone_sat, oSome_sat, eFld_sat, eMake_sat, eMeth_sat, eRgL1_sat, eRgL2_sat, eChain_sat, aCons_sat, aNil_sat, tTru_sat, tNot_sat, tAnd_sat, tOr_sat, tYes_sat, tCmp_sat, tVal_sat, iSeq_sat, iRng1_sat, iRng2_sat, iZip_sat, iEnum_sat, iStr_sat, asg_nm, asg_tp, asgs_cons, asgs_nil, wipe_nil, wipe_cons, items_tup, items_lst, items_kls, held_tup, held_lst, held_kls, still_nil, truth_bl, truth_tup, truth_lst, truth_kls, truth_int, truth_non, gAdd_int, gSub_int, gLt_int, gLe_int, gGt_int, gGe_int, gAdd_tup, gAdd_lst, gIsN_non, gNotN_non, bLen_tup, bLen_lst, bLen_kls, bTuple_lst, bTuple_tup, litems_lst, sat_ok, List.map_cons, List.map_nil, List.cons_append, List.nil_append, List.length_cons, List.length_nil, List.replicate, List.getElem?_cons_zero, List.getElem?_cons_succ, List.set_cons_zero, List.set_cons_succ, List.isEmpty_cons, List.isEmpty_nil, Nat.reduceSub, Nat.reduceAdd, Nat.zero_add, line0, line1, line2, line3, line4, line5, line6, line7, line8, true_and, and_true, if_true, if_false, Bool.false_eq_true, Bool.not_true, Bool.not_false, reduceCtorEq]
      exact ⟨h2, rfl⟩
    · intro S2 h2
      rw [bTuple_lst]
      refine ⟨h1.trans h2, ?_⟩
      unfold freeT
      simp [eRow, eTies, eTie]
theorem told_none {keys : List Int} {x0 x1 x2 x3 x4 x5 x6 x7 x8 x9 x10 x11 x12 x13 x15 x16 x17 : Option D} (hl : keys.length < 64) (q : ∀ S', Ext S S' → QD (.lst ((keys.map fun _ => false).map .bl)) S') : (c_law_4 [x0, x1, x2, x3, x4, x5, x6, x7, x8, x9, x10, x11, x12, x13, some (.tup ((keys.map fun n => ((n, []) : Int × List Int)).map eOut)), x15, x16, x17] S).sat QD E := by
  unfold c_law_4
  refine comp_of_map (keys.map fun n => ((n, []) : Int × List Int)) eOut (fun _ => .bl false) ?_ (by rw [List.length_map]; show _ ≤ 16777216; omega) ?_ ?_
  · (simp only [sSeq_sat, sExpr_sat, sSet_sat, sIf_sat, sRet_sat, sNil_sat, sAsg_sat, sPar_sat, sPar3_sat, sSub_sat, sTry_sat, sRaise_sat, sBreak_sat, sCont_sat, sFld_sat, tryH_nil, tryH_cons, eML_sat, eMD_sat, eVar_sat, eC_sat, eB_sat, eBin_sat, eUn_sat, eCall_sat, eTup_sat, eLst_sat, eLstM_sat, eDNew_sat, eIf_sat, eAnd_sat, eOr_sat, eNot_sat, eT_sat, eSl_sat, oNone_sat, oSome_sat, eFld_sat, eMake_sat, eMeth_sat, eRgL1_sat, eRgL2_sat, eChain_sat, aCons_sat, aNil_sat, tTru_sat, tNot_sat, tAnd_sat, tOr_sat, tYes_sat, tCmp_sat, tVal_sat, iSeq_sat, iRng1_sat, iRng2_sat, iZip_sat, iEnum_sat, iStr_sat, asg_nm, asg_tp, asgs_cons, asgs_nil, wipe_nil, wipe_cons, items_tup, items_lst, items_kls, held_tup, held_lst, held_kls, still_nil, truth_bl, truth_tup, truth_lst, truth_kls, truth_int, truth_non, gAdd_int, gSub_int, gLt_int, gLe_int, gGt_int, gGe_int, gAdd_tup, gAdd_lst, gIsN_non, gNotN_non, bLen_tup, bLen_lst, bLen_kls, bTuple_lst, bTuple_tup, litems_lst, sat_ok, List.map_cons, List.map_nil, List.cons_append, List.nil_append, List.length_cons, List.length_nil, List.replicate, List.getElem?_cons_zero, List.getElem?_cons_succ, List.set_cons_zero, List.set_cons_succ, List.isEmpty_cons, List.isEmpty_nil, Nat.reduceSub, Nat.reduceAdd, Nat.zero_add, line0, line1, line2, line3, line4, line5, line6, line7, line8, true_and, and_true, if_true, if_false, Bool.false_eq_true, Bool.not_true, Bool.not_false, reduceCtorEq] <;> first | exact Ext.refl | exact ⟨rfl, Ext.refl⟩ | exact ⟨trivial, Ext.refl⟩ | exact ⟨rfl, rfl⟩ | exact ⟨trivial, trivial⟩)
  · rintro ⟨n, l⟩ hm S1 h1
    obtain ⟨_, _, e⟩ := List.mem_map.mp hm
    have e : l = [] := (Prod.mk.inj e).2.symm
    subst e
    refine ⟨_, by simp only [sSeq_sat, sExpr_sat, sSet_sat, sIf_sat, sRet_sat, sNil_sat, sAsg_sat, sPar_sat, sPar3_sat, sSub_sat, sTry_sat, sRaise_sat, sBreak_sat, sCont_sat, sFld_sat, tryH_nil, tryH_cons, eML_sat, eMD_sat, eVar_sat, eC_sat, eB_sat, eBin_sat, eUn_sat, eCall_sat, eTup_sat, eLst_sat, eLstM_sat, eDNew_sat, eIf_sat, eAnd_sat, eOr_sat, eNot_sat, eT_sat, eSl_sat, oNone_sat, oSome_sat, eFld_sat, eMake_sat, eMeth_sat, eRgL1_sat, eRgL2_sat, eChain_sat, aCons_sat, aNil_sat, tTru_sat, tNot_sat, tAnd_sat, tOr_sat, tYes_sat, tCmp_sat, tVal_sat, iSeq_sat, iRng1_sat, iRng2_sat, iZip_sat, iEnum_sat, iStr_sat, asg_nm, asg_tp, asgs_cons, asgs_nil, wipe_nil, wipe_cons, items_tup, items_lst, items_kls, held_tup, held_lst, held_kls, still_nil, truth_bl, truth_tup, truth_lst, truth_kls, truth_int, truth_non, gAdd_int, gSub_int, gLt_int, gLe_int, gGt_int, gGe_int, gAdd_tup, gAdd_lst, gIsN_non, gNotN_non, bLen_tup, bLen_lst, bLen_kls, bTuple_lst, bTuple_tup, litems_lst, sat_ok, List.map_cons, List.map_nil, List.cons_append, List.nil_append, List.length_cons, List.length_nil, List.replicate, List.getElem?_cons_zero, List.getElem?_cons_succ, List.set_cons_zero, List.set_cons_succ, List.isEmpty_cons, List.isEmpty_nil, Nat.reduceSub, Nat.reduceAdd, Nat.zero_add, line0, line1, line2, line3, line4, line5, line6, line7, line8, true_and, and_true, if_true, if_false, Bool.false_eq_true, Bool.not_true, Bool.not_false, reduceCtorEq, eOut]; rfl, ?_⟩
    simp only [sSeq_sat, sExpr_sat, sSet_sat, sIf_sat, sRet_sat, sNil_sat, sAsg_sat, sPar_sat, sPar3_sat, sSub_sat, sTry_sat, sRaise_sat, sBreak_sat, sCont_sat, sFld_sat, tryH_nil, tryH_cons, eML_sat, eMD_sat, eVar_sat, eC_sat, eB_sat, eBin_sat, eUn_sat, eCall_sat, eTup_sat, eLst_sat, eLstM_sat, eDNew_sat, eIf_sat, eAnd_sat, eOr_sat, eNot_sat, eT_sat, eSl_sat, oNone_sat, oSome_sat, eFld_sat, eMake_sat, eMeth_sat, eRgL1_sat, eRgL2_sat, eChain_sat, aCons_sat, aNil_sat, tTru_sat, tNot_sat, tAnd_sat, tOr_sat, tYes_sat, tCmp_sat, tVal_sat, iSeq_sat, iRng1_sat, iRng2_sat, iZip_sat, iEnum_sat, iStr_sat, asg_nm, asg_tp, asgs_cons, asgs_nil, wipe_nil, wipe_cons, items_tup, items_lst, items_kls, held_tup, held_lst, held_kls, still_nil, truth_bl, truth_tup, truth_lst, truth_kls, truth_int, truth_non, gAdd_int, gSub_int, gLt_int, gLe_int, gGt_int, gGe_int, gAdd_tup, gAdd_lst, gIsN_non, gNotN_non, bLen_tup, bLen_lst, bLen_kls, bTuple_lst, bTuple_tup, litems_lst, sat_ok, List.map_cons, List.map_nil, List.cons_append, List.nil_append, List.length_cons, List.length_nil, List.replicate, List.getElem?_cons_zero, List.getElem?_cons_succ, List.set_cons_zero, List.set_cons_succ, List.isEmpty_cons, List.isEmpty_nil, Nat.reduceSub, Nat.reduceAdd, Nat.zero_add, line0, line1, line2, line3, line4, line5, line6, line7, line8, true_and, and_true, if_true, if_false, Bool.false_eq_true, Bool.not_true, Bool.not_false, reduceCtorEq]
    rw [ne_self rfl (by simp [D.dep, D.deps])]
    exact ⟨h1, rfl⟩
  · intro S1 h1
    have e : (keys.map fun n => ((n, []) : Int × List Int)).map (fun _ => D.bl false) = (keys.map fun _ => false).map .bl := by rw [List.map_map, List.map_map]; rfl
    rw [e]
    exact q S1 h1
theorem any_none {α : Type} (l : List α) : (l.map fun _ => false).any id = false := by
  rw [List.any_eq_false]
  intro b hb
  obtain ⟨_, _, rfl⟩ := List.mem_map.mp hb
  decide
theorem firsts_sat {out : List (Int × List Int)} {c f : Ev} {ρ : Env} (hc : c = eComp (iSeq f) (.tp [.nm 7, .nm 17]) (tYes) (eVar 7) [7, 17]) (hx : ρ.length = 18) (hl : out.length < 64) (hf : ∀ (Q : D → Sto → Prop) (E : Nat → Sto → Prop), (∀ S', Ext S S' → Q (.tup (out.map eOut)) S') → (f ρ S).sat Q E)
    (q : ∀ S', Ext S S' → QD (.lst ((out.map (·.1)).map .int)) S') : (c ρ S).sat QD E := by
  subst hc
  refine comp_of_map out eOut (fun p => .int p.1) ?_ (by show _ ≤ 16777216; omega) ?_ (by rw [List.map_map] at q; exact q)
  · simp only [iSeq_sat]
    refine hf _ _ fun S1 h1 => ?_
    exact ⟨rfl, h1⟩
  · rintro ⟨n, l⟩ _ S1 h1
    refine ⟨((((ρ.set 7 none).set 17 none).set 7 (some (.int n))).set 17 (some (.tup (l.map .int)))), by simp [eOut], ?_⟩
    simp only [eVar_sat]
    rw [List.getElem?_set_ne (by decide), List.getElem?_set_self (by simp [hx])]
    exact ⟨h1, rfl⟩
end
end Mp

namespace Mp
open PySem
section
variable {QD : D → Sto → Prop} {E : Nat → Sto → Prop} {S : Sto} {ns : List Int} {B : Nat}
theorem strike_lens : ∀ (k : Nat) {left : Rows} {out : List (Int × List Int)}, strikeP k left = some out → out.length ≤ k ∧ ∀ p ∈ out, p.2.length ≤ left.length
  | k, left, out, h => by
    cases hle : left.isEmpty with
    | true =>
      have e : left = [] := List.isEmpty_iff.mp hle
      subst e
      have : out = [] := by cases k <;> simp [strikeP] at h <;> exact h
      subst this
      exact ⟨Nat.zero_le _, fun p hp => by cases hp⟩
    | false =>
    cases k with
    | zero => simp [strikeP, hle] at h
    | succ k =>
      cases hall : freeS left false ++ freeS left true with
      | nil => simp [strikeP, hle, hall] at h
      | cons n l =>
        rw [strikeP_go hle hall] at h
        cases hr : strikeP k (without left n) with
        | none => rw [hr] at h; cases h
        | some out' =>
          rw [hr] at h
          have h := Option.some.inj h
          subst h
          obtain ⟨h1, h2⟩ := strike_lens k hr
          refine ⟨by rw [List.length_cons]; omega, fun p hp => ?_⟩
          rcases List.mem_cons.mp hp with e | e
          · rw [e]
            refine Nat.le_trans (List.length_filter_le ..) ?_
            rw [sortI_length, keysOf, List.length_map]
            exact Nat.le_refl _
          · exact Nat.le_trans (h2 p e) (List.Sublist.length_le (without_sub left n))
theorem tail_cut {d : D} {ds : List D} : cut (d :: ds) (some 1) none = ds := by
  unfold cut cutI
  dsimp only
  rw [if_neg (by decide)]
  have : min (1 : Int).toNat (d :: ds).length = 1 := by simp only [List.length_cons]; show min 1 _ = 1; omega
  rw [this]
  simp only [List.drop_succ_cons, List.drop_zero, List.length_cons, Nat.add_sub_cancel]
  exact List.take_of_length_le (Nat.le_refl _)
theorem puts_loop {rows : Rows} {m : Nat} {many : Int} {out : List (Int × List Int)} {P : Po} {x0 x1 x2 x4 x5 x6 x7 x8 x9 x10 x11 x12 x14 x15 x17 : Option D} (k : Rw rows m false) (hm : many = (m : Nat)) (hp : (out.map (·.1)).Perm (keysOf rows))
    (hu : ∀ (i : Nat) (n : Int) (l : List Int), out[i]? = some (n, l) → ∀ o b, (o, b) ∈ tiesAt rows n → o ∈ keysOf rows → o ∈ (out.take i).map (·.1))
    (q : ∀ x7 x8 x10 x11, P.nx [x0, x1, x2, some (.int many), x4, x5, x6, x7, x8, x9, x10, x11, x12, some (.tup (rows.map eRow)), x14, x15, some (.lst ((out.map (·.1)).map .int)), x17] S) :
    (sFor (iSeq (eVar 13)) (.tp [.nm 7, .nm 8]) f_law_2 [x0, x1, x2, some (.int many), x4, x5, x6, x7, x8, x9, x10, x11, x12, some (.tup (rows.map eRow)), x14, x15, some (.lst ((out.map (·.1)).map .int)), x17] S).sat P := by
  refine for_of_list rows eRow (S0 := S) ?_ (fun i ρ S' => S' = S ∧ ∃ x7 x8 x10 x11, ρ = [x0, x1, x2, some (.int many), x4, x5, x6, x7, x8, x9, x10, x11, x12, some (.tup (rows.map eRow)), x14, x15, some (.lst ((out.map (·.1)).map .int)), x17]) ⟨rfl, _, _, _, _, rfl⟩ ?_ ?_
  · (simp only [sSeq_sat, sExpr_sat, sSet_sat, sIf_sat, sRet_sat, sNil_sat, sAsg_sat, sPar_sat, sPar3_sat, sSub_sat, sTry_sat, sRaise_sat, sBreak_sat, sCont_sat, sFld_sat, tryH_nil, tryH_cons, eML_sat, eMD_sat, eVar_sat, eC_sat, eB_sat, eBin_sat, eUn_sat, eCall_sat, eTup_sat, eLst_sat, eLstM_sat, eDNew_sat, eIf_sat, eAnd_sat, eOr_sat, eNot_sat, eT_sat, eSl_sat, oNone_sat, oSome_sat, eFld_sat, eMake_sat, eMeth_sat, eRgL1_sat, eRgL2_sat, eChain_sat, aCons_sat, aNil_sat, tTru_sat, tNot_sat, tAnd_sat, tOr_sat, tYes_sat, tCmp_sat, tVal_sat, iSeq_sat, iRng1_sat, iRng2_sat, iZip_sat, iEnum_sat, iStr_sat, asg_nm, asg_tp, asgs_cons, asgs_nil, wipe_nil, wipe_cons, items_tup, items_lst, items_kls, held_tup, held_lst, held_kls, still_nil, truth_bl, truth_tup, truth_lst, truth_kls, truth_int, truth_non, gAdd_int, gSub_int, gLt_int, gLe_int, gGt_int, gGe_int, gAdd_tup, gAdd_lst, gIsN_non, gNotN_non, bLen_tup, bLen_lst, bLen_kls, bTuple_lst, bTuple_tup, litems_lst, sat_ok, List.map_cons, List.map_nil, List.cons_append, List.nil_append, List.length_cons, List.length_nil, List.replicate, List.getElem?_cons_zero, List.getElem?_cons_succ, List.set_cons_zero, List.set_cons_succ, List.isEmpty_cons, List.isEmpty_nil, Nat.reduceSub, Nat.reduceAdd, Nat.zero_add, line0, line1, line2, line3, line4, line5, line6, line7, line8, true_and, and_true, if_true, if_false, Bool.false_eq_true, Bool.not_true, Bool.not_false, reduceCtorEq] <;> first | exact Ext.refl | exact ⟨rfl, Ext.refl⟩ | exact ⟨trivial, Ext.refl⟩ | exact ⟨rfl, rfl⟩ | exact ⟨trivial, trivial⟩)
  · rintro i ⟨n, ts⟩ ρ S' hi hil ⟨rfl, x7, x8, x10, x11, rfl⟩
    refine ⟨_, by simp only [sSeq_sat, sExpr_sat, sSet_sat, sIf_sat, sRet_sat, sNil_sat, sAsg_sat, sPar_sat, sPar3_sat, sSub_sat, sTry_sat, sRaise_sat, sBreak_sat, sCont_sat, sFld_sat, tryH_nil, tryH_cons, eML_sat, eMD_sat, eVar_sat, eC_sat, eB_sat, eBin_sat, eUn_sat, eCall_sat, eTup_sat, eLst_sat, eLstM_sat, eDNew_sat, eIf_sat, eAnd_sat, eOr_sat, eNot_sat, eT_sat, eSl_sat, oNone_sat, oSome_sat, eFld_sat, eMake_sat, eMeth_sat, eRgL1_sat, eRgL2_sat, eChain_sat, aCons_sat, aNil_sat, tTru_sat, tNot_sat, tAnd_sat, tOr_sat, tYes_sat, tCmp_sat, tVal_sat, iSeq_sat, iRng1_sat, iRng2_sat, iZip_sat, iEnum_sat, iStr_sat, asg_nm, asg_tp, asgs_cons, asgs_nil, wipe_nil, wipe_cons, items_tup, items_lst, items_kls, held_tup, held_lst, held_kls, still_nil, truth_bl, truth_tup, truth_lst, truth_kls, truth_int, truth_non, gAdd_int, gSub_int, gLt_int, gLe_int, gGt_int, gGe_int, gAdd_tup, gAdd_lst, gIsN_non, gNotN_non, bLen_tup, bLen_lst, bLen_kls, bTuple_lst, bTuple_tup, litems_lst, sat_ok, List.map_cons, List.map_nil, List.cons_append, List.nil_append, List.length_cons, List.length_nil, List.replicate, List.getElem?_cons_zero, List.getElem?_cons_succ, List.set_cons_zero, List.set_cons_succ, List.isEmpty_cons, List.isEmpty_nil, Nat.reduceSub, Nat.reduceAdd, Nat.zero_add, line0, line1, line2, line3, line4, line5, line6, line7, line8, true_and, and_true, if_true, if_false, Bool.false_eq_true, Bool.not_true, Bool.not_false, reduceCtorEq, eRow]; rfl, ?_⟩
    unfold f_law_2
    have hr : (n, ts) ∈ rows := List.mem_of_getElem? hi
    have hnk : n ∈ keysOf rows := List.mem_map.mpr ⟨_, hr, rfl⟩
    have het : tiesAt rows n = ts := by unfold tiesAt; rw [tiesOf_of k.nodup hr]; rfl
    refine for_of_list ts eTie (S0 := S') ?_ (fun j ρ S2 => S2 = S' ∧ ∃ x10 x11, ρ = [x0, x1, x2, some (.int many), x4, x5, x6, some (.int n), some (eTies ts), x9, x10, x11, x12, some (.tup (rows.map eRow)), x14, x15, some (.lst ((out.map (·.1)).map .int)), x17]) ⟨rfl, _, _, rfl⟩ ?_ ?_
    · (simp only [sSeq_sat, sExpr_sat, sSet_sat, sIf_sat, sRet_sat, sNil_sat, sAsg_sat, sPar_sat, sPar3_sat, sSub_sat, sTry_sat, sRaise_sat, sBreak_sat, sCont_sat, sFld_sat, tryH_nil, tryH_cons, eML_sat, eMD_sat, eVar_sat, eC_sat, eB_sat, eBin_sat, eUn_sat, eCall_sat, eTup_sat, eLst_sat, eLstM_sat, eDNew_sat, eIf_sat, eAnd_sat, eOr_sat, eNot_sat, eT_sat, eSl_sat, oNone_sat, oSome_sat, eFld_sat, eMake_sat, eMeth_sat, eRgL1_sat, eRgL2_sat, eChain_sat, aCons_sat, aNil_sat, tTru_sat, tNot_sat, tAnd_sat, tOr_sat, tYes_sat, tCmp_sat, tVal_sat, iSeq_sat, iRng1_sat, iRng2_sat, iZip_sat, iEnum_sat, iStr_sat, asg_nm, asg_tp, asgs_cons, asgs_nil, wipe_nil, wipe_cons, items_tup, items_lst, items_kls, held_tup, held_lst, held_kls, still_nil, truth_bl, truth_tup, truth_lst, truth_kls, truth_int, truth_non, gAdd_int, gSub_int, gLt_int, gLe_int, gGt_int, gGe_int, gAdd_tup, gAdd_lst, gIsN_non, gNotN_non, bLen_tup, bLen_lst, bLen_kls, bTuple_lst, bTuple_tup, litems_lst, sat_ok, List.map_cons, List.map_nil, List.cons_append, List.nil_append, List.length_cons, List.length_nil, List.replicate, List.getElem?_cons_zero, List.getElem?_cons_succ, List.set_cons_zero, List.set_cons_succ, List.isEmpty_cons, List.isEmpty_nil, Nat.reduceSub, Nat.reduceAdd, Nat.zero_add, line0, line1, line2, line3, line4, line5, line6, line7, line8, true_and, and_true, if_true, if_false, Bool.false_eq_true, Bool.not_true, Bool.not_false, reduceCtorEq, eTies] <;> first | exact Ext.refl | exact ⟨rfl, Ext.refl⟩ | exact ⟨trivial, Ext.refl⟩ | exact ⟨rfl, rfl⟩ | exact ⟨trivial, trivial⟩)
    · rintro j ⟨o, b⟩ ρ S2 hj hjl ⟨rfl, x10, x11, rfl⟩
      refine ⟨_, by simp only [sSeq_sat, sExpr_sat, sSet_sat, sIf_sat, sRet_sat, sNil_sat, sAsg_sat, sPar_sat, sPar3_sat, sSub_sat, sTry_sat, sRaise_sat, sBreak_sat, sCont_sat, sFld_sat, tryH_nil, tryH_cons, eML_sat, eMD_sat, eVar_sat, eC_sat, eB_sat, eBin_sat, eUn_sat, eCall_sat, eTup_sat, eLst_sat, eLstM_sat, eDNew_sat, eIf_sat, eAnd_sat, eOr_sat, eNot_sat, eT_sat, eSl_sat, oNone_sat, oSome_sat, eFld_sat, eMake_sat, eMeth_sat, eRgL1_sat, eRgL2_sat, eChain_sat, aCons_sat, aNil_sat, tTru_sat, tNot_sat, tAnd_sat, tOr_sat, tYes_sat, tCmp_sat, tVal_sat, iSeq_sat, iRng1_sat, iRng2_sat, iZip_sat, iEnum_sat, iStr_sat, asg_nm, asg_tp, asgs_cons, asgs_nil, wipe_nil, wipe_cons, items_tup, items_lst, items_kls, held_tup, held_lst, held_kls, still_nil, truth_bl, truth_tup, truth_lst, truth_kls, truth_int, truth_non, gAdd_int, gSub_int, gLt_int, gLe_int, gGt_int, gGe_int, gAdd_tup, gAdd_lst, gIsN_non, gNotN_non, bLen_tup, bLen_lst, bLen_kls, bTuple_lst, bTuple_tup, litems_lst, sat_ok, List.map_cons, List.map_nil, List.cons_append, List.nil_append, List.length_cons, List.length_nil, List.replicate, List.getElem?_cons_zero, List.getElem?_cons_succ, List.set_cons_zero, List.set_cons_succ, List.isEmpty_cons, List.isEmpty_nil, Nat.reduceSub, Nat.reduceAdd, Nat.zero_add, line0, line1, line2, line3, line4, line5, line6, line7, line8, true_and, and_true, if_true, if_false, Bool.false_eq_true, Bool.not_true, Bool.not_false, reduceCtorEq, eTie]; rfl, ?_⟩
      unfold f_law_1
      have ht : (o, b) ∈ tiesAt rows n := by rw [het]; exact List.mem_of_getElem? hj
      have hno : n < o := up_of k n o b ht
      simp only [sSeq_sat, sExpr_sat, sSet_sat, sIf_sat, sRet_sat, sNil_sat, sAsg_sat, sPar_sat, sPar3_sat, sSub_sat, sTry_sat, sRaise_sat, sBreak_sat, sCont_sat, sFld_sat, tryH_nil, tryH_cons, eML_sat, eMD_sat, eVar_sat, eC_sat, eB_sat, eBin_sat, eUn_sat, eCall_sat, eTup_sat, eLst_sat, eLstM_sat, eDNew_sat, eIf_sat, eAnd_sat, eOr_sat, eNot_sat, eT_sat, eSl_sat, oNone_sat, oSome_sat, eFld_sat, eMake_sat, eMeth_sat, eRgL1_sat, eRgL2_sat, eChain_sat, aCons_sat, aNil_sat, tTru_sat, tNot_sat, tAnd_sat, tOr_sat, tYes_sat, tCmp_sat, tVal_sat, iSeq_sat, iRng1_sat, iRng2_sat, iZip_sat, iEnum_sat, iStr_sat, asg_nm, asg_tp, asgs_cons, asgs_nil, wipe_nil, wipe_cons, items_tup, items_lst, items_kls, held_tup, held_lst, held_kls, still_nil, truth_bl, truth_tup, truth_lst, truth_kls, truth_int, truth_non, gAdd_int, gSub_int, gLt_int, gLe_int, gGt_int, gGe_int, gAdd_tup, gAdd_lst, gIsN_non, gNotN_non, bLen_tup, bLen_lst, bLen_kls, bTuple_lst, bTuple_tup, litems_lst, sat_ok, List.map_cons, List.map_nil, List.cons_append, List.nil_append, List.length_cons, List.length_nil, List.replicate, List.getElem?_cons_zero, List.getElem?_cons_succ, List.set_cons_zero, List.set_cons_succ, List.isEmpty_cons, List.isEmpty_nil, Nat.reduceSub, Nat.reduceAdd, Nat.zero_add, line0, line1, line2, line3, line4, line5, line6, line7, line8, true_and, and_true, if_true, if_false, Bool.false_eq_true, Bool.not_true, Bool.not_false, reduceCtorEq]
      by_cases hom : o < many
      · rw [decide_eq_true hom]
        try simp only [sSeq_sat, sExpr_sat, sSet_sat, sIf_sat, sRet_sat, sNil_sat, sAsg_sat, sPar_sat, sPar3_sat, sSub_sat, sTry_sat, sRaise_sat, sBreak_sat, sCont_sat, sFld_sat, tryH_nil, tryH_cons, eML_sat, eMD_sat, eVar_sat, eC_sat, eB_sat, eBin_sat, eUn_sat, eCall_sat, eTup_sat, eLst_sat, eLstM_sat, eDNew_sat, eIf_sat, eAnd_sat, eOr_sat, eNot_sat, eT_sat, eSl_sat, oNone_sat, oSome_sat, eFld_sat, eMake_sat, eMeth_sat, eRgL1_sat, eRgL2_sat, eChain_sat, aCons_sat, aNil_sat, tTru_sat, tNot_sat, tAnd_sat, tOr_sat, tYes_sat, tCmp_sat, tVal_sat, iSeq_sat, iRng1_sat, iRng2_sat, iZip_sat, iEnum_sat, iStr_sat, asg_nm, asg_tp, asgs_cons, asgs_nil, wipe_nil, wipe_cons, items_tup, items_lst, items_kls, held_tup, held_lst, held_kls, still_nil, truth_bl, truth_tup, truth_lst, truth_kls, truth_int, truth_non, gAdd_int, gSub_int, gLt_int, gLe_int, gGt_int, gGe_int, gAdd_tup, gAdd_lst, gIsN_non, gNotN_non, bLen_tup, bLen_lst, bLen_kls, bTuple_lst, bTuple_tup, litems_lst, sat_ok, List.map_cons, List.map_nil, List.cons_append, List.nil_append, List.length_cons, List.length_nil, List.replicate, List.getElem?_cons_zero, List.getElem?_cons_succ, List.set_cons_zero, List.set_cons_succ, List.isEmpty_cons, List.isEmpty_nil, Nat.reduceSub, Nat.reduceAdd, Nat.zero_add, line0, line1, line2, line3, line4, line5, line6, line7, line8, true_and, and_true, if_true, if_false, Bool.false_eq_true, Bool.not_true, Bool.not_false, reduceCtorEq]
        have hn0 : 0 ≤ n := by rw [k.keys] at hnk; exact (upI_mem hnk).1
        have hok : o ∈ keysOf rows := by
          rw [k.keys]
          unfold upI
          exact List.mem_map.mpr ⟨o.toNat, List.mem_range.mpr (by omega), by omega⟩
        refine index_sat (hp.mem_iff.mpr hok) fun jo h1 h2 => ?_
        try simp only [sSeq_sat, sExpr_sat, sSet_sat, sIf_sat, sRet_sat, sNil_sat, sAsg_sat, sPar_sat, sPar3_sat, sSub_sat, sTry_sat, sRaise_sat, sBreak_sat, sCont_sat, sFld_sat, tryH_nil, tryH_cons, eML_sat, eMD_sat, eVar_sat, eC_sat, eB_sat, eBin_sat, eUn_sat, eCall_sat, eTup_sat, eLst_sat, eLstM_sat, eDNew_sat, eIf_sat, eAnd_sat, eOr_sat, eNot_sat, eT_sat, eSl_sat, oNone_sat, oSome_sat, eFld_sat, eMake_sat, eMeth_sat, eRgL1_sat, eRgL2_sat, eChain_sat, aCons_sat, aNil_sat, tTru_sat, tNot_sat, tAnd_sat, tOr_sat, tYes_sat, tCmp_sat, tVal_sat, iSeq_sat, iRng1_sat, iRng2_sat, iZip_sat, iEnum_sat, iStr_sat, asg_nm, asg_tp, asgs_cons, asgs_nil, wipe_nil, wipe_cons, items_tup, items_lst, items_kls, held_tup, held_lst, held_kls, still_nil, truth_bl, truth_tup, truth_lst, truth_kls, truth_int, truth_non, gAdd_int, gSub_int, gLt_int, gLe_int, gGt_int, gGe_int, gAdd_tup, gAdd_lst, gIsN_non, gNotN_non, bLen_tup, bLen_lst, bLen_kls, bTuple_lst, bTuple_tup, litems_lst, sat_ok, List.map_cons, List.map_nil, List.cons_append, List.nil_append, List.length_cons, List.length_nil, List.replicate, List.getElem?_cons_zero, List.getElem?_cons_succ, List.set_cons_zero, List.set_cons_succ, List.isEmpty_cons, List.isEmpty_nil, Nat.reduceSub, Nat.reduceAdd, Nat.zero_add, line0, line1, line2, line3, line4, line5, line6, line7, line8, true_and, and_true, if_true, if_false, Bool.false_eq_true, Bool.not_true, Bool.not_false, reduceCtorEq]
        refine index_sat (hp.mem_iff.mpr hnk) fun jn g1 g2 => ?_
        try simp only [sSeq_sat, sExpr_sat, sSet_sat, sIf_sat, sRet_sat, sNil_sat, sAsg_sat, sPar_sat, sPar3_sat, sSub_sat, sTry_sat, sRaise_sat, sBreak_sat, sCont_sat, sFld_sat, tryH_nil, tryH_cons, eML_sat, eMD_sat, eVar_sat, eC_sat, eB_sat, eBin_sat, eUn_sat, eCall_sat, eTup_sat, eLst_sat, eLstM_sat, eDNew_sat, eIf_sat, eAnd_sat, eOr_sat, eNot_sat, eT_sat, eSl_sat, oNone_sat, oSome_sat, eFld_sat, eMake_sat, eMeth_sat, eRgL1_sat, eRgL2_sat, eChain_sat, aCons_sat, aNil_sat, tTru_sat, tNot_sat, tAnd_sat, tOr_sat, tYes_sat, tCmp_sat, tVal_sat, iSeq_sat, iRng1_sat, iRng2_sat, iZip_sat, iEnum_sat, iStr_sat, asg_nm, asg_tp, asgs_cons, asgs_nil, wipe_nil, wipe_cons, items_tup, items_lst, items_kls, held_tup, held_lst, held_kls, still_nil, truth_bl, truth_tup, truth_lst, truth_kls, truth_int, truth_non, gAdd_int, gSub_int, gLt_int, gLe_int, gGt_int, gGe_int, gAdd_tup, gAdd_lst, gIsN_non, gNotN_non, bLen_tup, bLen_lst, bLen_kls, bTuple_lst, bTuple_tup, litems_lst, sat_ok, List.map_cons, List.map_nil, List.cons_append, List.nil_append, List.length_cons, List.length_nil, List.replicate, List.getElem?_cons_zero, List.getElem?_cons_succ, List.set_cons_zero, List.set_cons_succ, List.isEmpty_cons, List.isEmpty_nil, Nat.reduceSub, Nat.reduceAdd, Nat.zero_add, line0, line1, line2, line3, line4, line5, line6, line7, line8, true_and, and_true, if_true, if_false, Bool.false_eq_true, Bool.not_true, Bool.not_false, reduceCtorEq]
        have lt : jo < jn := by
          rw [List.getElem?_map] at g1
          cases e : out[jn]? with
          | none => rw [e] at g1; cases g1
          | some p =>
            obtain ⟨n', l⟩ := p
            rw [e] at g1
            have g1 : n' = n := Option.some.inj g1
            subst g1
            have := hu jn n' l e o b ht hok
            rw [List.map_take] at this
            obtain ⟨x, hx, e2⟩ := List.mem_iff_getElem.mp this
            rw [List.length_take] at hx
            rcases Nat.lt_or_ge jo jn with z | z
            · exact z
            · exfalso
              refine h2 x (by omega) ?_
              rw [← e2, List.getElem_take]
              exact List.getElem?_eq_getElem (by omega)
        rw [decide_eq_false (by omega)]
        try simp only [sSeq_sat, sExpr_sat, sSet_sat, sIf_sat, sRet_sat, sNil_sat, sAsg_sat, sPar_sat, sPar3_sat, sSub_sat, sTry_sat, sRaise_sat, sBreak_sat, sCont_sat, sFld_sat, tryH_nil, tryH_cons, eML_sat, eMD_sat, eVar_sat, eC_sat, eB_sat, eBin_sat, eUn_sat, eCall_sat, eTup_sat, eLst_sat, eLstM_sat, eDNew_sat, eIf_sat, eAnd_sat, eOr_sat, eNot_sat, eT_sat, eSl_sat, oNone_sat, oSome_sat, eFld_sat, eMake_sat, eMeth_sat, eRgL1_sat, eRgL2_sat, eChain_sat, aCons_sat, aNil_sat, tTru_sat, tNot_sat, tAnd_sat, tOr_sat, tYes_sat, tCmp_sat, tVal_sat, iSeq_sat, iRng1_sat, iRng2_sat, iZip_sat, iEnum_sat, iStr_sat, asg_nm, asg_tp, asgs_cons, asgs_nil, wipe_nil, wipe_cons, items_tup, items_lst, items_kls, held_tup, held_lst, held_kls, still_nil, truth_bl, truth_tup, truth_lst, truth_kls, truth_int, truth_non, gAdd_int, gSub_int, gLt_int, gLe_int, gGt_int, gGe_int, gAdd_tup, gAdd_lst, gIsN_non, gNotN_non, bLen_tup, bLen_lst, bLen_kls, bTuple_lst, bTuple_tup, litems_lst, sat_ok, List.map_cons, List.map_nil, List.cons_append, List.nil_append, List.length_cons, List.length_nil, List.replicate, List.getElem?_cons_zero, List.getElem?_cons_succ, List.set_cons_zero, List.set_cons_succ, List.isEmpty_cons, List.isEmpty_nil, Nat.reduceSub, Nat.reduceAdd, Nat.zero_add, line0, line1, line2, line3, line4, line5, line6, line7, line8, true_and, and_true, if_true, if_false, Bool.false_eq_true, Bool.not_true, Bool.not_false, reduceCtorEq]
        exact ⟨_, _, rfl⟩
      · rw [decide_eq_false hom]
        try simp only [sSeq_sat, sExpr_sat, sSet_sat, sIf_sat, sRet_sat, sNil_sat, sAsg_sat, sPar_sat, sPar3_sat, sSub_sat, sTry_sat, sRaise_sat, sBreak_sat, sCont_sat, sFld_sat, tryH_nil, tryH_cons, eML_sat, eMD_sat, eVar_sat, eC_sat, eB_sat, eBin_sat, eUn_sat, eCall_sat, eTup_sat, eLst_sat, eLstM_sat, eDNew_sat, eIf_sat, eAnd_sat, eOr_sat, eNot_sat, eT_sat, eSl_sat, oNone_sat, oSome_sat, eFld_sat, eMake_sat, eMeth_sat, eRgL1_sat, eRgL2_sat, eChain_sat, aCons_sat, aNil_sat, tTru_sat, tNot_sat, tAnd_sat, tOr_sat, tYes_sat, tCmp_sat, tVal_sat, iSeq_sat, iRng1_sat, iRng2_sat, iZip_sat, iEnum_sat, iStr_sat, asg_nm, asg_tp, asgs_cons, asgs_nil, wipe_nil, wipe_cons, items_tup, items_lst, items_kls, held_tup, held_lst, held_kls, still_nil, truth_bl, truth_tup, truth_lst, truth_kls, truth_int, truth_non, gAdd_int, gSub_int, gLt_int, gLe_int, gGt_int, gGe_int, gAdd_tup, gAdd_lst, gIsN_non, gNotN_non, bLen_tup, bLen_lst, bLen_kls, bTuple_lst, bTuple_tup, litems_lst, sat_ok, List.map_cons, List.map_nil, List.cons_append, List.nil_append, List.length_cons, List.length_nil, List.replicate, List.getElem?_cons_zero, List.getElem?_cons_succ, List.set_cons_zero, List.set_cons_succ, List.isEmpty_cons, List.isEmpty_nil, Nat.reduceSub, Nat.reduceAdd, Nat.zero_add, line0, line1, line2, line3, line4, line5, line6, line7, line8, true_and, and_true, if_true, if_false, Bool.false_eq_true, Bool.not_true, Bool.not_false, reduceCtorEq]
        exact ⟨_, _, rfl⟩
    · rintro ρ S2 ⟨rfl, x10, x11, rfl⟩
      exact ⟨rfl, _, _, _, _, rfl⟩
  · rintro ρ S' ⟨rfl, x7, x8, x10, x11, rfl⟩
    exact q _ _ _ _
theorem body_sat {x2 x3 x4 x5 x6 x7 x8 x9 x10 x11 x12 x13 x14 x15 x16 x17 : Option D} {P : Po} (h : Tn B S) (hB : B + 1000 < line) (q : ∀ S' x2 x3 x4 x5 x6 x7 x8 x9 x10 x11 x12 x13 x14 x15 x16 x17, Tn (B + 1000) S' → P.nx [some (.kls (ns.map .int)), some (.ref 0), x2, x3, x4, x5, x6, x7, x8, x9, x10, x11, x12, x13, x14, x15, x16, x17] S') :
    (f_law_3 [some (.kls (ns.map .int)), some (.ref 0), x2, x3, x4, x5, x6, x7, x8, x9, x10, x11, x12, x13, x14, x15, x16, x17] S).sat P := by
  have hB : B + 1000 < 16777216 := hB
  unfold f_law_3
  simp only [sSeq_sat, sExpr_sat, sSet_sat, sIf_sat, sRet_sat, sNil_sat, sAsg_sat, sPar_sat, sPar3_sat, sSub_sat, sTry_sat, sRaise_sat, sBreak_sat, sCont_sat, sFld_sat, tryH_nil, tryH_cons, eML_sat, eMD_sat, eVar_sat, eC_sat, eB_sat, eBin_sat, eUn_sat, eCall_sat, eTup_sat, eLst_sat, eLstM_sat, eDNew_sat, eIf_sat, eAnd_sat, eOr_sat, eNot_sat, eT_sat, eSl_sat, oNone_sat, oSome_sat, eFld_sat, eMake_sat, eMeth_sat, eRgL1_sat, eRgL2_sat, eChain_sat, aCons_sat, aNil_sat, tTru_sat, tNot_sat, tAnd_sat, tOr_sat, tYes_sat, tCmp_sat, tVal_sat, iSeq_sat, iRng1_sat, iRng2_sat, iZip_sat, iEnum_sat, iStr_sat, asg_nm, asg_tp, asgs_cons, asgs_nil, wipe_nil, wipe_cons, items_tup, items_lst, items_kls, held_tup, held_lst, held_kls, still_nil, truth_bl, truth_tup, truth_lst, truth_kls, truth_int, truth_non, gAdd_int, gSub_int, gLt_int, gLe_int, gGt_int, gGe_int, gAdd_tup, gAdd_lst, gIsN_non, gNotN_non, bLen_tup, bLen_lst, bLen_kls, bTuple_lst, bTuple_tup, litems_lst, sat_ok, List.map_cons, List.map_nil, List.cons_append, List.nil_append, List.length_cons, List.length_nil, List.replicate, List.getElem?_cons_zero, List.getElem?_cons_succ, List.set_cons_zero, List.set_cons_succ, List.isEmpty_cons, List.isEmpty_nil, Nat.reduceSub, Nat.reduceAdd, Nat.zero_add, line0, line1, line2, line3, line4, line5, line6, line7, line8, true_and, and_true, if_true, if_false, Bool.false_eq_true, Bool.not_true, Bool.not_false, reduceCtorEq]
  refine h.draw (by show _ < 16777216; omega) (by decide) fun many S1 m0 m9 h1 => ?_
  refine rows_sat (bk := true) h1 (by show _ < 16777216; omega) m0 m9 fun rows S2 k h2 => ?_
  have kl := k.len
  have km := k.m9
  have small : ∀ n ∈ keysOf rows, n < 9 := fun n hn => by rw [k.keys] at hn; have := (upI_mem hn).2; omega
  try simp only [sSeq_sat, sExpr_sat, sSet_sat, sIf_sat, sRet_sat, sNil_sat, sAsg_sat, sPar_sat, sPar3_sat, sSub_sat, sTry_sat, sRaise_sat, sBreak_sat, sCont_sat, sFld_sat, tryH_nil, tryH_cons, eML_sat, eMD_sat, eVar_sat, eC_sat, eB_sat, eBin_sat, eUn_sat, eCall_sat, eTup_sat, eLst_sat, eLstM_sat, eDNew_sat, eIf_sat, eAnd_sat, eOr_sat, eNot_sat, eT_sat, eSl_sat, oNone_sat, oSome_sat, eFld_sat, eMake_sat, eMeth_sat, eRgL1_sat, eRgL2_sat, eChain_sat, aCons_sat, aNil_sat, tTru_sat, tNot_sat, tAnd_sat, tOr_sat, tYes_sat, tCmp_sat, tVal_sat, iSeq_sat, iRng1_sat, iRng2_sat, iZip_sat, iEnum_sat, iStr_sat, asg_nm, asg_tp, asgs_cons, asgs_nil, wipe_nil, wipe_cons, items_tup, items_lst, items_kls, held_tup, held_lst, held_kls, still_nil, truth_bl, truth_tup, truth_lst, truth_kls, truth_int, truth_non, gAdd_int, gSub_int, gLt_int, gLe_int, gGt_int, gGe_int, gAdd_tup, gAdd_lst, gIsN_non, gNotN_non, bLen_tup, bLen_lst, bLen_kls, bTuple_lst, bTuple_tup, litems_lst, sat_ok, List.map_cons, List.map_nil, List.cons_append, List.nil_append, List.length_cons, List.length_nil, List.replicate, List.getElem?_cons_zero, List.getElem?_cons_succ, List.set_cons_zero, List.set_cons_succ, List.isEmpty_cons, List.isEmpty_nil, Nat.reduceSub, Nat.reduceAdd, Nat.zero_add, line0, line1, line2, line3, line4, line5, line6, line7, line8, true_and, and_true, if_true, if_false, Bool.false_eq_true, Bool.not_true, Bool.not_false, reduceCtorEq]
  refine ord_sat k.nodup (by omega) k.ties64 fun S3 e3 => ?_
  try simp only [sSeq_sat, sExpr_sat, sSet_sat, sIf_sat, sRet_sat, sNil_sat, sAsg_sat, sPar_sat, sPar3_sat, sSub_sat, sTry_sat, sRaise_sat, sBreak_sat, sCont_sat, sFld_sat, tryH_nil, tryH_cons, eML_sat, eMD_sat, eVar_sat, eC_sat, eB_sat, eBin_sat, eUn_sat, eCall_sat, eTup_sat, eLst_sat, eLstM_sat, eDNew_sat, eIf_sat, eAnd_sat, eOr_sat, eNot_sat, eT_sat, eSl_sat, oNone_sat, oSome_sat, eFld_sat, eMake_sat, eMeth_sat, eRgL1_sat, eRgL2_sat, eChain_sat, aCons_sat, aNil_sat, tTru_sat, tNot_sat, tAnd_sat, tOr_sat, tYes_sat, tCmp_sat, tVal_sat, iSeq_sat, iRng1_sat, iRng2_sat, iZip_sat, iEnum_sat, iStr_sat, asg_nm, asg_tp, asgs_cons, asgs_nil, wipe_nil, wipe_cons, items_tup, items_lst, items_kls, held_tup, held_lst, held_kls, still_nil, truth_bl, truth_tup, truth_lst, truth_kls, truth_int, truth_non, gAdd_int, gSub_int, gLt_int, gLe_int, gGt_int, gGe_int, gAdd_tup, gAdd_lst, gIsN_non, gNotN_non, bLen_tup, bLen_lst, bLen_kls, bTuple_lst, bTuple_tup, litems_lst, sat_ok, List.map_cons, List.map_nil, List.cons_append, List.nil_append, List.length_cons, List.length_nil, List.replicate, List.getElem?_cons_zero, List.getElem?_cons_succ, List.set_cons_zero, List.set_cons_succ, List.isEmpty_cons, List.isEmpty_nil, Nat.reduceSub, Nat.reduceAdd, Nat.zero_add, line0, line1, line2, line3, line4, line5, line6, line7, line8, true_and, and_true, if_true, if_false, Bool.false_eq_true, Bool.not_true, Bool.not_false, reduceCtorEq]
  refine own_sat (by omega) k.ties64 fun S4 e4 => ?_
  rw [bTuple_lst]
  try simp only [sSeq_sat, sExpr_sat, sSet_sat, sIf_sat, sRet_sat, sNil_sat, sAsg_sat, sPar_sat, sPar3_sat, sSub_sat, sTry_sat, sRaise_sat, sBreak_sat, sCont_sat, sFld_sat, tryH_nil, tryH_cons, eML_sat, eMD_sat, eVar_sat, eC_sat, eB_sat, eBin_sat, eUn_sat, eCall_sat, eTup_sat, eLst_sat, eLstM_sat, eDNew_sat, eIf_sat, eAnd_sat, eOr_sat, eNot_sat, eT_sat, eSl_sat, oNone_sat, oSome_sat, eFld_sat, eMake_sat, eMeth_sat, eRgL1_sat, eRgL2_sat, eChain_sat, aCons_sat, aNil_sat, tTru_sat, tNot_sat, tAnd_sat, tOr_sat, tYes_sat, tCmp_sat, tVal_sat, iSeq_sat, iRng1_sat, iRng2_sat, iZip_sat, iEnum_sat, iStr_sat, asg_nm, asg_tp, asgs_cons, asgs_nil, wipe_nil, wipe_cons, items_tup, items_lst, items_kls, held_tup, held_lst, held_kls, still_nil, truth_bl, truth_tup, truth_lst, truth_kls, truth_int, truth_non, gAdd_int, gSub_int, gLt_int, gLe_int, gGt_int, gGe_int, gAdd_tup, gAdd_lst, gIsN_non, gNotN_non, bLen_tup, bLen_lst, bLen_kls, bTuple_lst, bTuple_tup, litems_lst, sat_ok, List.map_cons, List.map_nil, List.cons_append, List.nil_append, List.length_cons, List.length_nil, List.replicate, List.getElem?_cons_zero, List.getElem?_cons_succ, List.set_cons_zero, List.set_cons_succ, List.isEmpty_cons, List.isEmpty_nil, Nat.reduceSub, Nat.reduceAdd, Nat.zero_add, line0, line1, line2, line3, line4, line5, line6, line7, line8, true_and, and_true, if_true, if_false, Bool.false_eq_true, Bool.not_true, Bool.not_false, reduceCtorEq]
  have own64 : ∀ r ∈ mapRow ownT rows, r.2.length < 64 := by
    intro r hr
    obtain ⟨r0, hr0, rfl⟩ := List.mem_map.mp hr
    have := (k.ties r0 hr0).1
    simp only [ownT, List.length_append, List.length_reverse, List.length_cons, List.length_nil]
    omega
  refine ord_sat (by rw [keys_mapRow]; exact k.nodup) (by rw [length_mapRow]; omega) own64 fun S5 e5 => ?_
  have eo : stP (mapRow ownT rows) = stP rows := by unfold stP; rw [length_mapRow]; exact ((own_alike small).strike _).symm
  rw [eo, ne_self (ordD_plain _) (ordD_dep _)]
  try simp only [sSeq_sat, sExpr_sat, sSet_sat, sIf_sat, sRet_sat, sNil_sat, sAsg_sat, sPar_sat, sPar3_sat, sSub_sat, sTry_sat, sRaise_sat, sBreak_sat, sCont_sat, sFld_sat, tryH_nil, tryH_cons, eML_sat, eMD_sat, eVar_sat, eC_sat, eB_sat, eBin_sat, eUn_sat, eCall_sat, eTup_sat, eLst_sat, eLstM_sat, eDNew_sat, eIf_sat, eAnd_sat, eOr_sat, eNot_sat, eT_sat, eSl_sat, oNone_sat, oSome_sat, eFld_sat, eMake_sat, eMeth_sat, eRgL1_sat, eRgL2_sat, eChain_sat, aCons_sat, aNil_sat, tTru_sat, tNot_sat, tAnd_sat, tOr_sat, tYes_sat, tCmp_sat, tVal_sat, iSeq_sat, iRng1_sat, iRng2_sat, iZip_sat, iEnum_sat, iStr_sat, asg_nm, asg_tp, asgs_cons, asgs_nil, wipe_nil, wipe_cons, items_tup, items_lst, items_kls, held_tup, held_lst, held_kls, still_nil, truth_bl, truth_tup, truth_lst, truth_kls, truth_int, truth_non, gAdd_int, gSub_int, gLt_int, gLe_int, gGt_int, gGe_int, gAdd_tup, gAdd_lst, gIsN_non, gNotN_non, bLen_tup, bLen_lst, bLen_kls, bTuple_lst, bTuple_tup, litems_lst, sat_ok, List.map_cons, List.map_nil, List.cons_append, List.nil_append, List.length_cons, List.length_nil, List.replicate, List.getElem?_cons_zero, List.getElem?_cons_succ, List.set_cons_zero, List.set_cons_succ, List.isEmpty_cons, List.isEmpty_nil, Nat.reduceSub, Nat.reduceAdd, Nat.zero_add, line0, line1, line2, line3, line4, line5, line6, line7, line8, true_and, and_true, if_true, if_false, Bool.false_eq_true, Bool.not_true, Bool.not_false, reduceCtorEq]
  -- what is told
  have hT5 := h2.ext (e3.trans (e4.trans e5))
  have rest : ∀ S7, Tn (B + 1 + 200) S7 → (sSeq (sSet 9 (eB bTuple (aCons (c_law_3) (aNil)))) (sSeq (sIf (tCmp gIsN (eCall (m_law_order) (aCons (eVar 9) (aNil))) (eC .non)) (sRet (eC (.bl false))) (sNil)) (sSeq (sSet 12 (eBin gAdd (eVar 4) (eTup (aCons (eTup (aCons (eC (.int 50)) (aCons (eTup (aCons (eTup (aCons (eC (.int 51)) (aCons (eC (.bl true)) (aNil)))) (aNil))) (aNil)))) (aCons (eTup (aCons (eC (.int 51)) (aCons (eTup (aCons (eTup (aCons (eC (.int 50)) (aCons (eC (.bl true)) (aNil)))) (aNil))) (aNil)))) (aNil)))))) (sSeq (sIf (tCmp gNotN (eCall (m_law_order) (aCons (eVar 12) (aNil))) (eC .non)) (sRet (eC (.bl false))) (sNil)) (sSeq (sSet 13 (eCall (m_law_rows) (aCons (eVar 0) (aCons (eVar 1) (aCons (eVar 3) (aCons (eC (.bl false)) (aNil))))))) (sSeq (sSet 14 (eCall (m_law_order) (aCons (eVar 13) (aNil)))) (sSeq (sIf (tOr (tCmp gIsN (eVar 14) (eC .non)) (tTru (eB bAny (aCons (c_law_4) (aNil))))) (sRet (eC (.bl false))) (sNil)) (sSeq (sSet 15 (c_law_5)) (sSeq (sIf (tCmp gNe (eVar 15) (eRgL1 (eVar 3))) (sRet (eC (.bl false))) (sNil)) (sSeq (sSet 16 (c_law_6)) (sFor (iSeq (eVar 13)) (.tp [.nm 7, .nm 8]) (f_law_2)))))))))))
      [some (.kls (ns.map .int)), some (.ref 0), x2, some (.int many), some (.tup (rows.map eRow)), some (ordD (stP rows)), some (.tup ((mapRow ownT rows).map eRow)), x7, x8, x9, x10, x11, x12, x13, x14, x15, x16, x17] S7).sat P := by
    intro S7 h7
    simp only [sSeq_sat, sExpr_sat, sSet_sat, sIf_sat, sRet_sat, sNil_sat, sAsg_sat, sPar_sat, sPar3_sat, sSub_sat, sTry_sat, sRaise_sat, sBreak_sat, sCont_sat, sFld_sat, tryH_nil, tryH_cons, eML_sat, eMD_sat, eVar_sat, eC_sat, eB_sat, eBin_sat, eUn_sat, eCall_sat, eTup_sat, eLst_sat, eLstM_sat, eDNew_sat, eIf_sat, eAnd_sat, eOr_sat, eNot_sat, eT_sat, eSl_sat, oNone_sat, oSome_sat, eFld_sat, eMake_sat, eMeth_sat, eRgL1_sat, eRgL2_sat, eChain_sat, aCons_sat, aNil_sat, tTru_sat, tNot_sat, tAnd_sat, tOr_sat, tYes_sat, tCmp_sat, tVal_sat, iSeq_sat, iRng1_sat, iRng2_sat, iZip_sat, iEnum_sat, iStr_sat, asg_nm, asg_tp, asgs_cons, asgs_nil, wipe_nil, wipe_cons, items_tup, items_lst, items_kls, held_tup, held_lst, held_kls, still_nil, truth_bl, truth_tup, truth_lst, truth_kls, truth_int, truth_non, gAdd_int, gSub_int, gLt_int, gLe_int, gGt_int, gGe_int, gAdd_tup, gAdd_lst, gIsN_non, gNotN_non, bLen_tup, bLen_lst, bLen_kls, bTuple_lst, bTuple_tup, litems_lst, sat_ok, List.map_cons, List.map_nil, List.cons_append, List.nil_append, List.length_cons, List.length_nil, List.replicate, List.getElem?_cons_zero, List.getElem?_cons_succ, List.set_cons_zero, List.set_cons_succ, List.isEmpty_cons, List.isEmpty_nil, Nat.reduceSub, Nat.reduceAdd, Nat.zero_add, line0, line1, line2, line3, line4, line5, line6, line7, line8, true_and, and_true, if_true, if_false, Bool.false_eq_true, Bool.not_true, Bool.not_false, reduceCtorEq]
    refine free_sat' (by omega) k.ties64 fun S8 e8 => ?_
    rw [bTuple_lst]
    try simp only [sSeq_sat, sExpr_sat, sSet_sat, sIf_sat, sRet_sat, sNil_sat, sAsg_sat, sPar_sat, sPar3_sat, sSub_sat, sTry_sat, sRaise_sat, sBreak_sat, sCont_sat, sFld_sat, tryH_nil, tryH_cons, eML_sat, eMD_sat, eVar_sat, eC_sat, eB_sat, eBin_sat, eUn_sat, eCall_sat, eTup_sat, eLst_sat, eLstM_sat, eDNew_sat, eIf_sat, eAnd_sat, eOr_sat, eNot_sat, eT_sat, eSl_sat, oNone_sat, oSome_sat, eFld_sat, eMake_sat, eMeth_sat, eRgL1_sat, eRgL2_sat, eChain_sat, aCons_sat, aNil_sat, tTru_sat, tNot_sat, tAnd_sat, tOr_sat, tYes_sat, tCmp_sat, tVal_sat, iSeq_sat, iRng1_sat, iRng2_sat, iZip_sat, iEnum_sat, iStr_sat, asg_nm, asg_tp, asgs_cons, asgs_nil, wipe_nil, wipe_cons, items_tup, items_lst, items_kls, held_tup, held_lst, held_kls, still_nil, truth_bl, truth_tup, truth_lst, truth_kls, truth_int, truth_non, gAdd_int, gSub_int, gLt_int, gLe_int, gGt_int, gGe_int, gAdd_tup, gAdd_lst, gIsN_non, gNotN_non, bLen_tup, bLen_lst, bLen_kls, bTuple_lst, bTuple_tup, litems_lst, sat_ok, List.map_cons, List.map_nil, List.cons_append, List.nil_append, List.length_cons, List.length_nil, List.replicate, List.getElem?_cons_zero, List.getElem?_cons_succ, List.set_cons_zero, List.set_cons_succ, List.isEmpty_cons, List.isEmpty_nil, Nat.reduceSub, Nat.reduceAdd, Nat.zero_add, line0, line1, line2, line3, line4, line5, line6, line7, line8, true_and, and_true, if_true, if_false, Bool.false_eq_true, Bool.not_true, Bool.not_false, reduceCtorEq]
    have free64 : ∀ r ∈ mapRow freeT rows, r.2.length < 64 := by
      intro r hr
      obtain ⟨r0, hr0, rfl⟩ := List.mem_map.mp hr
      have := (k.ties r0 hr0).1
      simp only [freeT, List.length_map]
      omega
    have freeN : (keysOf (mapRow freeT rows)).Nodup := by rw [keys_mapRow]; exact k.nodup
    refine ord_sat freeN (by rw [length_mapRow]; omega) free64 fun S9 e9 => ?_
    obtain ⟨out, ho⟩ := strike_some_free _ (Nat.le_refl _) freeN free_none
    have ho : stP (mapRow freeT rows) = some out := ho
    rw [ho]
    try simp only [sSeq_sat, sExpr_sat, sSet_sat, sIf_sat, sRet_sat, sNil_sat, sAsg_sat, sPar_sat, sPar3_sat, sSub_sat, sTry_sat, sRaise_sat, sBreak_sat, sCont_sat, sFld_sat, tryH_nil, tryH_cons, eML_sat, eMD_sat, eVar_sat, eC_sat, eB_sat, eBin_sat, eUn_sat, eCall_sat, eTup_sat, eLst_sat, eLstM_sat, eDNew_sat, eIf_sat, eAnd_sat, eOr_sat, eNot_sat, eT_sat, eSl_sat, oNone_sat, oSome_sat, eFld_sat, eMake_sat, eMeth_sat, eRgL1_sat, eRgL2_sat, eChain_sat, aCons_sat, aNil_sat, tTru_sat, tNot_sat, tAnd_sat, tOr_sat, tYes_sat, tCmp_sat, tVal_sat, iSeq_sat, iRng1_sat, iRng2_sat, iZip_sat, iEnum_sat, iStr_sat, asg_nm, asg_tp, asgs_cons, asgs_nil, wipe_nil, wipe_cons, items_tup, items_lst, items_kls, held_tup, held_lst, held_kls, still_nil, truth_bl, truth_tup, truth_lst, truth_kls, truth_int, truth_non, gAdd_int, gSub_int, gLt_int, gLe_int, gGt_int, gGe_int, gAdd_tup, gAdd_lst, gIsN_non, gNotN_non, bLen_tup, bLen_lst, bLen_kls, bTuple_lst, bTuple_tup, litems_lst, sat_ok, List.map_cons, List.map_nil, List.cons_append, List.nil_append, List.length_cons, List.length_nil, List.replicate, List.getElem?_cons_zero, List.getElem?_cons_succ, List.set_cons_zero, List.set_cons_succ, List.isEmpty_cons, List.isEmpty_nil, Nat.reduceSub, Nat.reduceAdd, Nat.zero_add, line0, line1, line2, line3, line4, line5, line6, line7, line8, true_and, and_true, if_true, if_false, Bool.false_eq_true, Bool.not_true, Bool.not_false, reduceCtorEq, ordD, D.isN]
    have er : rows.map eRow ++ [D.tup [.int 50, .tup [.tup [.int 51, .bl true]]], .tup [.int 51, .tup [.tup [.int 50, .bl true]]]] = (rows ++ ringR).map eRow := by rw [List.map_append]; rfl
    rw [er]
    refine ⟨by rw [List.length_map]; show _ ≤ 16777216; omega, ?_⟩
    refine ord_sat ?_ (by rw [List.length_append]; show _ + 2 < 64; omega) (fun r hr => ?_) fun S10 e10 => ?_
    · have hk : keysOf (rows ++ ringR) = keysOf rows ++ [50, 51] := by unfold keysOf; rw [List.map_append]; rfl
      rw [hk, List.nodup_append]
      refine ⟨k.nodup, by decide, fun a ha b hb e => ?_⟩
      have := small a ha
      simp at hb
      omega
    · rcases List.mem_append.mp hr with z | z
      · exact k.ties64 r z
      · exact (by decide : ∀ r ∈ ringR, r.2.length < 64) r z
    rw [ring_none small]
    try simp only [sSeq_sat, sExpr_sat, sSet_sat, sIf_sat, sRet_sat, sNil_sat, sAsg_sat, sPar_sat, sPar3_sat, sSub_sat, sTry_sat, sRaise_sat, sBreak_sat, sCont_sat, sFld_sat, tryH_nil, tryH_cons, eML_sat, eMD_sat, eVar_sat, eC_sat, eB_sat, eBin_sat, eUn_sat, eCall_sat, eTup_sat, eLst_sat, eLstM_sat, eDNew_sat, eIf_sat, eAnd_sat, eOr_sat, eNot_sat, eT_sat, eSl_sat, oNone_sat, oSome_sat, eFld_sat, eMake_sat, eMeth_sat, eRgL1_sat, eRgL2_sat, eChain_sat, aCons_sat, aNil_sat, tTru_sat, tNot_sat, tAnd_sat, tOr_sat, tYes_sat, tCmp_sat, tVal_sat, iSeq_sat, iRng1_sat, iRng2_sat, iZip_sat, iEnum_sat, iStr_sat, asg_nm, asg_tp, asgs_cons, asgs_nil, wipe_nil, wipe_cons, items_tup, items_lst, items_kls, held_tup, held_lst, held_kls, still_nil, truth_bl, truth_tup, truth_lst, truth_kls, truth_int, truth_non, gAdd_int, gSub_int, gLt_int, gLe_int, gGt_int, gGe_int, gAdd_tup, gAdd_lst, gIsN_non, gNotN_non, bLen_tup, bLen_lst, bLen_kls, bTuple_lst, bTuple_tup, litems_lst, sat_ok, List.map_cons, List.map_nil, List.cons_append, List.nil_append, List.length_cons, List.length_nil, List.replicate, List.getElem?_cons_zero, List.getElem?_cons_succ, List.set_cons_zero, List.set_cons_succ, List.isEmpty_cons, List.isEmpty_nil, Nat.reduceSub, Nat.reduceAdd, Nat.zero_add, line0, line1, line2, line3, line4, line5, line6, line7, line8, true_and, and_true, if_true, if_false, Bool.false_eq_true, Bool.not_true, Bool.not_false, reduceCtorEq, ordD, D.isN]
    have h10 := h7.ext (e8.trans (e9.trans e10))
    refine rows_sat (bk := false) h10 (by show _ < 16777216; omega) m0 m9 fun st S11 ks h11 => ?_
    have ksl := ks.len
    have ksm := ks.m9
    try simp only [sSeq_sat, sExpr_sat, sSet_sat, sIf_sat, sRet_sat, sNil_sat, sAsg_sat, sPar_sat, sPar3_sat, sSub_sat, sTry_sat, sRaise_sat, sBreak_sat, sCont_sat, sFld_sat, tryH_nil, tryH_cons, eML_sat, eMD_sat, eVar_sat, eC_sat, eB_sat, eBin_sat, eUn_sat, eCall_sat, eTup_sat, eLst_sat, eLstM_sat, eDNew_sat, eIf_sat, eAnd_sat, eOr_sat, eNot_sat, eT_sat, eSl_sat, oNone_sat, oSome_sat, eFld_sat, eMake_sat, eMeth_sat, eRgL1_sat, eRgL2_sat, eChain_sat, aCons_sat, aNil_sat, tTru_sat, tNot_sat, tAnd_sat, tOr_sat, tYes_sat, tCmp_sat, tVal_sat, iSeq_sat, iRng1_sat, iRng2_sat, iZip_sat, iEnum_sat, iStr_sat, asg_nm, asg_tp, asgs_cons, asgs_nil, wipe_nil, wipe_cons, items_tup, items_lst, items_kls, held_tup, held_lst, held_kls, still_nil, truth_bl, truth_tup, truth_lst, truth_kls, truth_int, truth_non, gAdd_int, gSub_int, gLt_int, gLe_int, gGt_int, gGe_int, gAdd_tup, gAdd_lst, gIsN_non, gNotN_non, bLen_tup, bLen_lst, bLen_kls, bTuple_lst, bTuple_tup, litems_lst, sat_ok, List.map_cons, List.map_nil, List.cons_append, List.nil_append, List.length_cons, List.length_nil, List.replicate, List.getElem?_cons_zero, List.getElem?_cons_succ, List.set_cons_zero, List.set_cons_succ, List.isEmpty_cons, List.isEmpty_nil, Nat.reduceSub, Nat.reduceAdd, Nat.zero_add, line0, line1, line2, line3, line4, line5, line6, line7, line8, true_and, and_true, if_true, if_false, Bool.false_eq_true, Bool.not_true, Bool.not_false, reduceCtorEq]
    refine ord_sat ks.nodup (by omega) ks.ties64 fun S12 e12 => ?_
    have hst : stP st = some ((keysOf st).map fun n => (n, [])) := strike_up st (by rw [ks.keys]; exact upI_up _) (up_of ks)
    rw [hst]
    try simp only [sSeq_sat, sExpr_sat, sSet_sat, sIf_sat, sRet_sat, sNil_sat, sAsg_sat, sPar_sat, sPar3_sat, sSub_sat, sTry_sat, sRaise_sat, sBreak_sat, sCont_sat, sFld_sat, tryH_nil, tryH_cons, eML_sat, eMD_sat, eVar_sat, eC_sat, eB_sat, eBin_sat, eUn_sat, eCall_sat, eTup_sat, eLst_sat, eLstM_sat, eDNew_sat, eIf_sat, eAnd_sat, eOr_sat, eNot_sat, eT_sat, eSl_sat, oNone_sat, oSome_sat, eFld_sat, eMake_sat, eMeth_sat, eRgL1_sat, eRgL2_sat, eChain_sat, aCons_sat, aNil_sat, tTru_sat, tNot_sat, tAnd_sat, tOr_sat, tYes_sat, tCmp_sat, tVal_sat, iSeq_sat, iRng1_sat, iRng2_sat, iZip_sat, iEnum_sat, iStr_sat, asg_nm, asg_tp, asgs_cons, asgs_nil, wipe_nil, wipe_cons, items_tup, items_lst, items_kls, held_tup, held_lst, held_kls, still_nil, truth_bl, truth_tup, truth_lst, truth_kls, truth_int, truth_non, gAdd_int, gSub_int, gLt_int, gLe_int, gGt_int, gGe_int, gAdd_tup, gAdd_lst, gIsN_non, gNotN_non, bLen_tup, bLen_lst, bLen_kls, bTuple_lst, bTuple_tup, litems_lst, sat_ok, List.map_cons, List.map_nil, List.cons_append, List.nil_append, List.length_cons, List.length_nil, List.replicate, List.getElem?_cons_zero, List.getElem?_cons_succ, List.set_cons_zero, List.set_cons_succ, List.isEmpty_cons, List.isEmpty_nil, Nat.reduceSub, Nat.reduceAdd, Nat.zero_add, line0, line1, line2, line3, line4, line5, line6, line7, line8, true_and, and_true, if_true, if_false, Bool.false_eq_true, Bool.not_true, Bool.not_false, reduceCtorEq, ordD, D.isN]
    have hkl : (keysOf st).length < 64 := by rw [ks.keys, upI_length]; omega
    refine told_none hkl fun S13 e13 => ?_
    rw [anys, any_none]
    try simp only [sSeq_sat, sExpr_sat, sSet_sat, sIf_sat, sRet_sat, sNil_sat, sAsg_sat, sPar_sat, sPar3_sat, sSub_sat, sTry_sat, sRaise_sat, sBreak_sat, sCont_sat, sFld_sat, tryH_nil, tryH_cons, eML_sat, eMD_sat, eVar_sat, eC_sat, eB_sat, eBin_sat, eUn_sat, eCall_sat, eTup_sat, eLst_sat, eLstM_sat, eDNew_sat, eIf_sat, eAnd_sat, eOr_sat, eNot_sat, eT_sat, eSl_sat, oNone_sat, oSome_sat, eFld_sat, eMake_sat, eMeth_sat, eRgL1_sat, eRgL2_sat, eChain_sat, aCons_sat, aNil_sat, tTru_sat, tNot_sat, tAnd_sat, tOr_sat, tYes_sat, tCmp_sat, tVal_sat, iSeq_sat, iRng1_sat, iRng2_sat, iZip_sat, iEnum_sat, iStr_sat, asg_nm, asg_tp, asgs_cons, asgs_nil, wipe_nil, wipe_cons, items_tup, items_lst, items_kls, held_tup, held_lst, held_kls, still_nil, truth_bl, truth_tup, truth_lst, truth_kls, truth_int, truth_non, gAdd_int, gSub_int, gLt_int, gLe_int, gGt_int, gGe_int, gAdd_tup, gAdd_lst, gIsN_non, gNotN_non, bLen_tup, bLen_lst, bLen_kls, bTuple_lst, bTuple_tup, litems_lst, sat_ok, List.map_cons, List.map_nil, List.cons_append, List.nil_append, List.length_cons, List.length_nil, List.replicate, List.getElem?_cons_zero, List.getElem?_cons_succ, List.set_cons_zero, List.set_cons_succ, List.isEmpty_cons, List.isEmpty_nil, Nat.reduceSub, Nat.reduceAdd, Nat.zero_add, line0, line1, line2, line3, line4, line5, line6, line7, line8, true_and, and_true, if_true, if_false, Bool.false_eq_true, Bool.not_true, Bool.not_false, reduceCtorEq]
    refine firsts_sat (out := (keysOf st).map fun n => (n, [])) (f := eVar 14) rfl rfl (by rw [List.length_map]; exact hkl) (fun Q E hQ => ?_) fun S14 e14 => ?_
    · try simp only [sSeq_sat, sExpr_sat, sSet_sat, sIf_sat, sRet_sat, sNil_sat, sAsg_sat, sPar_sat, sPar3_sat, sSub_sat, sTry_sat, sRaise_sat, sBreak_sat, sCont_sat, sFld_sat, tryH_nil, tryH_cons, eML_sat, eMD_sat, eVar_sat, eC_sat, eB_sat, eBin_sat, eUn_sat, eCall_sat, eTup_sat, eLst_sat, eLstM_sat, eDNew_sat, eIf_sat, eAnd_sat, eOr_sat, eNot_sat, eT_sat, eSl_sat, oNone_sat, oSome_sat, eFld_sat, eMake_sat, eMeth_sat, eRgL1_sat, eRgL2_sat, eChain_sat, aCons_sat, aNil_sat, tTru_sat, tNot_sat, tAnd_sat, tOr_sat, tYes_sat, tCmp_sat, tVal_sat, iSeq_sat, iRng1_sat, iRng2_sat, iZip_sat, iEnum_sat, iStr_sat, asg_nm, asg_tp, asgs_cons, asgs_nil, wipe_nil, wipe_cons, items_tup, items_lst, items_kls, held_tup, held_lst, held_kls, still_nil, truth_bl, truth_tup, truth_lst, truth_kls, truth_int, truth_non, gAdd_int, gSub_int, gLt_int, gLe_int, gGt_int, gGe_int, gAdd_tup, gAdd_lst, gIsN_non, gNotN_non, bLen_tup, bLen_lst, bLen_kls, bTuple_lst, bTuple_tup, litems_lst, sat_ok, List.map_cons, List.map_nil, List.cons_append, List.nil_append, List.length_cons, List.length_nil, List.replicate, List.getElem?_cons_zero, List.getElem?_cons_succ, List.set_cons_zero, List.set_cons_succ, List.isEmpty_cons, List.isEmpty_nil, Nat.reduceSub, Nat.reduceAdd, Nat.zero_add, line0, line1, line2, line3, line4, line5, line6, line7, line8, true_and, and_true, if_true, if_false, Bool.false_eq_true, Bool.not_true, Bool.not_false, reduceCtorEq]
      exact hQ _ Ext.refl
    have e1 : ((keysOf st).map fun n => ((n, []) : Int × List Int)).map (·.1) = upI many.toNat := by rw [List.map_map, ← ks.keys]; exact List.map_id _
    rw [e1]
    try simp only [sSeq_sat, sExpr_sat, sSet_sat, sIf_sat, sRet_sat, sNil_sat, sAsg_sat, sPar_sat, sPar3_sat, sSub_sat, sTry_sat, sRaise_sat, sBreak_sat, sCont_sat, sFld_sat, tryH_nil, tryH_cons, eML_sat, eMD_sat, eVar_sat, eC_sat, eB_sat, eBin_sat, eUn_sat, eCall_sat, eTup_sat, eLst_sat, eLstM_sat, eDNew_sat, eIf_sat, eAnd_sat, eOr_sat, eNot_sat, eT_sat, eSl_sat, oNone_sat, oSome_sat, eFld_sat, eMake_sat, eMeth_sat, eRgL1_sat, eRgL2_sat, eChain_sat, aCons_sat, aNil_sat, tTru_sat, tNot_sat, tAnd_sat, tOr_sat, tYes_sat, tCmp_sat, tVal_sat, iSeq_sat, iRng1_sat, iRng2_sat, iZip_sat, iEnum_sat, iStr_sat, asg_nm, asg_tp, asgs_cons, asgs_nil, wipe_nil, wipe_cons, items_tup, items_lst, items_kls, held_tup, held_lst, held_kls, still_nil, truth_bl, truth_tup, truth_lst, truth_kls, truth_int, truth_non, gAdd_int, gSub_int, gLt_int, gLe_int, gGt_int, gGe_int, gAdd_tup, gAdd_lst, gIsN_non, gNotN_non, bLen_tup, bLen_lst, bLen_kls, bTuple_lst, bTuple_tup, litems_lst, sat_ok, List.map_cons, List.map_nil, List.cons_append, List.nil_append, List.length_cons, List.length_nil, List.replicate, List.getElem?_cons_zero, List.getElem?_cons_succ, List.set_cons_zero, List.set_cons_succ, List.isEmpty_cons, List.isEmpty_nil, Nat.reduceSub, Nat.reduceAdd, Nat.zero_add, line0, line1, line2, line3, line4, line5, line6, line7, line8, true_and, and_true, if_true, if_false, Bool.false_eq_true, Bool.not_true, Bool.not_false, reduceCtorEq]
    refine ⟨⟨by omega, by omega⟩, ?_⟩
    rw [upto_upI, ne_self (lst_plain _) (lst_dep _)]
    try simp only [sSeq_sat, sExpr_sat, sSet_sat, sIf_sat, sRet_sat, sNil_sat, sAsg_sat, sPar_sat, sPar3_sat, sSub_sat, sTry_sat, sRaise_sat, sBreak_sat, sCont_sat, sFld_sat, tryH_nil, tryH_cons, eML_sat, eMD_sat, eVar_sat, eC_sat, eB_sat, eBin_sat, eUn_sat, eCall_sat, eTup_sat, eLst_sat, eLstM_sat, eDNew_sat, eIf_sat, eAnd_sat, eOr_sat, eNot_sat, eT_sat, eSl_sat, oNone_sat, oSome_sat, eFld_sat, eMake_sat, eMeth_sat, eRgL1_sat, eRgL2_sat, eChain_sat, aCons_sat, aNil_sat, tTru_sat, tNot_sat, tAnd_sat, tOr_sat, tYes_sat, tCmp_sat, tVal_sat, iSeq_sat, iRng1_sat, iRng2_sat, iZip_sat, iEnum_sat, iStr_sat, asg_nm, asg_tp, asgs_cons, asgs_nil, wipe_nil, wipe_cons, items_tup, items_lst, items_kls, held_tup, held_lst, held_kls, still_nil, truth_bl, truth_tup, truth_lst, truth_kls, truth_int, truth_non, gAdd_int, gSub_int, gLt_int, gLe_int, gGt_int, gGe_int, gAdd_tup, gAdd_lst, gIsN_non, gNotN_non, bLen_tup, bLen_lst, bLen_kls, bTuple_lst, bTuple_tup, litems_lst, sat_ok, List.map_cons, List.map_nil, List.cons_append, List.nil_append, List.length_cons, List.length_nil, List.replicate, List.getElem?_cons_zero, List.getElem?_cons_succ, List.set_cons_zero, List.set_cons_succ, List.isEmpty_cons, List.isEmpty_nil, Nat.reduceSub, Nat.reduceAdd, Nat.zero_add, line0, line1, line2, line3, line4, line5, line6, line7, line8, true_and, and_true, if_true, if_false, Bool.false_eq_true, Bool.not_true, Bool.not_false, reduceCtorEq]
    obtain ⟨po, p1, p2, p3⟩ := put_up _ st (Nat.le_refl _) ks.nodup (up_of ks)
    have pl : po.length < 64 := by have := (putP_lens _ _ _ p1).1; omega
    refine firsts_sat (f := eCall m_put_order (aCons (eVar 13) aNil)) rfl rfl pl (fun Q E hQ => ?_) fun S15 e15 => ?_
    · try simp only [sSeq_sat, sExpr_sat, sSet_sat, sIf_sat, sRet_sat, sNil_sat, sAsg_sat, sPar_sat, sPar3_sat, sSub_sat, sTry_sat, sRaise_sat, sBreak_sat, sCont_sat, sFld_sat, tryH_nil, tryH_cons, eML_sat, eMD_sat, eVar_sat, eC_sat, eB_sat, eBin_sat, eUn_sat, eCall_sat, eTup_sat, eLst_sat, eLstM_sat, eDNew_sat, eIf_sat, eAnd_sat, eOr_sat, eNot_sat, eT_sat, eSl_sat, oNone_sat, oSome_sat, eFld_sat, eMake_sat, eMeth_sat, eRgL1_sat, eRgL2_sat, eChain_sat, aCons_sat, aNil_sat, tTru_sat, tNot_sat, tAnd_sat, tOr_sat, tYes_sat, tCmp_sat, tVal_sat, iSeq_sat, iRng1_sat, iRng2_sat, iZip_sat, iEnum_sat, iStr_sat, asg_nm, asg_tp, asgs_cons, asgs_nil, wipe_nil, wipe_cons, items_tup, items_lst, items_kls, held_tup, held_lst, held_kls, still_nil, truth_bl, truth_tup, truth_lst, truth_kls, truth_int, truth_non, gAdd_int, gSub_int, gLt_int, gLe_int, gGt_int, gGe_int, gAdd_tup, gAdd_lst, gIsN_non, gNotN_non, bLen_tup, bLen_lst, bLen_kls, bTuple_lst, bTuple_tup, litems_lst, sat_ok, List.map_cons, List.map_nil, List.cons_append, List.nil_append, List.length_cons, List.length_nil, List.replicate, List.getElem?_cons_zero, List.getElem?_cons_succ, List.set_cons_zero, List.set_cons_succ, List.isEmpty_cons, List.isEmpty_nil, Nat.reduceSub, Nat.reduceAdd, Nat.zero_add, line0, line1, line2, line3, line4, line5, line6, line7, line8, true_and, and_true, if_true, if_false, Bool.false_eq_true, Bool.not_true, Bool.not_false, reduceCtorEq]
      refine put_sat ks.nodup (by omega) (fun out S' h hS => ?_) fun S' h hS => ?_
      · rw [p1] at h
        cases h
        exact hQ S' hS
      · rw [p1] at h
        cases h
    refine puts_loop ks (by omega) p2 p3 fun _ _ _ _ => ?_
    exact q _ _ _ _ _ _ _ _ _ _ _ _ _ _ _ _ _ ((h11.ext (e12.trans (e13.trans (e14.trans e15)))).mono (by omega))
  simp only [sSeq_sat, sExpr_sat, sSet_sat, sIf_sat, sRet_sat, sNil_sat, sAsg_sat, sPar_sat, sPar3_sat, sSub_sat, sTry_sat, sRaise_sat, sBreak_sat, sCont_sat, sFld_sat, tryH_nil, tryH_cons, eML_sat, eMD_sat, eVar_sat, eC_sat, eB_sat, eBin_sat, eUn_sat, eCall_sat, eTup_sat, eLst_sat, eLstM_sat, eDNew_sat, eIf_sat, eAnd_sat, eOr_sat, eNot_sat, eT_sat, eSl_sat, oNone_sat, oSome_sat, eFld_sat, eMake_sat, eMeth_sat, eRgL1_sat, eRgL2_sat, eChain_sat, aCons_sat, aNil_sat, tTru_sat, tNot_sat, tAnd_sat, tOr_sat, tYes_sat, tCmp_sat, tVal_sat, iSeq_sat, iRng1_sat, iRng2_sat, iZip_sat, iEnum_sat, iStr_sat, asg_nm, asg_tp, asgs_cons, asgs_nil, wipe_nil, wipe_cons, items_tup, items_lst, items_kls, held_tup, held_lst, held_kls, still_nil, truth_bl, truth_tup, truth_lst, truth_kls, truth_int, truth_non, gAdd_int, gSub_int, gLt_int, gLe_int, gGt_int, gGe_int, gAdd_tup, gAdd_lst, gIsN_non, gNotN_non, bLen_tup, bLen_lst, bLen_kls, bTuple_lst, bTuple_tup, litems_lst, sat_ok, List.map_cons, List.map_nil, List.cons_append, List.nil_append, List.length_cons, List.length_nil, List.replicate, List.getElem?_cons_zero, List.getElem?_cons_succ, List.set_cons_zero, List.set_cons_succ, List.isEmpty_cons, List.isEmpty_nil, Nat.reduceSub, Nat.reduceAdd, Nat.zero_add, line0, line1, line2, line3, line4, line5, line6, line7, line8, true_and, and_true, if_true, if_false, Bool.false_eq_true, Bool.not_true, Bool.not_false, reduceCtorEq] at rest
  cases ho : stP rows with
  | none =>
    rw [ho] at rest
    simp only [sSeq_sat, sExpr_sat, sSet_sat, sIf_sat, sRet_sat, sNil_sat, sAsg_sat, sPar_sat, sPar3_sat, sSub_sat, sTry_sat, sRaise_sat, sBreak_sat, sCont_sat, sFld_sat, tryH_nil, tryH_cons, eML_sat, eMD_sat, eVar_sat, eC_sat, eB_sat, eBin_sat, eUn_sat, eCall_sat, eTup_sat, eLst_sat, eLstM_sat, eDNew_sat, eIf_sat, eAnd_sat, eOr_sat, eNot_sat, eT_sat, eSl_sat, oNone_sat, oSome_sat, eFld_sat, eMake_sat, eMeth_sat, eRgL1_sat, eRgL2_sat, eChain_sat, aCons_sat, aNil_sat, tTru_sat, tNot_sat, tAnd_sat, tOr_sat, tYes_sat, tCmp_sat, tVal_sat, iSeq_sat, iRng1_sat, iRng2_sat, iZip_sat, iEnum_sat, iStr_sat, asg_nm, asg_tp, asgs_cons, asgs_nil, wipe_nil, wipe_cons, items_tup, items_lst, items_kls, held_tup, held_lst, held_kls, still_nil, truth_bl, truth_tup, truth_lst, truth_kls, truth_int, truth_non, gAdd_int, gSub_int, gLt_int, gLe_int, gGt_int, gGe_int, gAdd_tup, gAdd_lst, gIsN_non, gNotN_non, bLen_tup, bLen_lst, bLen_kls, bTuple_lst, bTuple_tup, litems_lst, sat_ok, List.map_cons, List.map_nil, List.cons_append, List.nil_append, List.length_cons, List.length_nil, List.replicate, List.getElem?_cons_zero, List.getElem?_cons_succ, List.set_cons_zero, List.set_cons_succ, List.isEmpty_cons, List.isEmpty_nil, Nat.reduceSub, Nat.reduceAdd, Nat.zero_add, line0, line1, line2, line3, line4, line5, line6, line7, line8, true_and, and_true, if_true, if_false, Bool.false_eq_true, Bool.not_true, Bool.not_false, reduceCtorEq, ordD, D.isN] at rest
    try simp only [sSeq_sat, sExpr_sat, sSet_sat, sIf_sat, sRet_sat, sNil_sat, sAsg_sat, sPar_sat, sPar3_sat, sSub_sat, sTry_sat, sRaise_sat, sBreak_sat, sCont_sat, sFld_sat, tryH_nil, tryH_cons, eML_sat, eMD_sat, eVar_sat, eC_sat, eB_sat, eBin_sat, eUn_sat, eCall_sat, eTup_sat, eLst_sat, eLstM_sat, eDNew_sat, eIf_sat, eAnd_sat, eOr_sat, eNot_sat, eT_sat, eSl_sat, oNone_sat, oSome_sat, eFld_sat, eMake_sat, eMeth_sat, eRgL1_sat, eRgL2_sat, eChain_sat, aCons_sat, aNil_sat, tTru_sat, tNot_sat, tAnd_sat, tOr_sat, tYes_sat, tCmp_sat, tVal_sat, iSeq_sat, iRng1_sat, iRng2_sat, iZip_sat, iEnum_sat, iStr_sat, asg_nm, asg_tp, asgs_cons, asgs_nil, wipe_nil, wipe_cons, items_tup, items_lst, items_kls, held_tup, held_lst, held_kls, still_nil, truth_bl, truth_tup, truth_lst, truth_kls, truth_int, truth_non, gAdd_int, gSub_int, gLt_int, gLe_int, gGt_int, gGe_int, gAdd_tup, gAdd_lst, gIsN_non, gNotN_non, bLen_tup, bLen_lst, bLen_kls, bTuple_lst, bTuple_tup, litems_lst, sat_ok, List.map_cons, List.map_nil, List.cons_append, List.nil_append, List.length_cons, List.length_nil, List.replicate, List.getElem?_cons_zero, List.getElem?_cons_succ, List.set_cons_zero, List.set_cons_succ, List.isEmpty_cons, List.isEmpty_nil, Nat.reduceSub, Nat.reduceAdd, Nat.zero_add, line0, line1, line2, line3, line4, line5, line6, line7, line8, true_and, and_true, if_true, if_false, Bool.false_eq_true, Bool.not_true, Bool.not_false, reduceCtorEq, ordD, D.isN]
    exact rest S5 hT5
  | some out =>
    rw [ho] at rest
    obtain ⟨l1, l2⟩ := strike_lens _ ho
    simp only [sSeq_sat, sExpr_sat, sSet_sat, sIf_sat, sRet_sat, sNil_sat, sAsg_sat, sPar_sat, sPar3_sat, sSub_sat, sTry_sat, sRaise_sat, sBreak_sat, sCont_sat, sFld_sat, tryH_nil, tryH_cons, eML_sat, eMD_sat, eVar_sat, eC_sat, eB_sat, eBin_sat, eUn_sat, eCall_sat, eTup_sat, eLst_sat, eLstM_sat, eDNew_sat, eIf_sat, eAnd_sat, eOr_sat, eNot_sat, eT_sat, eSl_sat, oNone_sat, oSome_sat, eFld_sat, eMake_sat, eMeth_sat, eRgL1_sat, eRgL2_sat, eChain_sat, aCons_sat, aNil_sat, tTru_sat, tNot_sat, tAnd_sat, tOr_sat, tYes_sat, tCmp_sat, tVal_sat, iSeq_sat, iRng1_sat, iRng2_sat, iZip_sat, iEnum_sat, iStr_sat, asg_nm, asg_tp, asgs_cons, asgs_nil, wipe_nil, wipe_cons, items_tup, items_lst, items_kls, held_tup, held_lst, held_kls, still_nil, truth_bl, truth_tup, truth_lst, truth_kls, truth_int, truth_non, gAdd_int, gSub_int, gLt_int, gLe_int, gGt_int, gGe_int, gAdd_tup, gAdd_lst, gIsN_non, gNotN_non, bLen_tup, bLen_lst, bLen_kls, bTuple_lst, bTuple_tup, litems_lst, sat_ok, List.map_cons, List.map_nil, List.cons_append, List.nil_append, List.length_cons, List.length_nil, List.replicate, List.getElem?_cons_zero, List.getElem?_cons_succ, List.set_cons_zero, List.set_cons_succ, List.isEmpty_cons, List.isEmpty_nil, Nat.reduceSub, Nat.reduceAdd, Nat.zero_add, line0, line1, line2, line3, line4, line5, line6, line7, line8, true_and, and_true, if_true, if_false, Bool.false_eq_true, Bool.not_true, Bool.not_false, reduceCtorEq, ordD, D.isN] at rest
    try simp only [sSeq_sat, sExpr_sat, sSet_sat, sIf_sat, sRet_sat, sNil_sat, sAsg_sat, sPar_sat, sPar3_sat, sSub_sat, sTry_sat, sRaise_sat, sBreak_sat, sCont_sat, sFld_sat, tryH_nil, tryH_cons, eML_sat, eMD_sat, eVar_sat, eC_sat, eB_sat, eBin_sat, eUn_sat, eCall_sat, eTup_sat, eLst_sat, eLstM_sat, eDNew_sat, eIf_sat, eAnd_sat, eOr_sat, eNot_sat, eT_sat, eSl_sat, oNone_sat, oSome_sat, eFld_sat, eMake_sat, eMeth_sat, eRgL1_sat, eRgL2_sat, eChain_sat, aCons_sat, aNil_sat, tTru_sat, tNot_sat, tAnd_sat, tOr_sat, tYes_sat, tCmp_sat, tVal_sat, iSeq_sat, iRng1_sat, iRng2_sat, iZip_sat, iEnum_sat, iStr_sat, asg_nm, asg_tp, asgs_cons, asgs_nil, wipe_nil, wipe_cons, items_tup, items_lst, items_kls, held_tup, held_lst, held_kls, still_nil, truth_bl, truth_tup, truth_lst, truth_kls, truth_int, truth_non, gAdd_int, gSub_int, gLt_int, gLe_int, gGt_int, gGe_int, gAdd_tup, gAdd_lst, gIsN_non, gNotN_non, bLen_tup, bLen_lst, bLen_kls, bTuple_lst, bTuple_tup, litems_lst, sat_ok, List.map_cons, List.map_nil, List.cons_append, List.nil_append, List.length_cons, List.length_nil, List.replicate, List.getElem?_cons_zero, List.getElem?_cons_succ, List.set_cons_zero, List.set_cons_succ, List.isEmpty_cons, List.isEmpty_nil, Nat.reduceSub, Nat.reduceAdd, Nat.zero_add, line0, line1, line2, line3, line4, line5, line6, line7, line8, true_and, and_true, if_true, if_false, Bool.false_eq_true, Bool.not_true, Bool.not_false, reduceCtorEq, ordD, D.isN]
    refine told_holds_sat k.nodup (by omega) ho (by omega) (fun p hp => by have := l2 p hp; omega) fun S6 e6 => ?_
    try simp only [sSeq_sat, sExpr_sat, sSet_sat, sIf_sat, sRet_sat, sNil_sat, sAsg_sat, sPar_sat, sPar3_sat, sSub_sat, sTry_sat, sRaise_sat, sBreak_sat, sCont_sat, sFld_sat, tryH_nil, tryH_cons, eML_sat, eMD_sat, eVar_sat, eC_sat, eB_sat, eBin_sat, eUn_sat, eCall_sat, eTup_sat, eLst_sat, eLstM_sat, eDNew_sat, eIf_sat, eAnd_sat, eOr_sat, eNot_sat, eT_sat, eSl_sat, oNone_sat, oSome_sat, eFld_sat, eMake_sat, eMeth_sat, eRgL1_sat, eRgL2_sat, eChain_sat, aCons_sat, aNil_sat, tTru_sat, tNot_sat, tAnd_sat, tOr_sat, tYes_sat, tCmp_sat, tVal_sat, iSeq_sat, iRng1_sat, iRng2_sat, iZip_sat, iEnum_sat, iStr_sat, asg_nm, asg_tp, asgs_cons, asgs_nil, wipe_nil, wipe_cons, items_tup, items_lst, items_kls, held_tup, held_lst, held_kls, still_nil, truth_bl, truth_tup, truth_lst, truth_kls, truth_int, truth_non, gAdd_int, gSub_int, gLt_int, gLe_int, gGt_int, gGe_int, gAdd_tup, gAdd_lst, gIsN_non, gNotN_non, bLen_tup, bLen_lst, bLen_kls, bTuple_lst, bTuple_tup, litems_lst, sat_ok, List.map_cons, List.map_nil, List.cons_append, List.nil_append, List.length_cons, List.length_nil, List.replicate, List.getElem?_cons_zero, List.getElem?_cons_succ, List.set_cons_zero, List.set_cons_succ, List.isEmpty_cons, List.isEmpty_nil, Nat.reduceSub, Nat.reduceAdd, Nat.zero_add, line0, line1, line2, line3, line4, line5, line6, line7, line8, true_and, and_true, if_true, if_false, Bool.false_eq_true, Bool.not_true, Bool.not_false, reduceCtorEq]
    cases out with
    | nil =>
      try simp only [sSeq_sat, sExpr_sat, sSet_sat, sIf_sat, sRet_sat, sNil_sat, sAsg_sat, sPar_sat, sPar3_sat, sSub_sat, sTry_sat, sRaise_sat, sBreak_sat, sCont_sat, sFld_sat, tryH_nil, tryH_cons, eML_sat, eMD_sat, eVar_sat, eC_sat, eB_sat, eBin_sat, eUn_sat, eCall_sat, eTup_sat, eLst_sat, eLstM_sat, eDNew_sat, eIf_sat, eAnd_sat, eOr_sat, eNot_sat, eT_sat, eSl_sat, oNone_sat, oSome_sat, eFld_sat, eMake_sat, eMeth_sat, eRgL1_sat, eRgL2_sat, eChain_sat, aCons_sat, aNil_sat, tTru_sat, tNot_sat, tAnd_sat, tOr_sat, tYes_sat, tCmp_sat, tVal_sat, iSeq_sat, iRng1_sat, iRng2_sat, iZip_sat, iEnum_sat, iStr_sat, asg_nm, asg_tp, asgs_cons, asgs_nil, wipe_nil, wipe_cons, items_tup, items_lst, items_kls, held_tup, held_lst, held_kls, still_nil, truth_bl, truth_tup, truth_lst, truth_kls, truth_int, truth_non, gAdd_int, gSub_int, gLt_int, gLe_int, gGt_int, gGe_int, gAdd_tup, gAdd_lst, gIsN_non, gNotN_non, bLen_tup, bLen_lst, bLen_kls, bTuple_lst, bTuple_tup, litems_lst, sat_ok, List.map_cons, List.map_nil, List.cons_append, List.nil_append, List.length_cons, List.length_nil, List.replicate, List.getElem?_cons_zero, List.getElem?_cons_succ, List.set_cons_zero, List.set_cons_succ, List.isEmpty_cons, List.isEmpty_nil, Nat.reduceSub, Nat.reduceAdd, Nat.zero_add, line0, line1, line2, line3, line4, line5, line6, line7, line8, true_and, and_true, if_true, if_false, Bool.false_eq_true, Bool.not_true, Bool.not_false, reduceCtorEq]
      exact rest S6 (hT5.ext e6)
    | cons p out =>
      obtain ⟨n, l⟩ := p
      obtain ⟨s1, s2, s3, s4⟩ := strike_step k.nodup ho
      have s4 : stP (without rows n) = some out := s4
      try simp only [sSeq_sat, sExpr_sat, sSet_sat, sIf_sat, sRet_sat, sNil_sat, sAsg_sat, sPar_sat, sPar3_sat, sSub_sat, sTry_sat, sRaise_sat, sBreak_sat, sCont_sat, sFld_sat, tryH_nil, tryH_cons, eML_sat, eMD_sat, eVar_sat, eC_sat, eB_sat, eBin_sat, eUn_sat, eCall_sat, eTup_sat, eLst_sat, eLstM_sat, eDNew_sat, eIf_sat, eAnd_sat, eOr_sat, eNot_sat, eT_sat, eSl_sat, oNone_sat, oSome_sat, eFld_sat, eMake_sat, eMeth_sat, eRgL1_sat, eRgL2_sat, eChain_sat, aCons_sat, aNil_sat, tTru_sat, tNot_sat, tAnd_sat, tOr_sat, tYes_sat, tCmp_sat, tVal_sat, iSeq_sat, iRng1_sat, iRng2_sat, iZip_sat, iEnum_sat, iStr_sat, asg_nm, asg_tp, asgs_cons, asgs_nil, wipe_nil, wipe_cons, items_tup, items_lst, items_kls, held_tup, held_lst, held_kls, still_nil, truth_bl, truth_tup, truth_lst, truth_kls, truth_int, truth_non, gAdd_int, gSub_int, gLt_int, gLe_int, gGt_int, gGe_int, gAdd_tup, gAdd_lst, gIsN_non, gNotN_non, bLen_tup, bLen_lst, bLen_kls, bTuple_lst, bTuple_tup, litems_lst, sat_ok, List.map_cons, List.map_nil, List.cons_append, List.nil_append, List.length_cons, List.length_nil, List.replicate, List.getElem?_cons_zero, List.getElem?_cons_succ, List.set_cons_zero, List.set_cons_succ, List.isEmpty_cons, List.isEmpty_nil, Nat.reduceSub, Nat.reduceAdd, Nat.zero_add, line0, line1, line2, line3, line4, line5, line6, line7, line8, true_and, and_true, if_true, if_false, Bool.false_eq_true, Bool.not_true, Bool.not_false, reduceCtorEq, eOut, ixt0]
      refine bare_sat (by omega) k.ties64 fun S7 e7 => ?_
      have bk : keysOf (bareR n rows) = keysOf (without rows n) := (bare_alike (rows := rows) (n := n)).1.symm
      have bl : (bareR n rows).length = (without rows n).length := by unfold bareR; rw [List.length_map]
      have wl := List.Sublist.length_le (without_sub rows n)
      refine ord_sat (by rw [bk]; exact nodup_without k.nodup) (by omega) (fun r hr => ?_) fun S8 e8 => ?_
      · unfold bareR at hr
        obtain ⟨r0, hr0, rfl⟩ := List.mem_map.mp hr
        exact Nat.lt_of_le_of_lt (List.length_filter_le ..) (k.ties64 r0 (mem_without.mp hr0).1)
      have eb : stP (bareR n rows) = some out := by
        unfold stP
        rw [bl, ← bare_alike.strike]
        exact s4
      rw [eb]
      try simp only [sSeq_sat, sExpr_sat, sSet_sat, sIf_sat, sRet_sat, sNil_sat, sAsg_sat, sPar_sat, sPar3_sat, sSub_sat, sTry_sat, sRaise_sat, sBreak_sat, sCont_sat, sFld_sat, tryH_nil, tryH_cons, eML_sat, eMD_sat, eVar_sat, eC_sat, eB_sat, eBin_sat, eUn_sat, eCall_sat, eTup_sat, eLst_sat, eLstM_sat, eDNew_sat, eIf_sat, eAnd_sat, eOr_sat, eNot_sat, eT_sat, eSl_sat, oNone_sat, oSome_sat, eFld_sat, eMake_sat, eMeth_sat, eRgL1_sat, eRgL2_sat, eChain_sat, aCons_sat, aNil_sat, tTru_sat, tNot_sat, tAnd_sat, tOr_sat, tYes_sat, tCmp_sat, tVal_sat, iSeq_sat, iRng1_sat, iRng2_sat, iZip_sat, iEnum_sat, iStr_sat, asg_nm, asg_tp, asgs_cons, asgs_nil, wipe_nil, wipe_cons, items_tup, items_lst, items_kls, held_tup, held_lst, held_kls, still_nil, truth_bl, truth_tup, truth_lst, truth_kls, truth_int, truth_non, gAdd_int, gSub_int, gLt_int, gLe_int, gGt_int, gGe_int, gAdd_tup, gAdd_lst, gIsN_non, gNotN_non, bLen_tup, bLen_lst, bLen_kls, bTuple_lst, bTuple_tup, litems_lst, sat_ok, List.map_cons, List.map_nil, List.cons_append, List.nil_append, List.length_cons, List.length_nil, List.replicate, List.getElem?_cons_zero, List.getElem?_cons_succ, List.set_cons_zero, List.set_cons_succ, List.isEmpty_cons, List.isEmpty_nil, Nat.reduceSub, Nat.reduceAdd, Nat.zero_add, line0, line1, line2, line3, line4, line5, line6, line7, line8, true_and, and_true, if_true, if_false, Bool.false_eq_true, Bool.not_true, Bool.not_false, reduceCtorEq, gSl, tail_cut]
      have := ordD_plain (some out)
      have hd := ordD_dep (some out)
      simp only [ordD] at this hd ⊢
      rw [ne_self this hd]
      try simp only [sSeq_sat, sExpr_sat, sSet_sat, sIf_sat, sRet_sat, sNil_sat, sAsg_sat, sPar_sat, sPar3_sat, sSub_sat, sTry_sat, sRaise_sat, sBreak_sat, sCont_sat, sFld_sat, tryH_nil, tryH_cons, eML_sat, eMD_sat, eVar_sat, eC_sat, eB_sat, eBin_sat, eUn_sat, eCall_sat, eTup_sat, eLst_sat, eLstM_sat, eDNew_sat, eIf_sat, eAnd_sat, eOr_sat, eNot_sat, eT_sat, eSl_sat, oNone_sat, oSome_sat, eFld_sat, eMake_sat, eMeth_sat, eRgL1_sat, eRgL2_sat, eChain_sat, aCons_sat, aNil_sat, tTru_sat, tNot_sat, tAnd_sat, tOr_sat, tYes_sat, tCmp_sat, tVal_sat, iSeq_sat, iRng1_sat, iRng2_sat, iZip_sat, iEnum_sat, iStr_sat, asg_nm, asg_tp, asgs_cons, asgs_nil, wipe_nil, wipe_cons, items_tup, items_lst, items_kls, held_tup, held_lst, held_kls, still_nil, truth_bl, truth_tup, truth_lst, truth_kls, truth_int, truth_non, gAdd_int, gSub_int, gLt_int, gLe_int, gGt_int, gGe_int, gAdd_tup, gAdd_lst, gIsN_non, gNotN_non, bLen_tup, bLen_lst, bLen_kls, bTuple_lst, bTuple_tup, litems_lst, sat_ok, List.map_cons, List.map_nil, List.cons_append, List.nil_append, List.length_cons, List.length_nil, List.replicate, List.getElem?_cons_zero, List.getElem?_cons_succ, List.set_cons_zero, List.set_cons_succ, List.isEmpty_cons, List.isEmpty_nil, Nat.reduceSub, Nat.reduceAdd, Nat.zero_add, line0, line1, line2, line3, line4, line5, line6, line7, line8, true_and, and_true, if_true, if_false, Bool.false_eq_true, Bool.not_true, Bool.not_false, reduceCtorEq]
      have rr := rest S8 (hT5.ext (e6.trans (e7.trans e8)))
      try simp only [sSeq_sat, sExpr_sat, sSet_sat, sIf_sat, sRet_sat, sNil_sat, sAsg_sat, sPar_sat, sPar3_sat, sSub_sat, sTry_sat, sRaise_sat, sBreak_sat, sCont_sat, sFld_sat, tryH_nil, tryH_cons, eML_sat, eMD_sat, eVar_sat, eC_sat, eB_sat, eBin_sat, eUn_sat, eCall_sat, eTup_sat, eLst_sat, eLstM_sat, eDNew_sat, eIf_sat, eAnd_sat, eOr_sat, eNot_sat, eT_sat, eSl_sat, oNone_sat, oSome_sat, eFld_sat, eMake_sat, eMeth_sat, eRgL1_sat, eRgL2_sat, eChain_sat, aCons_sat, aNil_sat, tTru_sat, tNot_sat, tAnd_sat, tOr_sat, tYes_sat, tCmp_sat, tVal_sat, iSeq_sat, iRng1_sat, iRng2_sat, iZip_sat, iEnum_sat, iStr_sat, asg_nm, asg_tp, asgs_cons, asgs_nil, wipe_nil, wipe_cons, items_tup, items_lst, items_kls, held_tup, held_lst, held_kls, still_nil, truth_bl, truth_tup, truth_lst, truth_kls, truth_int, truth_non, gAdd_int, gSub_int, gLt_int, gLe_int, gGt_int, gGe_int, gAdd_tup, gAdd_lst, gIsN_non, gNotN_non, bLen_tup, bLen_lst, bLen_kls, bTuple_lst, bTuple_tup, litems_lst, sat_ok, List.map_cons, List.map_nil, List.cons_append, List.nil_append, List.length_cons, List.length_nil, List.replicate, List.getElem?_cons_zero, List.getElem?_cons_succ, List.set_cons_zero, List.set_cons_succ, List.isEmpty_cons, List.isEmpty_nil, Nat.reduceSub, Nat.reduceAdd, Nat.zero_add, line0, line1, line2, line3, line4, line5, line6, line7, line8, true_and, and_true, if_true, if_false, Bool.false_eq_true, Bool.not_true, Bool.not_false, reduceCtorEq, eOut] at rr
      exact rr
end
theorem law_good : ∀ ns : List Int, ns.length ≤ 63 → ∃ S, m_law [.kls (ns.map .int)] [] = .ok (.bl true) S := by
  intro ns _
  have main : (m_law [.kls (ns.map .int)] []).sat (fun d _ => d = .bl true) (fun _ _ => False) := by
    unfold m_law
    refine run_sat ?_
    unfold b_law
    simp only [sSeq_sat, sExpr_sat, sSet_sat, sIf_sat, sRet_sat, sNil_sat, sAsg_sat, sPar_sat, sPar3_sat, sSub_sat, sTry_sat, sRaise_sat, sBreak_sat, sCont_sat, sFld_sat, tryH_nil, tryH_cons, eML_sat, eMD_sat, eVar_sat, eC_sat, eB_sat, eBin_sat, eUn_sat, eCall_sat, eTup_sat, eLst_sat, eLstM_sat, eDNew_sat, eIf_sat, eAnd_sat, eOr_sat, eNot_sat, eT_sat, eSl_sat, oNone_sat, oSome_sat, eFld_sat, eMake_sat, eMeth_sat, eRgL1_sat, eRgL2_sat, eChain_sat, aCons_sat, aNil_sat, tTru_sat, tNot_sat, tAnd_sat, tOr_sat, tYes_sat, tCmp_sat, tVal_sat, iSeq_sat, iRng1_sat, iRng2_sat, iZip_sat, iEnum_sat, iStr_sat, asg_nm, asg_tp, asgs_cons, asgs_nil, wipe_nil, wipe_cons, items_tup, items_lst, items_kls, held_tup, held_lst, held_kls, still_nil, truth_bl, truth_tup, truth_lst, truth_kls, truth_int, truth_non, gAdd_int, gSub_int, gLt_int, gLe_int, gGt_int, gGe_int, gAdd_tup, gAdd_lst, gIsN_non, gNotN_non, bLen_tup, bLen_lst, bLen_kls, bTuple_lst, bTuple_tup, litems_lst, sat_ok, List.map_cons, List.map_nil, List.cons_append, List.nil_append, List.length_cons, List.length_nil, List.replicate, List.getElem?_cons_zero, List.getElem?_cons_succ, List.set_cons_zero, List.set_cons_succ, List.isEmpty_cons, List.isEmpty_nil, Nat.reduceSub, Nat.reduceAdd, Nat.zero_add, line0, line1, line2, line3, line4, line5, line6, line7, line8, true_and, and_true, if_true, if_false, Bool.false_eq_true, Bool.not_true, Bool.not_false, reduceCtorEq]
    refine for_of_list (upI 12) D.int (S0 := [O.lst []]) ?_ (fun i ρ S => i ≤ 12 ∧ ∃ x2 x3 x4 x5 x6 x7 x8 x9 x10 x11 x12 x13 x14 x15 x16 x17, ρ = [some (.kls (ns.map .int)), some (.ref 0), x2, x3, x4, x5, x6, x7, x8, x9, x10, x11, x12, x13, x14, x15, x16, x17] ∧ Tn (1000 * i) S)
      ⟨by omega, none, none, none, none, none, none, none, none, none, none, none, none, none, none, none, none, rfl, [], rfl, Nat.le_refl _⟩ ?_ ?_
    · simp only [sSeq_sat, sExpr_sat, sSet_sat, sIf_sat, sRet_sat, sNil_sat, sAsg_sat, sPar_sat, sPar3_sat, sSub_sat, sTry_sat, sRaise_sat, sBreak_sat, sCont_sat, sFld_sat, tryH_nil, tryH_cons, eML_sat, eMD_sat, eVar_sat, eC_sat, eB_sat, eBin_sat, eUn_sat, eCall_sat, eTup_sat, eLst_sat, eLstM_sat, eDNew_sat, eIf_sat, eAnd_sat, eOr_sat, eNot_sat, eT_sat, eSl_sat, oNone_sat, oSome_sat, eFld_sat, eMake_sat, eMeth_sat, eRgL1_sat, eRgL2_sat, eChain_sat, aCons_sat, aNil_sat, tTru_sat, tNot_sat, tAnd_sat, tOr_sat, tYes_sat, tCmp_sat, tVal_sat, iSeq_sat, iRng1_sat, iRng2_sat, iZip_sat, iEnum_sat, iStr_sat, asg_nm, asg_tp, asgs_cons, asgs_nil, wipe_nil, wipe_cons, items_tup, items_lst, items_kls, held_tup, held_lst, held_kls, still_nil, truth_bl, truth_tup, truth_lst, truth_kls, truth_int, truth_non, gAdd_int, gSub_int, gLt_int, gLe_int, gGt_int, gGe_int, gAdd_tup, gAdd_lst, gIsN_non, gNotN_non, bLen_tup, bLen_lst, bLen_kls, bTuple_lst, bTuple_tup, litems_lst, sat_ok, List.map_cons, List.map_nil, List.cons_append, List.nil_append, List.length_cons, List.length_nil, List.replicate, List.getElem?_cons_zero, List.getElem?_cons_succ, List.set_cons_zero, List.set_cons_succ, List.isEmpty_cons, List.isEmpty_nil, Nat.reduceSub, Nat.reduceAdd, Nat.zero_add, line0, line1, line2, line3, line4, line5, line6, line7, line8, true_and, and_true, if_true, if_false, Bool.false_eq_true, Bool.not_true, Bool.not_false, reduceCtorEq]
      exact ⟨⟨by decide, by decide⟩, by rw [← upto_upI]; rfl⟩
    · rintro i d ρ S hd hi ⟨hi2, x2, x3, x4, x5, x6, x7, x8, x9, x10, x11, x12, x13, x14, x15, x16, x17, rfl, hT⟩
      have hi : i < 12 := by rwa [upI_length] at hi
      refine ⟨_, asg_nm (S := S), ?_⟩
      try simp only [sSeq_sat, sExpr_sat, sSet_sat, sIf_sat, sRet_sat, sNil_sat, sAsg_sat, sPar_sat, sPar3_sat, sSub_sat, sTry_sat, sRaise_sat, sBreak_sat, sCont_sat, sFld_sat, tryH_nil, tryH_cons, eML_sat, eMD_sat, eVar_sat, eC_sat, eB_sat, eBin_sat, eUn_sat, eCall_sat, eTup_sat, eLst_sat, eLstM_sat, eDNew_sat, eIf_sat, eAnd_sat, eOr_sat, eNot_sat, eT_sat, eSl_sat, oNone_sat, oSome_sat, eFld_sat, eMake_sat, eMeth_sat, eRgL1_sat, eRgL2_sat, eChain_sat, aCons_sat, aNil_sat, tTru_sat, tNot_sat, tAnd_sat, tOr_sat, tYes_sat, tCmp_sat, tVal_sat, iSeq_sat, iRng1_sat, iRng2_sat, iZip_sat, iEnum_sat, iStr_sat, asg_nm, asg_tp, asgs_cons, asgs_nil, wipe_nil, wipe_cons, items_tup, items_lst, items_kls, held_tup, held_lst, held_kls, still_nil, truth_bl, truth_tup, truth_lst, truth_kls, truth_int, truth_non, gAdd_int, gSub_int, gLt_int, gLe_int, gGt_int, gGe_int, gAdd_tup, gAdd_lst, gIsN_non, gNotN_non, bLen_tup, bLen_lst, bLen_kls, bTuple_lst, bTuple_tup, litems_lst, sat_ok, List.map_cons, List.map_nil, List.cons_append, List.nil_append, List.length_cons, List.length_nil, List.replicate, List.getElem?_cons_zero, List.getElem?_cons_succ, List.set_cons_zero, List.set_cons_succ, List.isEmpty_cons, List.isEmpty_nil, Nat.reduceSub, Nat.reduceAdd, Nat.zero_add, line0, line1, line2, line3, line4, line5, line6, line7, line8, true_and, and_true, if_true, if_false, Bool.false_eq_true, Bool.not_true, Bool.not_false, reduceCtorEq]
      refine body_sat hT (by show _ < 16777216; omega) fun S' x2 x3 x4 x5 x6 x7 x8 x9 x10 x11 x12 x13 x14 x15 x16 x17 h' => ?_
      exact ⟨by omega, _, _, _, _, _, _, _, _, _, _, _, _, _, _, _, _, rfl, h'.mono (by omega)⟩
    · rintro ρ S ⟨hi2, x2, x3, x4, x5, x6, x7, x8, x9, x10, x11, x12, x13, x14, x15, x16, x17, rfl, hT⟩
      try simp only [sSeq_sat, sExpr_sat, sSet_sat, sIf_sat, sRet_sat, sNil_sat, sAsg_sat, sPar_sat, sPar3_sat, sSub_sat, sTry_sat, sRaise_sat, sBreak_sat, sCont_sat, sFld_sat, tryH_nil, tryH_cons, eML_sat, eMD_sat, eVar_sat, eC_sat, eB_sat, eBin_sat, eUn_sat, eCall_sat, eTup_sat, eLst_sat, eLstM_sat, eDNew_sat, eIf_sat, eAnd_sat, eOr_sat, eNot_sat, eT_sat, eSl_sat, oNone_sat, oSome_sat, eFld_sat, eMake_sat, eMeth_sat, eRgL1_sat, eRgL2_sat, eChain_sat, aCons_sat, aNil_sat, tTru_sat, tNot_sat, tAnd_sat, tOr_sat, tYes_sat, tCmp_sat, tVal_sat, iSeq_sat, iRng1_sat, iRng2_sat, iZip_sat, iEnum_sat, iStr_sat, asg_nm, asg_tp, asgs_cons, asgs_nil, wipe_nil, wipe_cons, items_tup, items_lst, items_kls, held_tup, held_lst, held_kls, still_nil, truth_bl, truth_tup, truth_lst, truth_kls, truth_int, truth_non, gAdd_int, gSub_int, gLt_int, gLe_int, gGt_int, gGe_int, gAdd_tup, gAdd_lst, gIsN_non, gNotN_non, bLen_tup, bLen_lst, bLen_kls, bTuple_lst, bTuple_tup, litems_lst, sat_ok, List.map_cons, List.map_nil, List.cons_append, List.nil_append, List.length_cons, List.length_nil, List.replicate, List.getElem?_cons_zero, List.getElem?_cons_succ, List.set_cons_zero, List.set_cons_succ, List.isEmpty_cons, List.isEmpty_nil, Nat.reduceSub, Nat.reduceAdd, Nat.zero_add, line0, line1, line2, line3, line4, line5, line6, line7, line8, true_and, and_true, if_true, if_false, Bool.false_eq_true, Bool.not_true, Bool.not_false, reduceCtorEq]
  cases e : m_law [.kls (ns.map .int)] [] with
  | ok d S => rw [e] at main; exact ⟨S, by rw [show d = D.bl true from main]⟩
  | ex c S => rw [e] at main; exact main.elim
  | bad => rw [e] at main; exact main.elim
end Mp

namespace Mp
open PySem PySem.Spec PyProof.Rows L2
/-! ### the text by places -/
def top (i : Nat) : Stmt := PySem.Challenge.pw_rowkeep_k17_whole_strikes_led_on.main.body.getD i (.Pass ⟨0, 0, 0, 0⟩)
/-- the built-ins are not bound anew -/
structure Bi (mg : Str → Option Value) : Prop where
  b_range : mg "range" = none
  b_tuple : mg "tuple" = none
  b_any : mg "any" = none
  b_list : mg "list" = none
  b_len : mg "len" = none
  b_dict : mg "dict" = none
  b_sorted : mg "sorted" = none
/-- the classes of exceptions -/
structure Xs (K : PySem.W.Frag) (mg : Str → Option Value) (xc : Nat → Addr) : Prop where
  e_Ring : ExcAt K mg "Ring" (xc 1)
  g_Ring : mg "Ring" = some (.ref (xc 1))
  y_Ring : ∀ e ∈ ([1] : List Nat), PySem.W.exmOne K (.ref (xc e)) (.ref (xc 1)) = some true
  n_Ring : ∀ e ∈ ([0] : List Nat), PySem.W.exmOne K (.ref (xc e)) (.ref (xc 1)) = some false
/-! ### its derivation -/
section
variable {P : Program} {w : World} {mg : Str → Option Value} {base : Heap} {Γ : Gam}
abbrev NN_law_draw : List Str := ["_law_script", "_law_town", "_law_many", "_law_k", "_law_cell", "_law_number", "_law_more"]
theorem sc_law_draw : FnScope ["_law_script", "_law_town", "_law_many", "_law_k", "_law_cell", "_law_number", "_law_more"] ["_law_script", "_law_town", "_law_many"] (defScope (top 9)) := ⟨rfl, rfl, rfl, by decide +kernel, rfl, by decide +kernel, by decide +kernel⟩
theorem at_law_draw (D : DefAt Γ.K mg "_law_draw" (top 9) ["_law_script", "_law_town", "_law_many"]) (B : Bi mg) (X : Xs Γ.K mg Γ.xc)  : FnAt P w mg base Γ 1 "_law_draw" 3 m_law_draw :=
  D.fn sc_law_draw rfl fun f cdv A outer s H E rs C => dss_cons (ds_expr (de_ml C slot_list_append rfl mt_append md_append (de_var (i := 1)) (da_cons (de_int) (da_nil)))) (dss_cons (ds_set C.nd (i := 3) rfl (Or.inl rfl) (de_b call_lenA bd_len rfl B.b_len (by decide +kernel) (da_cons (de_var (i := 1)) (da_nil)))) (dss_cons (ds_set C.nd (i := 4) rfl (Or.inl rfl) (de_int)) (dss_cons (ds_if (dt_tru C.K (de_var (i := 0))) (dss_one (ds_set C.nd (i := 4) rfl (Or.inl rfl) (de_ix C (de_var (i := 0)) (de_op op_mod od_mod (de_var (i := 3)) (de_b call_lenA bd_len rfl B.b_len (by decide +kernel) (da_cons (de_var (i := 0)) (da_nil))))))) (dss_nil)) (dss_cons (ds_set C.nd (i := 5) rfl (Or.inl rfl) (de_op op_mod od_mod (de_op op_addA od_add (de_var (i := 4)) (de_op op_mul od_mul (de_int) (de_var (i := 3)))) (de_int))) (dss_cons (ds_set C.nd (i := 5) rfl (Or.inl rfl) (de_op op_mod od_mod (de_op op_mul od_mul (de_op op_mod od_mod (de_op op_mul od_mul (de_var (i := 5)) (de_var (i := 5))) (de_int)) (de_int)) (de_int))) (dss_cons (ds_set C.nd (i := 6) rfl (Or.inl rfl) (de_op op_mod od_mod (de_op op_mul od_mul (de_op op_mod od_mod (de_op op_mul od_mul (de_var (i := 5)) (de_var (i := 5))) (de_int)) (de_int)) (de_int))) (dss_one (ds_ret (de_op op_mod od_mod (de_op op_addA od_add (de_op op_mul od_mul (de_op op_fdiv od_div (de_var (i := 5)) (de_int)) (de_int)) (de_op op_fdiv od_div (de_var (i := 6)) (de_int))) (de_var (i := 2)))))))))))
abbrev NN_law_rows : List Str := ["_law_script", "_law_town", "_law_many", "_law_back", "_law_rows_here", "_law_number", "_law_ties", "_law_j", "_law_other"]
theorem sc_law_rows : FnScope ["_law_script", "_law_town", "_law_many", "_law_back", "_law_rows_here", "_law_number", "_law_ties", "_law_j", "_law_other"] ["_law_script", "_law_town", "_law_many", "_law_back"] (defScope (top 12)) := ⟨rfl, rfl, rfl, by decide +kernel, rfl, by decide +kernel, by decide +kernel⟩
theorem at_law_rows (D : DefAt Γ.K mg "_law_rows" (top 12) ["_law_script", "_law_town", "_law_many", "_law_back"]) (B : Bi mg) (X : Xs Γ.K mg Γ.xc) (F_law_draw : FnAt P w mg base Γ 1 "_law_draw" 3 (m_law_draw)) : FnAt P w mg base Γ 2 "_law_rows" 4 m_law_rows :=
  D.fn sc_law_rows rfl fun f cdv A outer s H E rs C => dss_cons (ds_set C.nd (i := 4) rfl (Or.inl rfl) (de_tup (da_nil))) (dss_cons (ds_for C (di_range1 C rfl B.b_range (de_var (i := 2))) (dg_name (i := 5) C.nd rfl (Or.inl rfl)) (dss_cons (ds_set C.nd (i := 6) rfl (Or.inl rfl) (de_tup (da_nil))) (dss_cons (ds_for C (di_range1 C rfl B.b_range (de_call C (F_law_draw.wr _) (by decide) rfl (dn_cons (de_var (i := 0)) (dn_cons (de_var (i := 1)) (dn_cons (de_int) (dn_nil)))))) (dg_name (i := 7) C.nd rfl (Or.inl rfl)) (dss_cons (ds_set C.nd (i := 8) rfl (Or.inl rfl) (de_if (dt_tru C.K (de_var (i := 3))) (de_call C (F_law_draw.wr _) (by decide) rfl (dn_cons (de_var (i := 0)) (dn_cons (de_var (i := 1)) (dn_cons (de_op op_addA od_add (de_var (i := 2)) (de_int)) (dn_nil))))) (de_op op_addA od_add (de_op op_addA od_add (de_var (i := 5)) (de_int)) (de_call C (F_law_draw.wr _) (by decide) rfl (dn_cons (de_var (i := 0)) (dn_cons (de_var (i := 1)) (dn_cons (de_int) (dn_nil)))))))) (dss_one (ds_set C.nd (i := 6) rfl (Or.inl rfl) (de_op op_addA od_add (de_var (i := 6)) (de_tup (da_cons (de_tup (da_cons (de_var (i := 8)) (da_cons (de_cmp (op_eqQ C.room.units) od_eq (de_call C (F_law_draw.wr _) (by decide) rfl (dn_cons (de_var (i := 0)) (dn_cons (de_var (i := 1)) (dn_cons (de_int) (dn_nil))))) (de_int)) (da_nil)))) (da_nil)))))))) (dss_one (ds_set C.nd (i := 4) rfl (Or.inl rfl) (de_op op_addA od_add (de_var (i := 4)) (de_tup (da_cons (de_tup (da_cons (de_var (i := 5)) (da_cons (de_var (i := 6)) (da_nil)))) (da_nil))))))))) (dss_one (ds_ret (de_var (i := 4)))))
abbrev NN_waits : List Str := ["rows", "number", "is_strict", "found", "other"]
theorem sc_waits : FnScope ["rows", "number", "is_strict", "found", "other"] ["rows", "number", "is_strict"] (defScope (top 5)) := ⟨rfl, rfl, rfl, by decide +kernel, rfl, by decide +kernel, by decide +kernel⟩
theorem at_waits (D : DefAt Γ.K mg "waits" (top 5) ["rows", "number", "is_strict"]) (B : Bi mg) (X : Xs Γ.K mg Γ.xc)  : FnAt P w mg base Γ 1 "waits" 3 m_waits :=
  D.fn sc_waits rfl fun f cdv A outer s H E rs C => dss_cons (ds_set C.nd (i := 3) rfl (Or.inl rfl) (de_lstM (da_nil))) (dss_cons (ds_for C (di_seq C (de_b (call_sortedDIQ C.calm) bd_sortedDI rfl B.b_sorted (by decide +kernel) (da_cons (de_var (i := 0)) (da_nil)))) (dg_name (i := 4) C.nd rfl (Or.inl rfl)) (dss_one (ds_if (dt_w (dw_or (dt_cmp (op_inA C.room.units) od_in (de_tup (da_cons (de_var (i := 4)) (da_cons (de_bl) (da_nil)))) (de_ix C (de_var (i := 0)) (de_var (i := 1)))) (dw_or1 (dt_w (dw_and (dt_not (dt_tru C.K (de_var (i := 2)))) (dw_and1 (dt_cmp (op_inA C.room.units) od_in (de_tup (da_cons (de_var (i := 4)) (da_cons (de_bl) (da_nil)))) (de_ix C (de_var (i := 0)) (de_var (i := 1)))))))))) (dss_one (ds_expr (de_ml C slot_list_append rfl mt_append md_append (de_var (i := 3)) (da_cons (de_var (i := 4)) (da_nil))))) (dss_nil)))) (dss_one (ds_ret (de_ty call_tupA bd_tup rfl B.b_tuple (by decide +kernel) (da_cons (de_var (i := 3)) (da_nil))))))
abbrev NN_holders : List Str := ["rows", "number", "is_strict", "other"]
theorem sc_holders : FnScope ["rows", "number", "is_strict", "other"] ["rows", "number", "is_strict"] (defScope (top 7)) := ⟨rfl, rfl, rfl, by decide +kernel, rfl, by decide +kernel, by decide +kernel⟩
theorem at_holders (D : DefAt Γ.K mg "holders" (top 7) ["rows", "number", "is_strict"]) (B : Bi mg) (X : Xs Γ.K mg Γ.xc) (F_waits : FnAt P w mg base Γ 1 "waits" 3 (m_waits)) : FnAt P w mg base Γ 2 "holders" 3 m_holders :=
  D.fn sc_holders rfl fun f cdv A outer s H E rs C => dss_one (ds_ret (de_ty call_tupA bd_tup rfl B.b_tuple (by decide +kernel) (da_cons (de_comp C (own := [("other", 3)]) (di_seq C (de_b (call_sortedDIQ C.calm) bd_sortedDI rfl B.b_sorted (by decide +kernel) (da_cons (de_var (i := 0)) (da_nil)))) (blkOk_by (N := NN_holders) (sc := defScope (top 7)) (by decide +kernel)) (by decide) (fun _ _ _ _ _ _ C => dg_name (i := 3) C.nd rfl (Or.inl rfl)) (fun _ _ _ _ _ _ C => pts_if (dt_w (dw_and (dt_cmp (op_neQ C.room.units) od_ne (de_var (i := 3)) (de_var (i := 1))) (dw_and1 (dt_cmp (op_inA C.room.units) od_in (de_var (i := 1)) (de_call C (F_waits.wr _) (by decide) rfl (dn_cons (de_var (i := 0)) (dn_cons (de_var (i := 3)) (dn_cons (de_var (i := 2)) (dn_nil)))))))))) (fun _ _ _ _ _ _ C => de_var (i := 3))) (da_nil))))
abbrev NN_strike_order : List Str := ["rows", "found", "left", "free", "number", "some", "other", "tie"]
theorem sc_strike_order : FnScope ["rows", "found", "left", "free", "number", "some", "other", "tie"] ["rows"] (defScope (top 6)) := ⟨rfl, rfl, rfl, by decide +kernel, rfl, by decide +kernel, by decide +kernel⟩
theorem at_strike_order (D : DefAt Γ.K mg "strike_order" (top 6) ["rows"]) (B : Bi mg) (X : Xs Γ.K mg Γ.xc) (F_holders : FnAt P w mg base Γ 2 "holders" 3 (m_holders)) : FnAt P w mg base Γ 3 "strike_order" 1 m_strike_order :=
  D.fn sc_strike_order rfl fun f cdv A outer s H E rs C => dss_cons (ds_set C.nd (i := 1) rfl (Or.inl rfl) (de_tup (da_nil))) (dss_cons (ds_set C.nd (i := 2) rfl (Or.inr rfl) (de_ty (call_dictA C.calm) bd_dict rfl B.b_dict (by decide +kernel) (da_cons (de_var (i := 0)) (da_nil)))) (dss_cons (ds_while C (dt_tru C.K (de_var (i := 2))) (dss_cons (ds_setComp C (i := 3) rfl rfl (sw_true rfl rfl rfl (by decide +kernel)) (own := [("number", 4)]) (di_seq C (de_b (call_sortedDIQ C.calm) bd_sortedDI rfl B.b_sorted (by decide +kernel) (da_cons (de_var (i := 2)) (da_nil)))) (blkOk_by (N := NN_strike_order) (sc := defScope (top 6)) (by decide +kernel)) (by decide) (fun _ _ _ _ _ _ C => dg_name (i := 4) C.nd rfl (Or.inl rfl)) (fun _ _ _ _ _ _ C => pts_if (dt_cmp (op_eqQ C.room.units) od_eq (de_call C (F_holders.wr _) (by decide) rfl (dn_cons (de_var (i := 2)) (dn_cons (de_var (i := 4)) (dn_cons (de_bl) (dn_nil))))) (de_tup (da_nil)))) (fun _ _ _ _ _ _ C => de_var (i := 4))) (dss_cons (ds_setComp C (i := 5) rfl rfl (sw_true rfl rfl rfl (by decide +kernel)) (own := [("number", 4)]) (di_seq C (de_b (call_sortedDIQ C.calm) bd_sortedDI rfl B.b_sorted (by decide +kernel) (da_cons (de_var (i := 2)) (da_nil)))) (blkOk_by (N := NN_strike_order) (sc := defScope (top 6)) (by decide +kernel)) (by decide) (fun _ _ _ _ _ _ C => dg_name (i := 4) C.nd rfl (Or.inl rfl)) (fun _ _ _ _ _ _ C => pts_if (dt_cmp (op_eqQ C.room.units) od_eq (de_call C (F_holders.wr _) (by decide) rfl (dn_cons (de_var (i := 2)) (dn_cons (de_var (i := 4)) (dn_cons (de_bl) (dn_nil))))) (de_tup (da_nil)))) (fun _ _ _ _ _ _ C => de_var (i := 4))) (dss_cons (ds_if (dt_w (dw_and (dt_not (dt_tru C.K (de_var (i := 3)))) (dw_and1 (dt_not (dt_tru C.K (de_var (i := 5))))))) (dss_one (ds_raise C X.e_Ring rfl)) (dss_nil)) (dss_cons (ds_set C.nd (i := 4) rfl (Or.inr rfl) (de_ix C (de_op op_addA od_add (de_var (i := 3)) (de_var (i := 5))) (de_int))) (dss_cons (ds_set C.nd (i := 1) rfl (Or.inl rfl) (de_op op_addA od_add (de_var (i := 1)) (de_tup (da_cons (de_tup (da_cons (de_var (i := 4)) (da_cons (de_call C (F_holders.wr _) (by decide) rfl (dn_cons (de_var (i := 2)) (dn_cons (de_var (i := 4)) (dn_cons (de_bl) (dn_nil))))) (da_nil)))) (da_nil))))) (dss_cons (ds_for C (di_seq C (de_call C (F_holders.wr _) (by decide) rfl (dn_cons (de_var (i := 2)) (dn_cons (de_var (i := 4)) (dn_cons (de_bl) (dn_nil)))))) (dg_name (i := 6) C.nd rfl (Or.inl rfl)) (dss_one (ds_sub (set_dict C.room.units) sg_dct (de_var (i := 2)) (de_var (i := 6)) (de_ty call_tupA bd_tup rfl B.b_tuple (by decide +kernel) (da_cons (de_comp C (own := [("tie", 7)]) (di_seq C (de_ix C (de_var (i := 2)) (de_var (i := 6)))) (blkOk_by (N := NN_strike_order) (sc := defScope (top 6)) (by decide +kernel)) (by decide) (fun _ _ _ _ _ _ C => dg_name (i := 7) C.nd rfl (Or.inl rfl)) (fun _ _ _ _ _ _ C => pts_if (dt_cmp (op_neQ C.room.units) od_ne (de_ix C (de_var (i := 7)) (de_int)) (de_var (i := 4)))) (fun _ _ _ _ _ _ C => de_var (i := 7))) (da_nil)))))) (dss_one (ds_expr (de_dpop1 C (de_var (i := 2)) (de_var (i := 4)) ⟨rfl, rfl, rfl, rfl⟩)))))))))) (dss_one (ds_ret (de_var (i := 1))))))
abbrev NN_law_order : List Str := ["_law_rows_here"]
theorem sc_law_order : FnScope ["_law_rows_here"] ["_law_rows_here"] (defScope (top 11)) := ⟨rfl, rfl, rfl, by decide +kernel, rfl, by decide +kernel, by decide +kernel⟩
theorem at_law_order (D : DefAt Γ.K mg "_law_order" (top 11) ["_law_rows_here"]) (B : Bi mg) (X : Xs Γ.K mg Γ.xc) (F_strike_order : FnAt P w mg base Γ 3 "strike_order" 1 (m_strike_order)) : FnAt P w mg base Γ 4 "_law_order" 1 m_law_order :=
  D.fn sc_law_order rfl fun f cdv A outer s H E rs C => dss_one (ds_try C rfl rfl (fun _ _ _ C => dss_one (ds_ret (de_call C (F_strike_order.wr _) (by decide) rfl (dn_cons (de_var (i := 0)) (dn_nil))))) (Hds.cons (names_of rfl (by decide) X.g_Ring) X.y_Ring X.n_Ring (fun _ _ _ => dss_one (ds_ret (de_non))) (Hds.nil)))
abbrev NN_law_told_holds : List Str := ["_law_rows_here", "_law_order_here", "_law_ties", "_law_left", "_law_number", "_law_some", "_law_due", "_law_one"]
theorem sc_law_told_holds : FnScope ["_law_rows_here", "_law_order_here", "_law_ties", "_law_left", "_law_number", "_law_some", "_law_due", "_law_one"] ["_law_rows_here", "_law_order_here"] (defScope (top 14)) := ⟨rfl, rfl, rfl, by decide +kernel, rfl, by decide +kernel, by decide +kernel⟩
theorem at_law_told_holds (D : DefAt Γ.K mg "_law_told_holds" (top 14) ["_law_rows_here", "_law_order_here"]) (B : Bi mg) (X : Xs Γ.K mg Γ.xc)  : FnAt P w mg base Γ 1 "_law_told_holds" 2 m_law_told_holds :=
  D.fn sc_law_told_holds rfl fun f cdv A outer s H E rs C => dss_cons (ds_asg (de_tup (da_cons (de_ty (call_dictA C.calm) bd_dict rfl B.b_dict (by decide +kernel) (da_cons (de_var (i := 0)) (da_nil))) (da_cons (de_ty (call_dictA C.calm) bd_dict rfl B.b_dict (by decide +kernel) (da_cons (de_var (i := 0)) (da_nil))) (da_nil)))) (dg_tup C (dgs_cons (dg_name (i := 2) C.nd rfl (Or.inr rfl)) (dgs_cons (dg_name (i := 3) C.nd rfl (Or.inl rfl)) (dgs_nil))))) (dss_cons (ds_for C (di_seq C (de_var (i := 1))) (dg_tup C (dgs_cons (dg_name (i := 4) C.nd rfl (Or.inr rfl)) (dgs_cons (dg_name (i := 5) C.nd rfl (Or.inl rfl)) (dgs_nil)))) (dss_cons (ds_expr (de_dpop1 C (de_var (i := 3)) (de_var (i := 4)) ⟨rfl, rfl, rfl, rfl⟩)) (dss_cons (ds_setComp C (i := 6) rfl rfl (sw_true rfl rfl rfl (by decide +kernel)) (own := [("_law_one", 7)]) (di_seq C (de_b (call_sortedDIQ C.calm) bd_sortedDI rfl B.b_sorted (by decide +kernel) (da_cons (de_var (i := 3)) (da_nil)))) (blkOk_by (N := NN_law_told_holds) (sc := defScope (top 14)) (by decide +kernel)) (by decide) (fun _ _ _ _ _ _ C => dg_name (i := 7) C.nd rfl (Or.inl rfl)) (fun _ _ _ _ _ _ C => pts_if (dt_w (dw_or (dt_cmp (op_inA C.room.units) od_in (de_tup (da_cons (de_var (i := 4)) (da_cons (de_bl) (da_nil)))) (de_ix C (de_var (i := 2)) (de_var (i := 7)))) (dw_or1 (dt_cmp (op_inA C.room.units) od_in (de_tup (da_cons (de_var (i := 4)) (da_cons (de_bl) (da_nil)))) (de_ix C (de_var (i := 2)) (de_var (i := 7)))))))) (fun _ _ _ _ _ _ C => de_var (i := 7))) (dss_one (ds_if (dt_w (dw_or (dt_cmp (op_neQ C.room.units) od_ne (de_ty call_listA bd_list rfl B.b_list (by decide +kernel) (da_cons (de_var (i := 5)) (da_nil))) (de_var (i := 6))) (dw_or1 (dt_tru C.K (de_b (cr_any C.calm) bd_any rfl B.b_any (by decide +kernel) (da_cons (de_comp C (own := [("_law_one", 7)]) (di_seq C (de_var (i := 5))) (blkOk_by (N := NN_law_told_holds) (sc := defScope (top 14)) (by decide +kernel)) (by decide) (fun _ _ _ _ _ _ C => dg_name (i := 7) C.nd rfl (Or.inl rfl)) (fun _ _ _ _ _ _ C => pts_yes) (fun _ _ _ _ _ _ C => de_cmp (op_inA C.room.units) od_in (de_tup (da_cons (de_var (i := 4)) (da_cons (de_bl) (da_nil)))) (de_ix C (de_var (i := 2)) (de_var (i := 7))))) (da_nil))))))) (dss_one (ds_ret (de_bl))) (dss_nil)))))) (dss_one (ds_ret (de_cmp (op_eqEQ (by have := C.room.un; omega)) od_eqE (de_var (i := 3)) (de_dnew)))))
abbrev NN_law_bare : List Str := ["_law_rows_here", "_law_gone", "_law_tie", "_law_number", "_law_ties"]
theorem sc_law_bare : FnScope ["_law_rows_here", "_law_gone", "_law_tie", "_law_number", "_law_ties"] ["_law_rows_here", "_law_gone"] (defScope (top 13)) := ⟨rfl, rfl, rfl, by decide +kernel, rfl, by decide +kernel, by decide +kernel⟩
theorem at_law_bare (D : DefAt Γ.K mg "_law_bare" (top 13) ["_law_rows_here", "_law_gone"]) (B : Bi mg) (X : Xs Γ.K mg Γ.xc)  : FnAt P w mg base Γ 1 "_law_bare" 2 m_law_bare :=
  D.fn sc_law_bare rfl fun f cdv A outer s H E rs C => dss_one (ds_ret (de_ty call_tupA bd_tup rfl B.b_tuple (by decide +kernel) (da_cons (de_comp C (own := [("_law_number", 3), ("_law_ties", 4)]) (di_seq C (de_var (i := 0))) (blkOk_by (N := NN_law_bare) (sc := defScope (top 13)) (by decide +kernel)) (by decide) (fun _ _ _ _ _ _ C => dg_tup C (dgs_cons (dg_name (i := 3) C.nd rfl (Or.inl rfl)) (dgs_cons (dg_name (i := 4) C.nd rfl (Or.inl rfl)) (dgs_nil)))) (fun _ _ _ _ _ _ C => pts_if (dt_cmp (op_neQ C.room.units) od_ne (de_var (i := 3)) (de_var (i := 1)))) (fun _ _ _ _ _ _ C => de_tup (da_cons (de_var (i := 3)) (da_cons (de_ty call_tupA bd_tup rfl B.b_tuple (by decide +kernel) (da_cons (de_comp C (own := [("_law_tie", 2)]) (di_seq C (de_var (i := 4))) (blkOk_by (by kernel_rfl)) (by decide) (fun _ _ _ _ _ _ C => dg_name (i := 2) C.nd rfl (Or.inl rfl)) (fun _ _ _ _ _ _ C => pts_if (dt_cmp (op_neQ C.room.units) od_ne (de_ix C (de_var (i := 2)) (de_int)) (de_var (i := 1)))) (fun _ _ _ _ _ _ C => de_var (i := 2))) (da_nil))) (da_nil))))) (da_nil))))
abbrev NN_put_order : List Str := ["rows", "found", "left", "free", "number", "some"]
theorem sc_put_order : FnScope ["rows", "found", "left", "free", "number", "some"] ["rows"] (defScope (top 4)) := ⟨rfl, rfl, rfl, by decide +kernel, rfl, by decide +kernel, by decide +kernel⟩
theorem at_put_order (D : DefAt Γ.K mg "put_order" (top 4) ["rows"]) (B : Bi mg) (X : Xs Γ.K mg Γ.xc) (F_waits : FnAt P w mg base Γ 1 "waits" 3 (m_waits)) : FnAt P w mg base Γ 2 "put_order" 1 m_put_order :=
  D.fn sc_put_order rfl fun f cdv A outer s H E rs C => dss_cons (ds_set C.nd (i := 1) rfl (Or.inl rfl) (de_tup (da_nil))) (dss_cons (ds_set C.nd (i := 2) rfl (Or.inr rfl) (de_ty (call_dictA C.calm) bd_dict rfl B.b_dict (by decide +kernel) (da_cons (de_var (i := 0)) (da_nil)))) (dss_cons (ds_while C (dt_tru C.K (de_var (i := 2))) (dss_cons (ds_setComp C (i := 3) rfl rfl (sw_true rfl rfl rfl (by decide +kernel)) (own := [("number", 4)]) (di_seq C (de_b (call_sortedDIQ C.calm) bd_sortedDI rfl B.b_sorted (by decide +kernel) (da_cons (de_var (i := 2)) (da_nil)))) (blkOk_by (N := NN_put_order) (sc := defScope (top 4)) (by decide +kernel)) (by decide) (fun _ _ _ _ _ _ C => dg_name (i := 4) C.nd rfl (Or.inl rfl)) (fun _ _ _ _ _ _ C => pts_if (dt_cmp (op_eqQ C.room.units) od_eq (de_call C (F_waits.wr _) (by decide) rfl (dn_cons (de_var (i := 2)) (dn_cons (de_var (i := 4)) (dn_cons (de_bl) (dn_nil))))) (de_tup (da_nil)))) (fun _ _ _ _ _ _ C => de_var (i := 4))) (dss_cons (ds_setComp C (i := 5) rfl rfl (sw_true rfl rfl rfl (by decide +kernel)) (own := [("number", 4)]) (di_seq C (de_b (call_sortedDIQ C.calm) bd_sortedDI rfl B.b_sorted (by decide +kernel) (da_cons (de_var (i := 2)) (da_nil)))) (blkOk_by (N := NN_put_order) (sc := defScope (top 4)) (by decide +kernel)) (by decide) (fun _ _ _ _ _ _ C => dg_name (i := 4) C.nd rfl (Or.inl rfl)) (fun _ _ _ _ _ _ C => pts_if (dt_cmp (op_eqQ C.room.units) od_eq (de_call C (F_waits.wr _) (by decide) rfl (dn_cons (de_var (i := 2)) (dn_cons (de_var (i := 4)) (dn_cons (de_bl) (dn_nil))))) (de_tup (da_nil)))) (fun _ _ _ _ _ _ C => de_var (i := 4))) (dss_cons (ds_if (dt_w (dw_and (dt_not (dt_tru C.K (de_var (i := 3)))) (dw_and1 (dt_not (dt_tru C.K (de_var (i := 5))))))) (dss_one (ds_raise C X.e_Ring rfl)) (dss_nil)) (dss_cons (ds_set C.nd (i := 4) rfl (Or.inl rfl) (de_ix C (de_op op_addA od_add (de_var (i := 3)) (de_var (i := 5))) (de_int))) (dss_cons (ds_set C.nd (i := 1) rfl (Or.inl rfl) (de_op op_addA od_add (de_var (i := 1)) (de_tup (da_cons (de_tup (da_cons (de_var (i := 4)) (da_cons (de_call C (F_waits.wr _) (by decide) rfl (dn_cons (de_var (i := 2)) (dn_cons (de_var (i := 4)) (dn_cons (de_bl) (dn_nil))))) (da_nil)))) (da_nil))))) (dss_one (ds_expr (de_dpop1 C (de_var (i := 2)) (de_var (i := 4)) ⟨rfl, rfl, rfl, rfl⟩))))))))) (dss_one (ds_ret (de_var (i := 1))))))
abbrev NN_law : List Str := ["_law_script", "_law_town", "_law_k", "_law_many", "_law_rows_here", "_law_order_here", "_law_own", "_law_number", "_law_ties", "_law_free", "_law_other", "_law_is_needed", "_law_ring", "_law_straight", "_law_told", "_law_numbers", "_law_puts", "_law_some"]
theorem sc_law : FnScope ["_law_script", "_law_town", "_law_k", "_law_many", "_law_rows_here", "_law_order_here", "_law_own", "_law_number", "_law_ties", "_law_free", "_law_other", "_law_is_needed", "_law_ring", "_law_straight", "_law_told", "_law_numbers", "_law_puts", "_law_some"] ["_law_script"] (defScope (top 15)) := ⟨rfl, rfl, rfl, by decide +kernel, rfl, by decide +kernel, by decide +kernel⟩
theorem ok_law {fa : Addr} {fd : FuncData} (F : Fun Γ.K "law" "law" (top 15) fa fd) (B : Bi mg) (X : Xs Γ.K mg Γ.xc) (F_law_draw : FnAt P w mg base Γ 1 "_law_draw" 3 (m_law_draw)) (F_law_rows : FnAt P w mg base Γ 2 "_law_rows" 4 (m_law_rows)) (F_law_order : FnAt P w mg base Γ 4 "_law_order" 1 (m_law_order)) (F_law_told_holds : FnAt P w mg base Γ 1 "_law_told_holds" 2 (m_law_told_holds)) (F_law_bare : FnAt P w mg base Γ 1 "_law_bare" 2 (m_law_bare)) (F_put_order : FnAt P w mg base Γ 2 "put_order" 1 (m_put_order)) : FnOk P w Γ.K mg base (L2.CX P w) 5 fa fd ["_law_script"] (spM Γ 1 m_law) :=
  fn_body F sc_law rfl fun cdv A outer s H E rs C => dss_cons (ds_set C.nd (i := 1) rfl (Or.inl rfl) (de_lstM (da_nil))) (dss_cons (ds_for C (di_range1 C rfl B.b_range (de_int)) (dg_name (i := 2) C.nd rfl (Or.inl rfl)) (dss_cons (ds_set C.nd (i := 3) rfl (Or.inl rfl) (de_call C (F_law_draw.wr _) (by decide) rfl (dn_cons (de_var (i := 0)) (dn_cons (de_var (i := 1)) (dn_cons (de_int) (dn_nil)))))) (dss_cons (ds_set C.nd (i := 4) rfl (Or.inl rfl) (de_call C (F_law_rows.wr _) (by decide) rfl (dn_cons (de_var (i := 0)) (dn_cons (de_var (i := 1)) (dn_cons (de_var (i := 3)) (dn_cons (de_bl) (dn_nil))))))) (dss_cons (ds_set C.nd (i := 5) rfl (Or.inl rfl) (de_call C (F_law_order.wr _) (by decide) rfl (dn_cons (de_var (i := 4)) (dn_nil)))) (dss_cons (ds_set C.nd (i := 6) rfl (Or.inl rfl) (de_ty call_tupA bd_tup rfl B.b_tuple (by decide +kernel) (da_cons (de_comp C (own := [("_law_number", 7), ("_law_ties", 8)]) (di_seq C (de_var (i := 4))) (blkOk_by (N := NN_law) (sc := defScope (top 15)) (by decide +kernel)) (by decide) (fun _ _ _ _ _ _ C => dg_tup C (dgs_cons (dg_name (i := 7) C.nd rfl (Or.inl rfl)) (dgs_cons (dg_name (i := 8) C.nd rfl (Or.inl rfl)) (dgs_nil)))) (fun _ _ _ _ _ _ C => pts_yes) (fun _ _ _ _ _ _ C => de_tup (da_cons (de_var (i := 7)) (da_cons (de_op op_addA od_add (de_op op_addA od_add (de_back C (de_var (i := 8))) (de_var (i := 8))) (de_tup (da_cons (de_tup (da_cons (de_var (i := 7)) (da_cons (de_bl) (da_nil)))) (da_cons (de_tup (da_cons (de_int) (da_cons (de_bl) (da_nil)))) (da_nil))))) (da_nil))))) (da_nil)))) (dss_cons (ds_if (dt_cmp (op_neQ C.room.units) od_ne (de_call C (F_law_order.wr _) (by decide) rfl (dn_cons (de_var (i := 6)) (dn_nil))) (de_var (i := 5))) (dss_one (ds_ret (de_bl))) (dss_nil)) (dss_cons (ds_if (dt_w (dw_and (dt_cmp op_notN od_notN (de_var (i := 5)) (de_non)) (dw_and1 (dt_not (dt_tru C.K (de_call C (F_law_told_holds.wr _) (by decide) rfl (dn_cons (de_var (i := 4)) (dn_cons (de_var (i := 5)) (dn_nil))))))))) (dss_one (ds_ret (de_bl))) (dss_nil)) (dss_cons (ds_if (dt_w (dw_and (dt_tru C.K (de_var (i := 5))) (dw_and1 (dt_cmp (op_neQ C.room.units) od_ne (de_call C (F_law_order.wr _) (by decide) rfl (dn_cons (de_call C (F_law_bare.wr _) (by decide) rfl (dn_cons (de_var (i := 4)) (dn_cons (de_ix C (de_ix C (de_var (i := 5)) (de_int)) (de_int)) (dn_nil)))) (dn_nil))) (de_sl C (de_var (i := 5)) (do_some (de_int)) (do_none)))))) (dss_one (ds_ret (de_bl))) (dss_nil)) (dss_cons (ds_set C.nd (i := 9) rfl (Or.inl rfl) (de_ty call_tupA bd_tup rfl B.b_tuple (by decide +kernel) (da_cons (de_comp C (own := [("_law_number", 7), ("_law_ties", 8)]) (di_seq C (de_var (i := 4))) (blkOk_by (N := NN_law) (sc := defScope (top 15)) (by decide +kernel)) (by decide) (fun _ _ _ _ _ _ C => dg_tup C (dgs_cons (dg_name (i := 7) C.nd rfl (Or.inl rfl)) (dgs_cons (dg_name (i := 8) C.nd rfl (Or.inl rfl)) (dgs_nil)))) (fun _ _ _ _ _ _ C => pts_yes) (fun _ _ _ _ _ _ C => de_tup (da_cons (de_var (i := 7)) (da_cons (de_ty call_tupA bd_tup rfl B.b_tuple (by decide +kernel) (da_cons (de_comp C (own := [("_law_other", 10), ("_law_is_needed", 11)]) (di_seq C (de_var (i := 8))) (blkOk_by (by kernel_rfl)) (by decide) (fun _ _ _ _ _ _ C => dg_tup C (dgs_cons (dg_name (i := 10) C.nd rfl (Or.inl rfl)) (dgs_cons (dg_name (i := 11) C.nd rfl (Or.inl rfl)) (dgs_nil)))) (fun _ _ _ _ _ _ C => pts_yes) (fun _ _ _ _ _ _ C => de_tup (da_cons (de_var (i := 10)) (da_cons (de_bl) (da_nil))))) (da_nil))) (da_nil))))) (da_nil)))) (dss_cons (ds_if (dt_cmp op_isN od_isN (de_call C (F_law_order.wr _) (by decide) rfl (dn_cons (de_var (i := 9)) (dn_nil))) (de_non)) (dss_one (ds_ret (de_bl))) (dss_nil)) (dss_cons (ds_set C.nd (i := 12) rfl (Or.inl rfl) (de_op op_addA od_add (de_var (i := 4)) (de_tup (da_cons (de_tup (da_cons (de_int) (da_cons (de_tup (da_cons (de_tup (da_cons (de_int) (da_cons (de_bl) (da_nil)))) (da_nil))) (da_nil)))) (da_cons (de_tup (da_cons (de_int) (da_cons (de_tup (da_cons (de_tup (da_cons (de_int) (da_cons (de_bl) (da_nil)))) (da_nil))) (da_nil)))) (da_nil)))))) (dss_cons (ds_if (dt_cmp op_notN od_notN (de_call C (F_law_order.wr _) (by decide) rfl (dn_cons (de_var (i := 12)) (dn_nil))) (de_non)) (dss_one (ds_ret (de_bl))) (dss_nil)) (dss_cons (ds_set C.nd (i := 13) rfl (Or.inl rfl) (de_call C (F_law_rows.wr _) (by decide) rfl (dn_cons (de_var (i := 0)) (dn_cons (de_var (i := 1)) (dn_cons (de_var (i := 3)) (dn_cons (de_bl) (dn_nil))))))) (dss_cons (ds_set C.nd (i := 14) rfl (Or.inl rfl) (de_call C (F_law_order.wr _) (by decide) rfl (dn_cons (de_var (i := 13)) (dn_nil)))) (dss_cons (ds_if (dt_w (dw_or (dt_cmp op_isN od_isN (de_var (i := 14)) (de_non)) (dw_or1 (dt_tru C.K (de_b (cr_any C.calm) bd_any rfl B.b_any (by decide +kernel) (da_cons (de_comp C (own := [("_law_number", 7), ("_law_some", 17)]) (di_seq C (de_var (i := 14))) (blkOk_by (N := NN_law) (sc := defScope (top 15)) (by decide +kernel)) (by decide) (fun _ _ _ _ _ _ C => dg_tup C (dgs_cons (dg_name (i := 7) C.nd rfl (Or.inl rfl)) (dgs_cons (dg_name (i := 17) C.nd rfl (Or.inl rfl)) (dgs_nil)))) (fun _ _ _ _ _ _ C => pts_yes) (fun _ _ _ _ _ _ C => de_cmp (op_neQ C.room.units) od_ne (de_var (i := 17)) (de_tup (da_nil)))) (da_nil))))))) (dss_one (ds_ret (de_bl))) (dss_nil)) (dss_cons (ds_setComp C (i := 15) rfl rfl (sw_true rfl rfl rfl (by decide +kernel)) (own := [("_law_number", 7), ("_law_some", 17)]) (di_seq C (de_var (i := 14))) (blkOk_by (N := NN_law) (sc := defScope (top 15)) (by decide +kernel)) (by decide) (fun _ _ _ _ _ _ C => dg_tup C (dgs_cons (dg_name (i := 7) C.nd rfl (Or.inl rfl)) (dgs_cons (dg_name (i := 17) C.nd rfl (Or.inl rfl)) (dgs_nil)))) (fun _ _ _ _ _ _ C => pts_yes) (fun _ _ _ _ _ _ C => de_var (i := 7))) (dss_cons (ds_if (dt_cmp (op_neQ C.room.units) od_ne (de_var (i := 15)) (de_rgL1 C rfl B.b_list rfl B.b_range (de_var (i := 3)))) (dss_one (ds_ret (de_bl))) (dss_nil)) (dss_cons (ds_setComp C (i := 16) rfl rfl (sw_true rfl rfl rfl (by decide +kernel)) (own := [("_law_number", 7), ("_law_some", 17)]) (di_seq C (de_call C (F_put_order.wr _) (by decide) rfl (dn_cons (de_var (i := 13)) (dn_nil)))) (blkOk_by (N := NN_law) (sc := defScope (top 15)) (by decide +kernel)) (by decide) (fun _ _ _ _ _ _ C => dg_tup C (dgs_cons (dg_name (i := 7) C.nd rfl (Or.inl rfl)) (dgs_cons (dg_name (i := 17) C.nd rfl (Or.inl rfl)) (dgs_nil)))) (fun _ _ _ _ _ _ C => pts_yes) (fun _ _ _ _ _ _ C => de_var (i := 7))) (dss_one (ds_for C (di_seq C (de_var (i := 13))) (dg_tup C (dgs_cons (dg_name (i := 7) C.nd rfl (Or.inl rfl)) (dgs_cons (dg_name (i := 8) C.nd rfl (Or.inl rfl)) (dgs_nil)))) (dss_one (ds_for C (di_seq C (de_var (i := 8))) (dg_tup C (dgs_cons (dg_name (i := 10) C.nd rfl (Or.inl rfl)) (dgs_cons (dg_name (i := 11) C.nd rfl (Or.inl rfl)) (dgs_nil)))) (dss_one (ds_if (dt_w (dw_and (dt_cmp op_ltA od_lt (de_var (i := 10)) (de_var (i := 3))) (dw_and1 (dt_cmp op_gtA od_gt (de_ml C PySem.F.slot_list_index rfl (mt_indexQ C) md_index (de_var (i := 16)) (da_cons (de_var (i := 10)) (da_nil))) (de_ml C PySem.F.slot_list_index rfl (mt_indexQ C) md_index (de_var (i := 16)) (da_cons (de_var (i := 7)) (da_nil))))))) (dss_one (ds_ret (de_bl))) (dss_nil))))))))))))))))))))))))) (dss_one (ds_ret (de_bl))))
end
/-! ### the head -/
theorem all_mk {P : Program} {w : World} {K : PySem.W.Frag} {h : Heap} {mg : Str → Option Value} {fa : Addr} (X : K.In h) (G : h.Ns mainGlobals mg) (hfa : mg "law" = some (.ref fa))
    {C0 : Addr} {C1 : Addr} {f0 : Addr} {od0 an0 : Option Addr} {sl0 : Array (Option Value)} {oc0 kV0 dc0 pm0 cd0 ct0 : Value} {f1 : Addr} {od1 an1 : Option Addr} {sl1 : Array (Option Value)} {oc1 kV1 dc1 pm1 cd1 ct1 : Value} {f2 : Addr} {od2 an2 : Option Addr} {sl2 : Array (Option Value)} {oc2 kV2 dc2 pm2 cd2 ct2 : Value} {f3 : Addr} {od3 an3 : Option Addr} {sl3 : Array (Option Value)} {oc3 kV3 dc3 pm3 cd3 ct3 : Value} {f4 : Addr} {od4 an4 : Option Addr} {sl4 : Array (Option Value)} {oc4 kV4 dc4 pm4 cd4 ct4 : Value} {f5 : Addr} {od5 an5 : Option Addr} {sl5 : Array (Option Value)} {oc5 kV5 dc5 pm5 cd5 ct5 : Value} {f6 : Addr} {od6 an6 : Option Addr} {sl6 : Array (Option Value)} {oc6 kV6 dc6 pm6 cd6 ct6 : Value} {f7 : Addr} {od7 an7 : Option Addr} {sl7 : Array (Option Value)} {oc7 kV7 dc7 pm7 cd7 ct7 : Value} {f8 : Addr} {od8 an8 : Option Addr} {sl8 : Array (Option Value)} {oc8 kV8 dc8 pm8 cd8 ct8 : Value} {f9 : Addr} {od9 an9 : Option Addr} {sl9 : Array (Option Value)} {oc9 kV9 dc9 pm9 cd9 ct9 : Value}
    (xn0 : PySem.W.nsIn K mainGlobals "RowError" = some (some (.ref C0)))
    (xn1 : PySem.W.nsIn K mainGlobals "Ring" = some (some (.ref C1)))
    (xx1 : PySem.W.excIn K C1 [.type "ValueError", .type "Exception", .type "BaseException", .type "object"] "ValueError.__new__" = true)
    (xk1 : PySem.W.keepIn K (.ref C1) = true)
    (xs0 : PySem.W.subIn K (.ref C0) (.type "BaseException") = some true)
    (xt0 : PySem.W.typeIn K (.ref C0) = some (.type "type"))
    (xs1 : PySem.W.subIn K (.ref C1) (.type "BaseException") = some true)
    (xt1 : PySem.W.typeIn K (.ref C1) = some (.type "type"))
    (xh1 : PySem.W.hasDictIn K C1 = true)
    (xb0_1 : PySem.W.subIn K (.ref C0) (.ref C1) = some false)
    (xb1_1 : PySem.W.subIn K (.ref C1) (.ref C1) = some true)
    (a0 : PySem.W.nsIn K mainGlobals "_law_draw" = some (some (.ref f0)))
    (l0 : K.lookup f0 = some ⟨oc0, od0, .func (PySem.W.fnOf "_law_draw" "_law_draw" (defArgs (top 9)) (defBody (top 9)) (defScope (top 9)) .none kV0 dc0 pm0 an0 cd0 ct0), sl0⟩)
    (c0 : PySem.W.codeIn K cd0 "_law_draw" = true)
    (k0 : PySem.W.keepIn K (.ref f0) = true)
    (a1 : PySem.W.nsIn K mainGlobals "_law_rows" = some (some (.ref f1)))
    (l1 : K.lookup f1 = some ⟨oc1, od1, .func (PySem.W.fnOf "_law_rows" "_law_rows" (defArgs (top 12)) (defBody (top 12)) (defScope (top 12)) .none kV1 dc1 pm1 an1 cd1 ct1), sl1⟩)
    (c1 : PySem.W.codeIn K cd1 "_law_rows" = true)
    (k1 : PySem.W.keepIn K (.ref f1) = true)
    (a2 : PySem.W.nsIn K mainGlobals "waits" = some (some (.ref f2)))
    (l2 : K.lookup f2 = some ⟨oc2, od2, .func (PySem.W.fnOf "waits" "waits" (defArgs (top 5)) (defBody (top 5)) (defScope (top 5)) .none kV2 dc2 pm2 an2 cd2 ct2), sl2⟩)
    (c2 : PySem.W.codeIn K cd2 "waits" = true)
    (k2 : PySem.W.keepIn K (.ref f2) = true)
    (a3 : PySem.W.nsIn K mainGlobals "holders" = some (some (.ref f3)))
    (l3 : K.lookup f3 = some ⟨oc3, od3, .func (PySem.W.fnOf "holders" "holders" (defArgs (top 7)) (defBody (top 7)) (defScope (top 7)) .none kV3 dc3 pm3 an3 cd3 ct3), sl3⟩)
    (c3 : PySem.W.codeIn K cd3 "holders" = true)
    (k3 : PySem.W.keepIn K (.ref f3) = true)
    (a4 : PySem.W.nsIn K mainGlobals "strike_order" = some (some (.ref f4)))
    (l4 : K.lookup f4 = some ⟨oc4, od4, .func (PySem.W.fnOf "strike_order" "strike_order" (defArgs (top 6)) (defBody (top 6)) (defScope (top 6)) .none kV4 dc4 pm4 an4 cd4 ct4), sl4⟩)
    (c4 : PySem.W.codeIn K cd4 "strike_order" = true)
    (k4 : PySem.W.keepIn K (.ref f4) = true)
    (a5 : PySem.W.nsIn K mainGlobals "_law_order" = some (some (.ref f5)))
    (l5 : K.lookup f5 = some ⟨oc5, od5, .func (PySem.W.fnOf "_law_order" "_law_order" (defArgs (top 11)) (defBody (top 11)) (defScope (top 11)) .none kV5 dc5 pm5 an5 cd5 ct5), sl5⟩)
    (c5 : PySem.W.codeIn K cd5 "_law_order" = true)
    (k5 : PySem.W.keepIn K (.ref f5) = true)
    (a6 : PySem.W.nsIn K mainGlobals "_law_told_holds" = some (some (.ref f6)))
    (l6 : K.lookup f6 = some ⟨oc6, od6, .func (PySem.W.fnOf "_law_told_holds" "_law_told_holds" (defArgs (top 14)) (defBody (top 14)) (defScope (top 14)) .none kV6 dc6 pm6 an6 cd6 ct6), sl6⟩)
    (c6 : PySem.W.codeIn K cd6 "_law_told_holds" = true)
    (k6 : PySem.W.keepIn K (.ref f6) = true)
    (a7 : PySem.W.nsIn K mainGlobals "_law_bare" = some (some (.ref f7)))
    (l7 : K.lookup f7 = some ⟨oc7, od7, .func (PySem.W.fnOf "_law_bare" "_law_bare" (defArgs (top 13)) (defBody (top 13)) (defScope (top 13)) .none kV7 dc7 pm7 an7 cd7 ct7), sl7⟩)
    (c7 : PySem.W.codeIn K cd7 "_law_bare" = true)
    (k7 : PySem.W.keepIn K (.ref f7) = true)
    (a8 : PySem.W.nsIn K mainGlobals "put_order" = some (some (.ref f8)))
    (l8 : K.lookup f8 = some ⟨oc8, od8, .func (PySem.W.fnOf "put_order" "put_order" (defArgs (top 4)) (defBody (top 4)) (defScope (top 4)) .none kV8 dc8 pm8 an8 cd8 ct8), sl8⟩)
    (c8 : PySem.W.codeIn K cd8 "put_order" = true)
    (k8 : PySem.W.keepIn K (.ref f8) = true)
    (a9 : PySem.W.nsIn K mainGlobals "law" = some (some (.ref f9)))
    (l9 : K.lookup f9 = some ⟨oc9, od9, .func (PySem.W.fnOf "law" "law" (defArgs (top 15)) (defBody (top 15)) (defScope (top 15)) .none kV9 dc9 pm9 an9 cd9 ct9), sl9⟩)
    (c9 : PySem.W.codeIn K cd9 "law" = true)
    (k9 : PySem.W.keepIn K (.ref f9) = true)
    (z_range : PySem.W.nsIn K mainGlobals "range" = some none)
    (z_tuple : PySem.W.nsIn K mainGlobals "tuple" = some none)
    (z_any : PySem.W.nsIn K mainGlobals "any" = some none)
    (z_list : PySem.W.nsIn K mainGlobals "list" = some none)
    (z_len : PySem.W.nsIn K mainGlobals "len" = some none)
    (z_dict : PySem.W.nsIn K mainGlobals "dict" = some none)
    (z_sorted : PySem.W.nsIn K mainGlobals "sorted" = some none)
    (good : ∀ ns : List Int, ns.length ≤ 63 → ∃ S, m_law [.kls (ns.map .int)] [] = .ok (.bl true) S) :
    ∃ fd : FuncData, (∀ (s : Shared) (v : Value), BindsTo s fd ⟨[v], []⟩ [("_law_script", v)]) ∧ ∀ base : Heap, K.In base → base.Ns mainGlobals mg → FnOk P w K mg base (L2.CX P w) 5 fa fd ["_law_script"] (spLaw K 63) := by
  have e := hfa.symm.trans (PySem.W.mg_of X G a9)
  cases e
  have B : Bi mg := ⟨PySem.W.mg_none_of X G z_range, PySem.W.mg_none_of X G z_tuple, PySem.W.mg_none_of X G z_any, PySem.W.mg_none_of X G z_list, PySem.W.mg_none_of X G z_len, PySem.W.mg_none_of X G z_dict, PySem.W.mg_none_of X G z_sorted⟩
  have Z : Xs K mg (fun n => if n = 0 then C0 else if n = 1 then C1 else 0) := ⟨⟨PySem.W.mg_of X G xn1, xx1, xk1, xs1, xt1⟩, PySem.W.mg_of X G xn1, (fun e h => by simp only [List.mem_cons, List.not_mem_nil, or_false] at h; subst h <;> first | exact PySem.W.exm_ref xs1 xh1 xt1 xb1_1), (fun e h => by simp only [List.mem_cons, List.not_mem_nil, or_false] at h; subst h <;> first | exact PySem.W.exm_ref xs1 xh1 xt1 xb0_1)⟩
  have F0 := fun_mk (st := (top 9)) l0 c0 k0
  have D0 : DefAt K mg "_law_draw" (top 9) ["_law_script", "_law_town", "_law_many"] := ⟨_, _, F0, PySem.W.mg_of X G a0, F0.binds fun _ _ _ _ _ _ us hl => match us, hl with | [_, _, _], _ => rfl⟩
  have F1 := fun_mk (st := (top 12)) l1 c1 k1
  have D1 : DefAt K mg "_law_rows" (top 12) ["_law_script", "_law_town", "_law_many", "_law_back"] := ⟨_, _, F1, PySem.W.mg_of X G a1, F1.binds fun _ _ _ _ _ _ us hl => match us, hl with | [_, _, _, _], _ => rfl⟩
  have F2 := fun_mk (st := (top 5)) l2 c2 k2
  have D2 : DefAt K mg "waits" (top 5) ["rows", "number", "is_strict"] := ⟨_, _, F2, PySem.W.mg_of X G a2, F2.binds fun _ _ _ _ _ _ us hl => match us, hl with | [_, _, _], _ => rfl⟩
  have F3 := fun_mk (st := (top 7)) l3 c3 k3
  have D3 : DefAt K mg "holders" (top 7) ["rows", "number", "is_strict"] := ⟨_, _, F3, PySem.W.mg_of X G a3, F3.binds fun _ _ _ _ _ _ us hl => match us, hl with | [_, _, _], _ => rfl⟩
  have F4 := fun_mk (st := (top 6)) l4 c4 k4
  have D4 : DefAt K mg "strike_order" (top 6) ["rows"] := ⟨_, _, F4, PySem.W.mg_of X G a4, F4.binds fun _ _ _ _ _ _ us hl => match us, hl with | [_], _ => rfl⟩
  have F5 := fun_mk (st := (top 11)) l5 c5 k5
  have D5 : DefAt K mg "_law_order" (top 11) ["_law_rows_here"] := ⟨_, _, F5, PySem.W.mg_of X G a5, F5.binds fun _ _ _ _ _ _ us hl => match us, hl with | [_], _ => rfl⟩
  have F6 := fun_mk (st := (top 14)) l6 c6 k6
  have D6 : DefAt K mg "_law_told_holds" (top 14) ["_law_rows_here", "_law_order_here"] := ⟨_, _, F6, PySem.W.mg_of X G a6, F6.binds fun _ _ _ _ _ _ us hl => match us, hl with | [_, _], _ => rfl⟩
  have F7 := fun_mk (st := (top 13)) l7 c7 k7
  have D7 : DefAt K mg "_law_bare" (top 13) ["_law_rows_here", "_law_gone"] := ⟨_, _, F7, PySem.W.mg_of X G a7, F7.binds fun _ _ _ _ _ _ us hl => match us, hl with | [_, _], _ => rfl⟩
  have F8 := fun_mk (st := (top 4)) l8 c8 k8
  have D8 : DefAt K mg "put_order" (top 4) ["rows"] := ⟨_, _, F8, PySem.W.mg_of X G a8, F8.binds fun _ _ _ _ _ _ us hl => match us, hl with | [_], _ => rfl⟩
  have F9 := fun_mk (st := (top 15)) l9 c9 k9
  refine ⟨PySem.W.fnOf "law" "law" (defArgs (top 15)) (defBody (top 15)) (defScope (top 15)) .none kV9 dc9 pm9 an9 cd9 ct9, fun s v => .of_eq rfl, fun base _ _ => ?_⟩
  have G_law_draw : FnAt P w mg base ⟨K, fun n => 0, fun n => if n = 0 then C0 else if n = 1 then C1 else 0, []⟩ 1 "_law_draw" 3 (m_law_draw) := at_law_draw (Γ := ⟨K, fun n => 0, fun n => if n = 0 then C0 else if n = 1 then C1 else 0, []⟩) D0 B Z 
  have G_law_rows : FnAt P w mg base ⟨K, fun n => 0, fun n => if n = 0 then C0 else if n = 1 then C1 else 0, []⟩ 2 "_law_rows" 4 (m_law_rows) := at_law_rows (Γ := ⟨K, fun n => 0, fun n => if n = 0 then C0 else if n = 1 then C1 else 0, []⟩) D1 B Z G_law_draw
  have G_waits : FnAt P w mg base ⟨K, fun n => 0, fun n => if n = 0 then C0 else if n = 1 then C1 else 0, []⟩ 1 "waits" 3 (m_waits) := at_waits (Γ := ⟨K, fun n => 0, fun n => if n = 0 then C0 else if n = 1 then C1 else 0, []⟩) D2 B Z 
  have G_holders : FnAt P w mg base ⟨K, fun n => 0, fun n => if n = 0 then C0 else if n = 1 then C1 else 0, []⟩ 2 "holders" 3 (m_holders) := at_holders (Γ := ⟨K, fun n => 0, fun n => if n = 0 then C0 else if n = 1 then C1 else 0, []⟩) D3 B Z G_waits
  have G_strike_order : FnAt P w mg base ⟨K, fun n => 0, fun n => if n = 0 then C0 else if n = 1 then C1 else 0, []⟩ 3 "strike_order" 1 (m_strike_order) := at_strike_order (Γ := ⟨K, fun n => 0, fun n => if n = 0 then C0 else if n = 1 then C1 else 0, []⟩) D4 B Z G_holders
  have G_law_order : FnAt P w mg base ⟨K, fun n => 0, fun n => if n = 0 then C0 else if n = 1 then C1 else 0, []⟩ 4 "_law_order" 1 (m_law_order) := at_law_order (Γ := ⟨K, fun n => 0, fun n => if n = 0 then C0 else if n = 1 then C1 else 0, []⟩) D5 B Z G_strike_order
  have G_law_told_holds : FnAt P w mg base ⟨K, fun n => 0, fun n => if n = 0 then C0 else if n = 1 then C1 else 0, []⟩ 1 "_law_told_holds" 2 (m_law_told_holds) := at_law_told_holds (Γ := ⟨K, fun n => 0, fun n => if n = 0 then C0 else if n = 1 then C1 else 0, []⟩) D6 B Z 
  have G_law_bare : FnAt P w mg base ⟨K, fun n => 0, fun n => if n = 0 then C0 else if n = 1 then C1 else 0, []⟩ 1 "_law_bare" 2 (m_law_bare) := at_law_bare (Γ := ⟨K, fun n => 0, fun n => if n = 0 then C0 else if n = 1 then C1 else 0, []⟩) D7 B Z 
  have G_put_order : FnAt P w mg base ⟨K, fun n => 0, fun n => if n = 0 then C0 else if n = 1 then C1 else 0, []⟩ 2 "put_order" 1 (m_put_order) := at_put_order (Γ := ⟨K, fun n => 0, fun n => if n = 0 then C0 else if n = 1 then C1 else 0, []⟩) D8 B Z G_waits
  exact law_ok (Γ := ⟨K, fun n => 0, fun n => if n = 0 then C0 else if n = 1 then C1 else 0, []⟩) (ok_law (P := P) (w := w) (base := base) F9 B Z G_law_draw G_law_rows G_law_order G_law_told_holds G_law_bare G_put_order) good
end Mp

open PySem PySem.W PyProof.Rows
set_option maxRecDepth 100000 in
set_option maxHeartbeats 0 in
theorem PySem.Challenge.cw_rowkeep_k17_whole_strikes_led_on_holds : PySem.Challenge.rw_rowkeep_k17_whole_strikes_led_on.Holds := by
  w_on; o_law; k_head; (case hw => w_witness2)
  k_fill
  refine Mp.walk_law (l := PySem.Challenge.rw_rowkeep_k17_whole_strikes_led_on) (k := 5) rfl rfl ⟨rfl, by decide, by decide⟩ (fun w h Y => PySem.W.kIn_of Y) ?F
  case F =>
    intro w mg fa h KX G hmg
    refine' Mp.all_mk KX G hmg ?xn0 ?xn1 ?xx1 ?xk1 ?xs0 ?xt0 ?xs1 ?xt1 ?xh1 ?xb0_1 ?xb1_1 ?a0 ?l0 ?c0 ?k0 ?a1 ?l1 ?c1 ?k1 ?a2 ?l2 ?c2 ?k2 ?a3 ?l3 ?c3 ?k3 ?a4 ?l4 ?c4 ?k4 ?a5 ?l5 ?c5 ?k5 ?a6 ?l6 ?c6 ?k6 ?a7 ?l7 ?c7 ?k7 ?a8 ?l8 ?c8 ?k8 ?a9 ?l9 ?c9 ?k9 ?z_range ?z_tuple ?z_any ?z_list ?z_len ?z_dict ?z_sorted Mp.law_good
    (case xn0 => k_is)
    (case xn1 => k_is)
    (case xx1 => k_exc)
    (case xk1 => k_is)
    (case xs0 => k_is)
    (case xt0 => k_is)
    (case xs1 => k_is)
    (case xt1 => k_is)
    (case xh1 => k_is)
    (case xb0_1 => k_is)
    (case xb1_1 => k_is)
    (case a0 => k_is)
    (case l0 => k_is)
    (case c0 => k_is)
    (case k0 => k_is)
    (case a1 => k_is)
    (case l1 => k_is)
    (case c1 => k_is)
    (case k1 => k_is)
    (case a2 => k_is)
    (case l2 => k_is)
    (case c2 => k_is)
    (case k2 => k_is)
    (case a3 => k_is)
    (case l3 => k_is)
    (case c3 => k_is)
    (case k3 => k_is)
    (case a4 => k_is)
    (case l4 => k_is)
    (case c4 => k_is)
    (case k4 => k_is)
    (case a5 => k_is)
    (case l5 => k_is)
    (case c5 => k_is)
    (case k5 => k_is)
    (case a6 => k_is)
    (case l6 => k_is)
    (case c6 => k_is)
    (case k6 => k_is)
    (case a7 => k_is)
    (case l7 => k_is)
    (case c7 => k_is)
    (case k7 => k_is)
    (case a8 => k_is)
    (case l8 => k_is)
    (case c8 => k_is)
    (case k8 => k_is)
    (case a9 => k_is)
    (case l9 => k_is)
    (case c9 => k_is)
    (case k9 => k_is)
    (case z_range => k_is)
    (case z_tuple => k_is)
    (case z_any => k_is)
    (case z_list => k_is)
    (case z_len => k_is)
    (case z_dict => k_is)
    (case z_sorted => k_is)

