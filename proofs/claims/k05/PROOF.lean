import PyProof.Rows.All
import Wide.All
import OpenK.AllK
import Wide.FinOn
import HandS.ForMost
import HandS.Exc
import HandS.ExcOwn
import HandS.WordsExc
import HandS.CallSlots
import HandS.Walk
import HandS.Deep
import HandS.More
import HandS.DictEq
import HandS.DeepEq
import HandS.IsInst
import HandS.Conv
import HandS.ExcIs
import HandS.ExcField
import HandS.TryMany
import PyProof.DictUpdate
import KE.KExcIs
import HandS.Ends
import PySem.Challenge.RW_signalhouse_k05_whole_all_routes
section
set_option linter.all false
/-! A small semantics of the Python that the program and its laws are written in: a deterministic one, over a list of objects. -/
namespace Mn
abbrev Tx := List Nat
/-- values; a tuple by its items, a list that is only read (fls) too, all other objects by their places -/
inductive D where
  | non
  | bl (b : Bool)
  | int (i : Int)
  | str (s : Tx)
  | tup (ds : List D)
  | fls (ds : List D)
  | ref (a : Nat)
  | adr (a : Nat)
  | exn (a d i : Nat)
  deriving Inhabited
mutual
def D.beq : D → D → Bool
  | .non, .non => true
  | .bl a, .bl b => a == b
  | .int a, .int b => a == b
  | .str a, .str b => a == b
  | .tup a, .tup b => D.beqs a b
  | .fls a, .fls b => D.beqs a b
  | .ref a, .ref b => a == b
  | .adr a, .adr b => a == b
  | .exn a d i, .exn b e j => a == b && d == e && i == j
  | _, _ => false
def D.beqs : List D → List D → Bool
  | [], [] => true
  | a :: r, b :: t => D.beq a b && D.beqs r t
  | _, _ => false
end
mutual
theorem D.beq_iff : ∀ a b : D, D.beq a b = true ↔ a = b
  | .non, b => by cases b <;> simp [D.beq]
  | .bl a, b => by cases b <;> simp [D.beq]
  | .int a, b => by cases b <;> simp [D.beq]
  | .str a, b => by cases b <;> simp [D.beq]
  | .tup a, b => by
    cases b with
    | tup c => simp [D.beq, D.beqs_iff a c]
    | _ => simp [D.beq]
  | .fls a, b => by
    cases b with
    | fls c => simp [D.beq, D.beqs_iff a c]
    | _ => simp [D.beq]
  | .ref a, b => by cases b <;> simp [D.beq]
  | .adr a, b => by cases b <;> simp [D.beq]
  | .exn a d i, b => by cases b <;> simp [D.beq, and_assoc]
theorem D.beqs_iff : ∀ a b : List D, D.beqs a b = true ↔ a = b
  | [], b => by cases b <;> simp [D.beqs]
  | a :: r, b => by
    cases b with
    | nil => simp [D.beqs]
    | cons c t => simp [D.beqs, D.beq_iff a c, D.beqs_iff r t]
end
instance : DecidableEq D := fun a b => decidable_of_iff _ (D.beq_iff a b)
/-- keys -/
abbrev Ky := Sum Int Tx
def kD : Ky → D
  | .inl i => .int i
  | .inr s => .str s
def toKy : D → Option Ky
  | .int i => some (.inl i)
  | .str s => some (.inr s)
  | _ => none
/-- objects: a list; a dict (while it is walked: true); an instance of a class by its number, its attributes by their numbers -/
inductive O where
  | lst (ds : List D)
  | dct (lk : Bool) (kvs : List (Ky × D))
  | ins (C : Nat) (fs : List (Nat × D))
  | xdc (fs : List (Nat × D))
  deriving DecidableEq, Inhabited
abbrev M := List O
/-- an error: its class's number, its dict's place -/
structure Xn where
  c : Nat
  dx : Option Nat
inductive R (α : Type) where
  | ok (a : α) (m : M)
  | exc (x : Xn) (m : M)
  | bad
def R.bind {α β : Type} (r : R α) (f : α → M → R β) : R β := match r with
  | .ok a m => f a m
  | .exc x m => .exc x m
  | .bad => .bad
@[simp] theorem R.bind_ok {α β : Type} (a : α) (m : M) (f : α → M → R β) : (R.ok a m).bind f = f a m := rfl
@[simp] theorem R.bind_exc {α β : Type} (a : Xn) (m : M) (f : α → M → R β) : (R.exc a m : R α).bind f = .exc a m := rfl
@[simp] theorem R.bind_bad {α β : Type} (f : α → M → R β) : (R.bad : R α).bind f = .bad := rfl
/-- an operation lets nothing out -/
def R.calm {α : Type} (r : R α) : R α := match r with
  | .ok a m => .ok a m
  | _ => .bad
@[simp] theorem R.calm_ok {α : Type} (a : α) (m : M) : (R.ok a m).calm = .ok a m := rfl
@[simp] theorem R.calm_bad {α : Type} : (R.bad : R α).calm = .bad := rfl
abbrev Fr := List (Option D)
abbrev ME := Fr → M → R D
abbrev MT := Fr → M → R Bool
abbrev MA := Fr → M → R (List D)
abbrev MF := List D → M → R D
abbrev MG := D → Fr → M → R Fr
/-- what is walked: the items, and what must stay as it is -/
abbrev MI := Fr → M → R (List D × (M → Bool))
inductive SR where
  | nx (ρ : Fr) (m : M)
  | rt (d : D) (m : M)
  | bk (ρ : Fr) (m : M)
  | ct (ρ : Fr) (m : M)
  | exc (x : Xn) (ρ : Fr) (m : M)
  | bad
abbrev MS := Fr → M → SR

/-- the greatest size of a list, a text -/
def LIM : Nat := 1000000

/-! ### expressions -/
def eV (i : Nat) : ME := fun ρ m => match ρ[i]? with
  | some (some d) => .ok d m
  | _ => .bad
def eC (d : D) : ME := fun _ m => .ok d m
def eOp (f : D → D → M → R D) (a b : ME) : ME := fun ρ m => (a ρ m).bind fun x m1 => (b ρ m1).bind fun y m2 => (f x y m2).calm
def eUn (f : D → M → R D) (a : ME) : ME := fun ρ m => (a ρ m).bind fun x m1 => (f x m1).calm
def aNil : MA := fun _ m => .ok [] m
def aCons (a : ME) (r : MA) : MA := fun ρ m => (a ρ m).bind fun x m1 => (r ρ m1).bind fun xs m2 => .ok (x :: xs) m2
def eFn (f : MF) (a : MA) : ME := fun ρ m => (a ρ m).bind f
/-- o.f(..), o an instance of the class C -/
def isIns (C : Nat) (d : D) (m : M) : Bool := match d with
  | .ref a => match m[a]? with
    | some (.ins C' _) => C' == C
    | _ => false
  | _ => false
def eMeth (C : Nat) (f : MF) (o : ME) (a : MA) : ME := fun ρ m => (o ρ m).bind fun x m1 => if isIns C x m1 then (a ρ m1).bind fun xs m2 => f (x :: xs) m2 else .bad
/-- a new instance, then its __init__ -/
def eNew (C : Nat) (f : MF) (a : MA) : ME := fun ρ m => (a ρ m).bind fun xs m1 => (f (.ref m1.length :: xs) (m1 ++ [.ins C []])).bind fun v m2 => if v = .non then .ok (.ref m1.length) m2 else .bad
def eTup (a : MA) : ME := fun ρ m => (a ρ m).bind fun xs m1 => if xs.length ≤ LIM then .ok (.tup xs) m1 else .bad
def eLst (a : MA) : ME := fun ρ m => (a ρ m).bind fun xs m1 => if xs.length ≤ LIM then .ok (.ref m1.length) (m1 ++ [.lst xs]) else .bad
/-- in its place, or at the end -/
def putKv (kvs : List (Ky × D)) (k : Ky) (v : D) : List (Ky × D) :=
  if (kvs.any fun kv => decide (kv.1 = k)) = true then kvs.map (fun kv => if kv.1 = k then (kv.1, v) else kv) else kvs ++ [(k, v)]
def getKv (kvs : List (Ky × D)) (k : Ky) : Option D := match kvs with
  | [] => none
  | (k', v) :: r => if k' = k then some v else getKv r k
def dropKv (kvs : List (Ky × D)) (k : Ky) : List (Ky × D) := kvs.filter fun kv => decide (kv.1 ≠ k)
def pairUp : List D → Option (List (Ky × D))
  | [] => some []
  | k :: v :: r => match toKy k, pairUp r with
    | some k', some t => some ((k', v) :: t)
    | _, _ => none
  | _ => none
/-- a displayed dict: keys and values by turns -/
def eDct (a : MA) : ME := fun ρ m => (a ρ (m ++ [.dct false []])).bind fun xs m1 => match pairUp xs with
  | some kvs => if kvs.length ≤ 15 ∧ m1[m.length]? = some (.dct false []) then .ok (.ref m.length) (m1.set m.length (.dct false (kvs.foldl (fun acc kv => putKv acc kv.1 kv.2) []))) else .bad
  | none => .bad

def eD0 : ME := fun _ m => .ok (.ref m.length) (m ++ [.dct false []])
def getF (fs : List (Nat × D)) (k : Nat) : Option D := match fs with
  | [] => none
  | (k', v) :: r => if k' = k then some v else getF r k
def putFd (fs : List (Nat × D)) (k : Nat) (v : D) : List (Nat × D) := match fs with
  | [] => [(k, v)]
  | (k', v') :: r => if k' = k then (k', v) :: r else (k', v') :: putFd r k v
/-- o.f, o an instance of one of the classes Cs -/
def pFld (Cs : List Nat) (k : Nat) (o : D) (m : M) : R D := match o with
  | .ref a => match m[a]? with
    | some (.ins C fs) => if C ∈ Cs then match getF fs k with
        | some v => .ok v m
        | none => .bad
      else .bad
    | _ => .bad
  | _ => .bad
def eFld (Cs : List Nat) (k : Nat) (o : ME) : ME := eUn (pFld Cs k) o

/-! ### operators -/
def pAdd (x y : D) (m : M) : R D := match x, y with
  | .int i, .int j => .ok (.int (i + j)) m
  | .str a, .str b => if a.length + b.length ≤ LIM then .ok (.str (a ++ b)) m else .bad
  | .ref a, .ref b => match m[a]?, m[b]? with
    | some (.lst xs), some (.lst ys) => if xs.length + ys.length ≤ LIM then .ok (.ref m.length) (m ++ [.lst (xs ++ ys)]) else .bad
    | _, _ => .bad
  | _, _ => .bad
def pSub (x y : D) (m : M) : R D := match x, y with
  | .int i, .int j => .ok (.int (i - j)) m
  | _, _ => .bad
def pMul (x y : D) (m : M) : R D := match x, y with
  | .int i, .int j => if (-(2 ^ 64) < i ∧ i < 2 ^ 64) ∨ (-(2 ^ 64) < j ∧ j < 2 ^ 64) then .ok (.int (i * j)) m else .bad
  | .str [c], .int j => if 0 < j ∧ j ≤ 1000 then .ok (.str (List.replicate j.toNat c)) m else .bad
  | _, _ => .bad
def pDiv (x y : D) (m : M) : R D := match x, y with
  | .int i, .int j => if j ≠ 0 ∧ j.natAbs < 1073741824 then .ok (.int (i.fdiv j)) m else .bad
  | _, _ => .bad
def pMod (x y : D) (m : M) : R D := match x, y with
  | .int i, .int j => if j ≠ 0 then .ok (.int (i.fmod j)) m else .bad
  | _, _ => .bad
def pPow (x y : D) (m : M) : R D := match x, y with
  | .int i, .int j => if 0 ≤ j ∧ j ≤ 1000 ∧ i.natAbs < 2 ^ 64 then .ok (.int (i ^ j.toNat)) m else .bad
  | _, _ => .bad
def pNeg (x : D) (m : M) : R D := match x with
  | .int i => .ok (.int (-i)) m
  | _ => .bad
def pLt (x y : D) (m : M) : R D := match x, y with
  | .int i, .int j => .ok (.bl (decide (i < j))) m
  | .str a, .str b => .ok (.bl (decide (a < b))) m
  | _, _ => .bad
def pGt (x y : D) (m : M) : R D := match x, y with
  | .int i, .int j => .ok (.bl (decide (j < i))) m
  | .str a, .str b => .ok (.bl (decide (b < a))) m
  | _, _ => .bad
def pLe (x y : D) (m : M) : R D := match x, y with
  | .int i, .int j => .ok (.bl (decide (i ≤ j))) m
  | _, _ => .bad
def pGe (x y : D) (m : M) : R D := match x, y with
  | .int i, .int j => .ok (.bl (decide (j ≤ i))) m
  | _, _ => .bad

/-! ### equality, of data -/
inductive T where
  | non
  | bl (b : Bool)
  | int (i : Int)
  | str (s : Tx)
  | tup (ds : List T)
  | lst (ds : List T)
mutual
def T.beq : T → T → Bool
  | .non, .non => true
  | .bl a, .bl b => a == b
  | .int a, .int b => a == b
  | .str a, .str b => a == b
  | .tup a, .tup b => T.beqs a b
  | .lst a, .lst b => T.beqs a b
  | _, _ => false
def T.beqs : List T → List T → Bool
  | [], [] => true
  | a :: r, b :: t => T.beq a b && T.beqs r t
  | _, _ => false
end
mutual
theorem T.beq_iff : ∀ a b : T, T.beq a b = true ↔ a = b
  | .non, b => by cases b <;> simp [T.beq]
  | .bl a, b => by cases b <;> simp [T.beq]
  | .int a, b => by cases b <;> simp [T.beq]
  | .str a, b => by cases b <;> simp [T.beq]
  | .tup a, b => by
    cases b with
    | tup c => simp [T.beq, T.beqs_iff a c]
    | _ => simp [T.beq]
  | .lst a, b => by
    cases b with
    | lst c => simp [T.beq, T.beqs_iff a c]
    | _ => simp [T.beq]
theorem T.beqs_iff : ∀ a b : List T, T.beqs a b = true ↔ a = b
  | [], b => by cases b <;> simp [T.beqs]
  | a :: r, b => by
    cases b with
    | nil => simp [T.beqs]
    | cons c t => simp [T.beqs, T.beq_iff a c, T.beqs_iff r t]
end
instance : DecidableEq T := fun a b => decidable_of_iff _ (T.beq_iff a b)
def T.isBl : T → Bool
  | .bl _ => true
  | _ => false
mutual
def T.noBl : T → Bool
  | .bl _ => false
  | .tup ds => T.noBls ds
  | .lst ds => T.noBls ds
  | _ => true
def T.noBls : List T → Bool
  | [] => true
  | a :: r => T.noBl a && T.noBls r
end
def strOkT (s : Tx) : Bool := s.all fun c => decide (c < 1114112)
def treesW (f : D → Option T) : List D → Option (List T)
  | [] => some []
  | d :: r => match f d, treesW f r with
    | some t, some ts => some (t :: ts)
    | _, _ => none
/-- data as a tree, through lists -/
def tree : Nat → M → D → Option T
  | 0, _, _ => none
  | n + 1, m, d => match d with
    | .non => some .non
    | .bl b => some (.bl b)
    | .int i => some (.int i)
    | .str s => some (.str s)
    | .tup ds => (treesW (tree n m) ds).map .tup
    | .ref a => match m[a]? with
      | some (.lst ds) => (treesW (tree n m) ds).map .lst
      | _ => none
    | .fls _ => none
    | .adr _ => none
    | .exn _ _ _ => none
def DEP : Nat := 30
def okEq (s t : T) : Bool := (T.noBl s && T.noBl t) || (T.isBl s && T.isBl t)
/-- x == y, where it is told -/
def eqO (m : M) (x y : D) : Option Bool := match tree DEP m x, tree DEP m y with
  | some s, some t => if okEq s t then some (decide (s = t)) else none
  | _, _ => match x, y with
    | .ref a, .ref b => match m[a]?, m[b]? with
      | some (.dct _ ks), some (.dct _ ls) => if ks.length ≠ ls.length then some false else if ks.length = 0 then some true else none
      | some (.lst ks), some (.lst ls) => if ks.length ≠ ls.length then some false else if ks.length = 0 then some true else none
      | _, _ => none
    | _, _ => none
def pEq (x y : D) (m : M) : R D := match eqO m x y with
  | some b => .ok (.bl b) m
  | none => .bad
def pNe (x y : D) (m : M) : R D := match eqO m x y with
  | some b => .ok (.bl (!b)) m
  | none => .bad
/-- x in y -/
def inO (m : M) (x y : D) : Option Bool := match y with
  | .str s => match x with
    | .str [c] => some (decide (c ∈ s))
    | _ => none
  | .tup _ => match tree DEP m x, tree DEP m y with
    | some t, some (.tup ts) => if T.noBl t && T.noBls ts then some (decide (t ∈ ts)) else none
    | _, _ => none
  | .ref a => match m[a]? with
    | some (.dct _ kvs) => match toKy x with
      | some k => some (getKv kvs k).isSome
      | none => none
    | some (.lst _) => match tree DEP m x, tree DEP m y with
      | some t, some (.lst ts) => if T.noBl t && T.noBls ts then some (decide (t ∈ ts)) else none
      | _, _ => none
    | _ => none
  | _ => none
def pIn (x y : D) (m : M) : R D := match inO m x y with
  | some b => .ok (.bl b) m
  | none => .bad
def pNotIn (x y : D) (m : M) : R D := match inO m x y with
  | some b => .ok (.bl (!b)) m
  | none => .bad
def pIsN (x : D) (m : M) : R D := .ok (.bl (decide (x = .non))) m
def pNotN (x : D) (m : M) : R D := .ok (.bl (!decide (x = .non))) m

/-! ### places -/
def ixN (n : Nat) (i : Int) : Option Nat := if 0 ≤ i then (if i < n then some i.toNat else none) else if -(n : Int) ≤ i then some (i + n).toNat else none
def atI {α : Type} (xs : List α) (i : Int) : Option α := (ixN xs.length i).bind fun j => xs[j]?
def pIx (o i : D) (m : M) : R D := match o with
  | .fls xs => match i with
    | .int k => match atI xs k with
      | some v => .ok v m
      | none => .bad
    | _ => .bad
  | .tup xs => match i with
    | .int k => match atI xs k with
      | some v => .ok v m
      | none => .bad
    | _ => .bad
  | .str s => match i with
    | .int k => if s.length ≤ LIM then match atI s k with
        | some c => .ok (.str [c]) m
        | none => .bad
      else .bad
    | _ => .bad
  | .ref a => match m[a]? with
    | some (.lst xs) => match i with
      | .int k => match atI xs k with
        | some v => .ok v m
        | none => .bad
      | _ => .bad
    | some (.dct _ kvs) => match toKy i with
      | some k => match getKv kvs k with
        | some v => .ok v m
        | none => .bad
      | none => .bad
    | _ => .bad
  | _ => .bad
def sIx (n d : Nat) : Option Int → Nat
  | none => d
  | some i => if i < 0 then (i + (n : Int)).toNat else min i.toNat n
def cut {α : Type} (xs : List α) (lo hi : Option Int) : List α := (xs.drop (sIx xs.length 0 lo)).take (sIx xs.length xs.length hi - sIx xs.length 0 lo)
abbrev MO := Fr → M → R (Option Int)
def oNone : MO := fun _ m => .ok none m
def oSome (e : ME) : MO := fun ρ m => (e ρ m).bind fun x m1 => match x with
  | .int i => .ok (some i) m1
  | _ => .bad
def eSl (o : ME) (lo hi : MO) : ME := fun ρ m => (o ρ m).bind fun x m1 => (lo ρ m1).bind fun l m2 => (hi ρ m2).bind fun h m3 => match x with
  | .str s => if s.length ≤ LIM then .ok (.str (cut s l h)) m3 else .bad
  | .tup xs => if sIx xs.length 0 l = 0 ∧ sIx xs.length xs.length h = xs.length then .bad else .ok (.tup (cut xs l h)) m3
  | .ref a => match m3[a]? with
    | some (.lst xs) => .ok (.ref m3.length) (m3 ++ [.lst (cut xs l h)])
    | _ => .bad
  | _ => .bad

/-- a table of the text, from texts to ints -/
def tabGet (tab : List (Tx × Int)) (s : Tx) : Option Int := match tab with
  | [] => none
  | (k, v) :: r => if k = s then some v else tabGet r s
def pTab (tab : List (Tx × Int)) (x : D) (m : M) : R D := match x with
  | .str s => match tabGet tab s with
    | some n => .ok (.int n) m
    | none => .bad
  | _ => .bad
def eTab (tab : List (Tx × Int)) (e : ME) : ME := eUn (pTab tab) e

/-! ### built-ins -/
def numT (n : Nat) : Tx := (Nat.toDigits 10 n).map Char.toNat
def isDig (c : Nat) : Bool := decide (48 ≤ c ∧ c ≤ 57)
def valT (s : Tx) : Nat := s.foldl (fun a c => a * 10 + (c - 48)) 0
def pLen (x : D) (m : M) : R D := match x with
  | .str s => if s.length ≤ LIM then .ok (.int s.length) m else .bad
  | .tup xs => .ok (.int xs.length) m
  | .fls xs => .ok (.int xs.length) m
  | .ref a => match m[a]? with
    | some (.lst xs) => .ok (.int xs.length) m
    | some (.dct false kvs) => .ok (.int kvs.length) m
    | _ => .bad
  | _ => .bad
def pStr (x : D) (m : M) : R D := match x with
  | .int i => if 0 ≤ i ∧ i < 10000000000 then .ok (.str (numT i.toNat)) m else .bad
  | _ => .bad
def pInt (x : D) (m : M) : R D := match x with
  | .int i => .ok (.int i) m
  | .bl b => .ok (.int (if b then 1 else 0)) m
  | .str s => if s ≠ [] ∧ s.length ≤ 20 ∧ s.all isDig = true then .ok (.int (valT s)) m else .bad
  | _ => .bad
def keysOf (kvs : List (Ky × D)) : List D := kvs.map fun kv => kD kv.1
/-- list(x) -/
def pList (x : D) (m : M) : R D := match x with
  | .tup xs => .ok (.ref m.length) (m ++ [.lst xs])
  | .ref a => match m[a]? with
    | some (.lst xs) => .ok (.ref m.length) (m ++ [.lst xs])
    | some (.dct false kvs) => .ok (.ref m.length) (m ++ [.lst (keysOf kvs)])
    | _ => .bad
  | _ => .bad
def pTuple (x : D) (m : M) : R D := match x with
  | .tup xs => .ok (.tup xs) m
  | .ref a => match m[a]? with
    | some (.lst xs) => .ok (.tup xs) m
    | _ => .bad
  | _ => .bad
def pDict (x : D) (m : M) : R D := match x with
  | .ref a => match m[a]? with
    | some (.dct _ kvs) => .ok (.ref m.length) (m ++ [.dct false kvs])
    | _ => .bad
  | _ => .bad
def insT (x : Tx) : List Tx → List Tx
  | [] => [x]
  | y :: r => if y < x then y :: insT x r else x :: y :: r
def sortT (xs : List Tx) : List Tx := xs.foldr insT []
def insI (x : Int) : List Int → List Int
  | [] => [x]
  | y :: r => if y < x then y :: insI x r else x :: y :: r
def sortI (xs : List Int) : List Int := xs.foldr insI []
def allStr : List D → Option (List Tx)
  | [] => some []
  | .str s :: r => (allStr r).map (s :: ·)
  | _ => none
def allInt : List D → Option (List Int)
  | [] => some []
  | .int s :: r => (allInt r).map (s :: ·)
  | _ => none
def itemsOf (x : D) (m : M) : Option (List D) := match x with
  | .ref a => match m[a]? with
    | some (.lst xs) => some xs
    | some (.dct _ kvs) => some (keysOf kvs)
    | _ => none
  | _ => none
/-- sorted(x), of texts or of ints -/
def pSorted (x : D) (m : M) : R D := match itemsOf x m with
  | some xs => if xs.length < 64 then match allStr xs with
      | some ss => .ok (.ref m.length) (m ++ [.lst ((sortT ss).map .str)])
      | none => match allInt xs with
        | some ns => .ok (.ref m.length) (m ++ [.lst ((sortI ns).map .int)])
        | none => .bad
    else .bad
  | none => .bad
/-- isinstance(x, str) -/
def pIsStr (x : D) (m : M) : R D := match x with
  | .str _ => .ok (.bl true) m
  | _ => .bad
/-- isinstance(x, list) -/
def pIsList (x : D) (m : M) : R D := match x with
  | .ref a => match m[a]? with
    | some (.lst _) => .ok (.bl true) m
    | _ => .bad
  | _ => .bad

/-! ### methods -/
def pAppend (o v : D) (m : M) : R D := match o with
  | .ref a => match m[a]? with
    | some (.lst xs) => if xs.length < LIM then .ok .non (m.set a (.lst (xs ++ [v]))) else .bad
    | _ => .bad
  | _ => .bad
/-- xs.pop(i) -/
def pPopL (o i : D) (m : M) : R D := match o with
  | .ref a => match m[a]? with
    | some (.lst xs) => match i with
      | .int k => if 0 ≤ k then match xs[k.toNat]? with
          | some v => .ok v (m.set a (.lst (xs.eraseIdx k.toNat)))
          | none => .bad
        else .bad
      | _ => .bad
    | _ => .bad
  | _ => .bad
/-- d.pop(k) -/
def pPopD (o i : D) (m : M) : R D := match o with
  | .ref a => match m[a]? with
    | some (.dct false kvs) => match toKy i with
      | some k => match getKv kvs k with
        | some v => .ok v (m.set a (.dct false (dropKv kvs k)))
        | none => .bad
      | none => .bad
    | _ => .bad
  | _ => .bad
def firstIx (t : T) : List T → Option Nat
  | [] => none
  | x :: r => if x = t then some 0 else (firstIx t r).map (· + 1)
/-- xs.index(v) -/
def pIndex (o v : D) (m : M) : R D := match o with
  | .ref a => match tree DEP m v, tree DEP m o with
    | some t, some (.lst ts) => if T.noBl t && T.noBls ts then match firstIx t ts with
        | some j => .ok (.int j) m
        | none => .bad
      else .bad
    | _, _ => .bad
  | _ => .bad
def pGet2 (o k d : D) (m : M) : R D := match o with
  | .ref a => match m[a]? with
    | some (.dct _ kvs) => match toKy k with
      | some k' => .ok ((getKv kvs k').getD d) m
      | none => .bad
    | _ => .bad
  | _ => .bad
/-- 0: a list, 1: a dict, 2: a text -/
def isTy (T : Nat) (x : D) (m : M) : Bool := match x with
  | .str _ => T == 2
  | .ref a => match m[a]? with
    | some (.lst _) => T == 0
    | some (.dct false _) => T == 1
    | _ => false
  | _ => false
/-- o.f(a), a method of a built-in type -/
def eM1 (T : Nat) (f : D → D → M → R D) (o a : ME) : ME := fun ρ m => (o ρ m).bind fun x m1 => if isTy T x m1 then (a ρ m1).bind fun y m2 => (f x y m2).calm else .bad
def isDic (x : D) (m : M) : Bool := match x with
  | .ref a => match m[a]? with
    | some (.dct _ _) => true
    | _ => false
  | _ => false
def eGet2 (o k d : ME) : ME := fun ρ m => (o ρ m).bind fun x m1 => if isDic x m1 = false then .bad else (k ρ m1).bind fun y m2 => (d ρ m2).bind fun z m3 => (pGet2 x y z m3).calm
/-- d.update(d2) -/
def pUpdate (o v : D) (m : M) : R D := match o, v with
  | .ref a, .ref b => match m[a]?, m[b]? with
    | some (.dct false ks), some (.dct _ ls) => if a ≠ b ∧ ks.length + ls.length ≤ LIM then .ok .non (m.set a (.dct false (ls.foldl (fun acc kv => putKv acc kv.1 kv.2) ks))) else .bad
    | _, _ => .bad
  | _, _ => .bad
/-- l is cut at each one-sign separator -/
def splT (c : Nat) : Tx → Tx → List Tx
  | acc, [] => [acc]
  | acc, d :: r => if d = c then acc :: splT c [] r else splT c (acc ++ [d]) r
def pSplit (o v : D) (m : M) : R D := match o, v with
  | .str s, .str [c] => if s.length ≤ LIM ∧ c < 256 then .ok (.ref m.length) (m ++ [.lst ((splT c [] s).map .str)]) else .bad
  | _, _ => .bad
def parT (c : Nat) : Tx → Tx → Option (Tx × Tx)
  | _, [] => none
  | acc, d :: r => if d = c then some (acc, r) else parT c (acc ++ [d]) r
def pPartition (o v : D) (m : M) : R D := match o, v with
  | .str s, .str [c] => if s.length ≤ LIM then match parT c [] s with
      | some (a, b) => .ok (.tup [.str a, .str [c], .str b]) m
      | none => .ok (.tup [.str s, .str [], .str []]) m
    else .bad
  | _, _ => .bad
def joinT (s : Tx) : List Tx → Tx
  | [] => []
  | [p] => p
  | p :: q :: r => p ++ (s ++ joinT s (q :: r))
def pJoin (o v : D) (m : M) : R D := match o, v with
  | .str s, .ref a => match m[a]? with
    | some (.lst xs) => match allStr xs with
      | some ys => if (ys.map (·.length)).sum + ys.length * s.length ≤ LIM then .ok (.str (joinT s ys)) m else .bad
      | none => .bad
    | _ => .bad
  | _, _ => .bad

/-! ### tests -/
def tV (a : ME) : MT := fun ρ m => (a ρ m).bind fun x m1 => match x with
  | .bl b => .ok b m1
  | _ => .bad
def tNot (a : MT) : MT := fun ρ m => (a ρ m).bind fun x m1 => .ok (!x) m1
def tAnd (a b : MT) : MT := fun ρ m => (a ρ m).bind fun x m1 => if x then b ρ m1 else .ok false m1
def tOr (a b : MT) : MT := fun ρ m => (a ρ m).bind fun x m1 => if x then .ok true m1 else b ρ m1
def eAnd (a b : ME) : ME := fun ρ m => (a ρ m).bind fun x m1 => match x with
  | .bl true => b ρ m1
  | .bl false => .ok (.bl false) m1
  | _ => .bad
def eOr (a b : ME) : ME := fun ρ m => (a ρ m).bind fun x m1 => match x with
  | .bl true => .ok (.bl true) m1
  | .bl false => b ρ m1
  | _ => .bad
def eNot (a : ME) : ME := fun ρ m => (a ρ m).bind fun x m1 => match x with
  | .bl b => .ok (.bl (!b)) m1
  | _ => .bad
def eIf (t : MT) (a b : ME) : ME := fun ρ m => (t ρ m).bind fun x m1 => if x then a ρ m1 else b ρ m1
/-- a < b < c -/
def eChain (f g : D → D → M → R D) (a b c : ME) : ME := fun ρ m => (a ρ m).bind fun x m1 => (b ρ m1).bind fun y m2 => (f x y m2).calm.bind fun k m3 => match k with
  | .bl true => (c ρ m3).bind fun z m4 => (g y z m4).calm
  | .bl false => .ok (.bl false) m3
  | _ => .bad

/-! ### what is walked -/
def isObj (m : M) (a : Nat) (o : O) : Bool := decide (m[a]? = some o)
def iList (e : ME) : MI := fun ρ m => (e ρ m).bind fun x m1 => match x with
  | .ref a => match m1[a]? with
    | some (.lst xs) => .ok (xs, fun m => isObj m a (.lst xs)) m1
    | _ => .bad
  | _ => .bad
def iTup (e : ME) : MI := fun ρ m => (e ρ m).bind fun x m1 => match x with
  | .tup xs => .ok (xs, fun _ => true) m1
  | _ => .bad
def iStr (e : ME) : MI := fun ρ m => (e ρ m).bind fun x m1 => match x with
  | .str s => .ok (s.map (fun c => D.str [c]), fun _ => true) m1
  | _ => .bad
/-- the keys of a dict that is locked -/
def iKeys (e : ME) : MI := fun ρ m => (e ρ m).bind fun x m1 => match x with
  | .ref a => match m1[a]? with
    | some (.dct true kvs) => .ok (keysOf kvs, fun m => isObj m a (.dct true kvs)) m1
    | _ => .bad
  | _ => .bad
def rng (lo : Int) (n : Nat) : List D := (List.range n).map fun (k : Nat) => D.int (lo + (k : Int))
def iRng1 (e : ME) : MI := fun ρ m => (e ρ m).bind fun x m1 => match x with
  | .int j => if j < 1000000 ∧ -1000000 < j then .ok (rng 0 j.toNat, fun _ => true) m1 else .bad
  | _ => .bad
def iRng2 (e f : ME) : MI := fun ρ m => (e ρ m).bind fun x m1 => (f ρ m1).bind fun y m2 => match x, y with
  | .int i, .int j => if -1000000 < i ∧ i < 1000000 ∧ j < 1000000 ∧ -1000000 < j then .ok (rng i (j - i).toNat, fun _ => true) m2 else .bad
  | _, _ => .bad
/-- range(0, n, 3) -/
def iRng3 (a : MA) : MI := fun ρ m => (a ρ m).bind fun xs m1 => match xs with
  | [.int 0, .int j, .int 3] => if 0 ≤ j ∧ j < 1000000 then .ok ((List.range ((j.toNat + 2) / 3)).map fun (k : Nat) => D.int ((k : Int) * 3), fun _ => true) m1 else .bad
  | _ => .bad
def numbered : Nat → List D → List D
  | _, [] => []
  | n, d :: r => .tup [.int n, d] :: numbered (n + 1) r
def iEnum (e : ME) : MI := fun ρ m => (e ρ m).bind fun x m1 => match x with
  | .ref a => match m1[a]? with
    | some (.lst xs) => .ok (numbered 0 xs, fun m => isObj m a (.lst xs)) m1
    | _ => .bad
  | _ => .bad

/-! ### comprehensions -/
def lcGo (i : Nat) (ρ : Fr) (chk : M → Bool) (t : MT) (e : ME) : List D → List D → M → R (List D)
  | [], acc, m => if chk m then .ok acc m else .bad
  | d :: ds, acc, m => if chk m then (t (ρ.set i (some d)) m).bind fun b m1 => if b then (e (ρ.set i (some d)) m1).bind fun v m2 => lcGo i ρ chk t e ds (acc ++ [v]) m2 else lcGo i ρ chk t e ds acc m1 else .bad
def tYes : MT := fun _ m => .ok true m
def eLc (i : Nat) (it : MI) (t : MT) (e : ME) : ME := fun ρ m => (it ρ m).bind fun p m1 => if p.1.length ≤ LIM then match lcGo i ρ p.2 t e p.1 [] m1 with
  | .ok vs m2 => .ok (.ref m2.length) (m2 ++ [.lst vs])
  | _ => .bad else .bad
/-- under the lock of the dict that e tells -/
def eLock (e : ME) (x : ME) : ME := fun ρ m => match e ρ m with
  | .ok (.ref a) _ => match m[a]? with
    | some (.dct true _) => x ρ m
    | some (.dct false kvs) => (x ρ (m.set a (.dct true kvs))).bind fun v m2 => if isObj m2 a (.dct true kvs) then .ok v (m2.set a (.dct false kvs)) else .bad
    | _ => .bad
  | _ => .bad

/-! ### statements -/
def gV (i : Nat) : MG := fun d ρ m => .ok (ρ.set i (some d)) m
def gAll : List MG → List D → Fr → M → R Fr
  | [], [], ρ, m => .ok ρ m
  | g :: gs, d :: ds, ρ, m => (g d ρ m).bind fun ρ1 m1 => gAll gs ds ρ1 m1
  | _, _, _, _ => .bad
def gTup (gs : List MG) : MG := fun d ρ m => match d with
  | .tup ds => gAll gs ds ρ m
  | _ => .bad
def sSeq (a b : MS) : MS := fun ρ m => match a ρ m with
  | .nx ρ1 m1 => b ρ1 m1
  | r => r
/-- a statement that must not be reached -/
def sBad : MS := fun _ _ => .bad
def sPass : MS := fun ρ m => .nx ρ m
def sCont : MS := fun ρ m => .ct ρ m
/-- an expression's end within a statement -/
def R.toS {α : Type} (r : R α) (ρ : Fr) (f : α → M → SR) : SR := match r with
  | .ok d m => f d m
  | .exc x m => .exc x ρ m
  | .bad => .bad
@[simp] theorem R.toS_ok {α : Type} (a : α) (m : M) (ρ : Fr) (f : α → M → SR) : (R.ok a m).toS ρ f = f a m := rfl
@[simp] theorem R.toS_exc {α : Type} (x : Xn) (m : M) (ρ : Fr) (f : α → M → SR) : (R.exc x m : R α).toS ρ f = .exc x ρ m := rfl
@[simp] theorem R.toS_bad {α : Type} (ρ : Fr) (f : α → M → SR) : (R.bad : R α).toS ρ f = .bad := rfl
def sExp (e : ME) : MS := fun ρ m => (e ρ m).toS ρ fun _ m1 => .nx ρ m1
def sRet (e : ME) : MS := fun ρ m => (e ρ m).toS ρ fun d m1 => .rt d m1
def gDo (g : MG) (d : D) (ρ : Fr) (m : M) : SR := match g d ρ m with
  | .ok ρ1 m2 => .nx ρ1 m2
  | _ => .bad
def sAsg (g : MG) (e : ME) : MS := fun ρ m => (e ρ m).toS ρ fun d m1 => gDo g d ρ m1
def ofO (ρ : Fr) (o : Option M) : SR := match o with
  | some m => .nx ρ m
  | none => .bad
def pSetIx (o i v : D) (m : M) : Option M := match o with
  | .ref a => match m[a]? with
    | some (.lst xs) => match i with
      | .int k => match ixN xs.length k with
        | some j => some (m.set a (.lst (xs.set j v)))
        | none => none
      | _ => none
    | some (.dct false kvs) => match toKy i with
      | some k => if kvs.length < LIM then some (m.set a (.dct false (putKv kvs k v))) else none
      | none => none
    | _ => none
  | _ => none
/-- o[i] = v: v, o, i -/
def sSetIx (o i v : ME) : MS := fun ρ m => (v ρ m).toS ρ fun z m1 => (o ρ m1).toS ρ fun x m2 => (i ρ m2).toS ρ fun y m3 => ofO ρ (pSetIx x y z m3)
def pSetFld (Cs : List Nat) (k : Nat) (o v : D) (m : M) : Option M := match o with
  | .ref a => match m[a]? with
    | some (.ins C fs) => if C ∈ Cs ∧ fs.length < 100 then some (m.set a (.ins C (putFd fs k v))) else none
    | _ => none
  | _ => none
/-- o.f = v: v, o -/
def sSetFld (Cs : List Nat) (k : Nat) (o v : ME) : MS := fun ρ m => (v ρ m).toS ρ fun z m1 => (o ρ m1).toS ρ fun x m2 => ofO ρ (pSetFld Cs k x z m2)
def sIf (t : MT) (a b : MS) : MS := fun ρ m => (t ρ m).toS ρ fun c m1 => if c then a ρ m1 else b ρ m1
def forGo (g : MG) (chk : M → Bool) (body : MS) : List D → Fr → M → SR
  | [], ρ, m => if chk m then .nx ρ m else .bad
  | d :: ds, ρ, m => if chk m then match g d ρ m with
      | .ok ρ1 m1 => match body ρ1 m1 with
        | .nx ρ2 m2 => forGo g chk body ds ρ2 m2
        | .ct ρ2 m2 => forGo g chk body ds ρ2 m2
        | .bk ρ2 m2 => .nx ρ2 m2
        | .rt d m2 => .rt d m2
        | .exc x ρ2 m2 => .exc x ρ2 m2
        | .bad => .bad
      | _ => .bad
    else .bad
def sFor (g : MG) (it : MI) (body : MS) : MS := fun ρ m => (it ρ m).toS ρ fun p m1 => forGo g p.2 body p.1 ρ m1
def sLock (e : ME) (s : MS) : MS := fun ρ m => match e ρ m with
  | .ok (.ref a) _ => match m[a]? with
    | some (.dct true _) => s ρ m
    | some (.dct false kvs) => match s ρ (m.set a (.dct true kvs)) with
      | .nx ρ2 m2 => if isObj m2 a (.dct true kvs) then .nx ρ2 (m2.set a (.dct false kvs)) else .bad
      | .rt d m2 => if isObj m2 a (.dct true kvs) then .rt d (m2.set a (.dct false kvs)) else .bad
      | .bk ρ2 m2 => if isObj m2 a (.dct true kvs) then .bk ρ2 (m2.set a (.dct false kvs)) else .bad
      | .ct ρ2 m2 => if isObj m2 a (.dct true kvs) then .ct ρ2 (m2.set a (.dct false kvs)) else .bad
      | .exc x ρ2 m2 => .exc x ρ2 m2
      | .bad => .bad
    | _ => .bad
  | _ => .bad
/-- a def: n parameters, k names in all -/
def mkFn (n k : Nat) (body : MS) : MF := fun ds m => if ds.length = n then match body (ds.map some ++ List.replicate (k - n) none) m with
    | .nx _ m1 => .ok .non m1
    | .rt d m1 => .ok d m1
    | .exc x _ m1 => .exc x m1
    | _ => .bad
  else .bad
end Mn
end

section
set_option Elab.async false
set_option linter.all false
set_option maxRecDepth 100000
set_option maxHeartbeats 2000000
namespace Mn
open PySem PySem.Spec L2 TL
/-- the names of attributes, the addresses of classes -/
structure Tb where
  nm : Nat → Str
  cA : Nat → Addr
  inj : ∀ i j, nm i = nm j → i = j
def mkS (l : Tx) : Str := ⟨l.toArray⟩
theorem mkS_inj {a b : Tx} (h : mkS a = mkS b) : a = b := by
  have := congrArg (fun z => z.cps.toList) h
  simpa [mkS] using this
theorem tl_mkS (a : Tx) : tl (mkS a) = a := by simp [mkS, tl]
theorem len_mkS (a : Tx) : (mkS a).length = a.length := by rw [len_tl, tl_mkS]
theorem mkS_app (a b : Tx) : mkS a ++ mkS b = mkS (a ++ b) := ext_tl (by rw [tl_append, tl_mkS, tl_mkS, tl_mkS])
theorem mkS_tl (x : Str) : mkS (tl x) = x := mk_tl x
/-- a list that nobody writes: known to the object, or an object of the module -/
def Frz (K : PySem.W.Frag) (H : Hp) (a : Addr) (vs : List V) : Prop :=
  (∃ o, H a = some (.frz o (.lst vs))) ∨ ∃ (o : Obj) (its : Array Value) (n : Nat), K.lookup a = some o ∧ o.cls = .type "list" ∧ o.dict = none ∧ o.data = .seq its n ∧ its.size ≤ sizeLine ∧ Vals vs its.toList
theorem Frz.sq {K : PySem.W.Frag} {H : Hp} {a : Addr} {vs : List V} (h : Frz K H a vs) : SqL K H a vs := by
  rcases h with h | h
  · exact .inl (.inr h)
  · exact .inr h
mutual
inductive RD (K : PySem.W.Frag) (ι : List Addr) (H : Hp) : D → V → Prop
  | non : RD K ι H .non .non
  | bl (b : Bool) : RD K ι H (.bl b) (.bl b)
  | int (i : Int) : RD K ι H (.int i) (.int i)
  | str {s : Tx} (ok : strOkT s = true) : RD K ι H (.str s) (.str (mkS s))
  | tup {a : Addr} {ds : List D} {vs : List V} : SqT K H a vs → RDs K ι H ds vs → RD K ι H (.tup ds) (.ref a)
  | fls {a : Addr} {ds : List D} {vs : List V} : Frz K H a vs → RDs K ι H ds vs → RD K ι H (.fls ds) (.ref a)
  | ref {i : Nat} {a : Addr} : ι[i]? = some a → RD K ι H (.ref i) (.ref a)
  | adr (a : Addr) : RD K ι H (.adr a) (.ref a)
  | exn (a : Addr) {d : Addr} {i : Nat} : ι[i]? = some d → RD K ι H (.exn a d i) (.ref a)
inductive RDs (K : PySem.W.Frag) (ι : List Addr) (H : Hp) : List D → List V → Prop
  | nil : RDs K ι H [] []
  | cons {d : D} {v : V} {ds : List D} {vs : List V} : RD K ι H d v → RDs K ι H ds vs → RDs K ι H (d :: ds) (v :: vs)
end
/-- tuples and frozen things stand; what is not ours stands; what is ours and new was free -/
structure Le (ι ι' : List Addr) (H H' : Hp) : Prop where
  tup : ∀ a xs, H a = some (.tup xs) → H' a = some (.tup xs)
  frz : ∀ a o u, H a = some (.frz o u) → H' a = some (.frz o u)
  frm : ∀ a, a ∉ ι → H a ≠ none → H' a = H a
  nw : ∀ a, a ∈ ι' → a ∉ ι → H a = none
theorem Le.refl {ι : List Addr} (H : Hp) : Le ι ι H H := ⟨fun _ _ h => h, fun _ _ _ h => h, fun _ _ _ => rfl, fun _ h n => absurd h n⟩
theorem Le.trans {ι ι1 ι2 : List Addr} {H H1 H2 : Hp} (a : Le ι ι1 H H1) (b : Le ι1 ι2 H1 H2) : Le ι ι2 H H2 := by
  refine ⟨fun x xs h => b.tup _ _ (a.tup _ _ h), fun x o u h => b.frz _ _ _ (a.frz _ _ _ h), fun x hx hn => ?_, fun x h2 hx => ?_⟩
  · have e1 := a.frm x hx hn
    have h1 : x ∉ ι1 := fun z => hn (a.nw x z hx)
    exact (b.frm x h1 (by rw [e1]; exact hn)).trans e1
  · by_cases h1 : x ∈ ι1
    · exact a.nw x h1 hx
    · have e := b.nw x h2 h1
      cases q : H x with
      | none => rfl
      | some o =>
        have := a.frm x hx (by rw [q]; simp)
        rw [e, q] at this
        cases this
theorem snoc_only {ι : List Addr} {p : Addr} : ∀ a, a ∈ ι ++ [p] → a ∉ ι → a = p := fun a h n => by
  rcases List.mem_append.mp h with h | h
  · exact absurd h n
  · exact List.mem_singleton.mp h
theorem Le.new {ι ι' : List Addr} {H : Hp} {p : Addr} {o : HO} (h : H p = none) (hi : ∀ a, a ∈ ι' → a ∉ ι → a = p := by first | exact snoc_only | exact fun _ h n => absurd h n) : Le ι ι' H (upd H p o) :=
  ⟨fun a xs e => by rw [upd_ne (ne_of_none e h)]; exact e, fun a o u e => by rw [upd_ne (ne_of_none e h)]; exact e, fun a _ hn => upd_ne fun z => hn (z ▸ h), fun a h1 h2 => by rw [hi a h1 h2]; exact h⟩
theorem Le.mut {ι : List Addr} {H : Hp} {p : Addr} {o o' : HO} (h : H p = some o) (h1 : ∀ xs, o ≠ .tup xs) (h2 : ∀ ob u, o ≠ .frz ob u) (hp : p ∈ ι := by exact List.mem_of_getElem? (by assumption)) : Le ι ι H (upd H p o') :=
  ⟨fun a xs e => by
    have : a ≠ p := by rintro rfl; rw [h] at e; cases e; exact h1 _ rfl
    rw [upd_ne this]; exact e, fun a ob u e => by
    have : a ≠ p := by rintro rfl; rw [h] at e; cases e; exact h2 _ _ rfl
    rw [upd_ne this]; exact e, fun a ha _ => upd_ne fun z => ha (z ▸ hp), fun a h n => absurd h n⟩
section
variable {K : PySem.W.Frag} {ι ι' : List Addr} {H H' : Hp} {G : Tb}
theorem Le.sqT (l : Le ι ι' H H') {a : Addr} {xs : List V} (h : SqT K H a xs) : SqT K H' a xs := by
  rcases h with (h | ⟨o, h⟩) | h
  · exact .inl (.inl (l.tup _ _ h))
  · exact .inl (.inr ⟨o, l.frz _ _ _ h⟩)
  · exact .inr h
theorem Le.fz (l : Le ι ι' H H') {a : Addr} {xs : List V} (h : Frz K H a xs) : Frz K H' a xs := by
  rcases h with ⟨o, h⟩ | h
  · exact .inl ⟨o, l.frz _ _ _ h⟩
  · exact .inr h
theorem pre_get {i : Nat} {a : Addr} (p : ι <+: ι') (h : ι[i]? = some a) : ι'[i]? = some a := by
  obtain ⟨t, rfl⟩ := p
  have hi : i < ι.length := (List.getElem?_eq_some_iff.mp h).1
  rw [List.getElem?_append_left hi]; exact h
mutual
theorem RD.mono (p : ι <+: ι') (l : Le ι ι' H H') : ∀ (d : D) (v : V), RD K ι H d v → RD K ι' H' d v
  | .non, _, h => by cases h; exact .non
  | .bl b, _, h => by cases h; exact .bl b
  | .int i, _, h => by cases h; exact .int i
  | .str s, _, h => by cases h with | str ok => exact .str ok
  | .tup ds, _, h => by cases h with | tup h1 h2 => exact .tup (l.sqT h1) (RDs.mono p l ds _ h2)
  | .fls ds, _, h => by cases h with | fls h1 h2 => exact .fls (l.fz h1) (RDs.mono p l ds _ h2)
  | .ref i, _, h => by cases h with | ref h1 => exact .ref (pre_get p h1)
  | .adr a, _, h => by cases h; exact .adr a
  | .exn a d i, _, h => by cases h with | exn _ h1 => exact .exn a (pre_get p h1)
theorem RDs.mono (p : ι <+: ι') (l : Le ι ι' H H') : ∀ (ds : List D) (vs : List V), RDs K ι H ds vs → RDs K ι' H' ds vs
  | [], _, h => by cases h; exact .nil
  | d :: ds, _, h => by cases h with | cons h1 h2 => exact .cons (RD.mono p l d _ h1) (RDs.mono p l ds _ h2)
end
theorem RDs.length : ∀ {ds : List D} {vs : List V}, RDs K ι H ds vs → ds.length = vs.length
  | [], _, h => by cases h; rfl
  | d :: ds, _, h => by cases h with | cons h1 h2 => simp [RDs.length h2]
theorem RDs.get : ∀ {ds : List D} {vs : List V} {i : Nat} {d : D}, RDs K ι H ds vs → ds[i]? = some d → ∃ v, vs[i]? = some v ∧ RD K ι H d v
  | [], _, _, _, _, e => by simp at e
  | d :: ds, _, 0, x, h, e => by
    cases h with
    | cons h1 h2 => simp at e; subst e; exact ⟨_, rfl, h1⟩
  | d :: ds, _, i + 1, x, h, e => by
    cases h with
    | cons h1 h2 =>
      obtain ⟨v, e1, r⟩ := RDs.get (i := i) (d := x) h2 (by simpa using e)
      exact ⟨v, by simpa using e1, r⟩
theorem RDs.app : ∀ {ds es : List D} {vs ws : List V}, RDs K ι H ds vs → RDs K ι H es ws → RDs K ι H (ds ++ es) (vs ++ ws)
  | [], _, _, _, h, k => by cases h; exact k
  | d :: ds, _, _, _, h, k => by cases h with | cons h1 h2 => exact .cons h1 (h2.app k)
theorem RDs.take : ∀ {ds : List D} {vs : List V} (n : Nat), RDs K ι H ds vs → RDs K ι H (ds.take n) (vs.take n)
  | _, _, 0, _ => .nil
  | [], _, _ + 1, h => by cases h; exact .nil
  | d :: ds, _, n + 1, h => by cases h with | cons h1 h2 => exact .cons h1 (RDs.take n h2)
theorem RDs.drop : ∀ {ds : List D} {vs : List V} (n : Nat), RDs K ι H ds vs → RDs K ι H (ds.drop n) (vs.drop n)
  | _, _, 0, h => h
  | [], _, _ + 1, h => by cases h; exact .nil
  | d :: ds, _, n + 1, h => by cases h with | cons h1 h2 => exact RDs.drop n h2
theorem RDs.set {x : D} {v : V} (r : RD K ι H x v) : ∀ {ds : List D} {vs : List V} (n : Nat), RDs K ι H ds vs → RDs K ι H (ds.set n x) (vs.set n v)
  | [], _, _, h => by cases h; exact .nil
  | d :: ds, _, 0, h => by cases h with | cons h1 h2 => exact .cons r h2
  | d :: ds, _, n + 1, h => by cases h with | cons h1 h2 => exact .cons h1 (RDs.set r n h2)
theorem RDs.erase : ∀ {ds : List D} {vs : List V} (n : Nat), RDs K ι H ds vs → RDs K ι H (ds.eraseIdx n) (vs.eraseIdx n)
  | [], _, _, h => by cases h; exact .nil
  | d :: ds, _, 0, h => by cases h with | cons h1 h2 => exact h2
  | d :: ds, _, n + 1, h => by cases h with | cons h1 h2 => exact .cons h1 (RDs.erase n h2)
theorem RDs.strs : ∀ {ys : List Tx}, (∀ y ∈ ys, strOkT y = true) → RDs K ι H (ys.map D.str) ((ys.map mkS).map V.str)
  | [], _ => .nil
  | y :: ys, h => .cons (.str (h y List.mem_cons_self)) (RDs.strs fun z hz => h z (List.mem_cons_of_mem _ hz))
theorem RDs.ints : ∀ {ys : List Int}, RDs K ι H (ys.map D.int) (ys.map V.int)
  | [] => .nil
  | y :: ys => .cons (.int y) RDs.ints
theorem paired_map {α β γ δ : Type} {F : α → β → Prop} {E : γ → δ → Prop} (f : α → γ) (g : β → δ) (h : ∀ x y, F x y → E (f x) (g y)) : ∀ {a : List α} {b : List β}, Paired F a b → Paired E (a.map f) (b.map g)
  | _, _, .nil => .nil
  | _, _, .cons r t => .cons (h _ _ r) (paired_map f g h t)
theorem paired_app {α β : Type} {F : α → β → Prop} : ∀ {a c : List α} {b d : List β}, Paired F a b → Paired F c d → Paired F (a ++ c) (b ++ d)
  | _, _, _, _, .nil, k => k
  | _, _, _, _, .cons r t, k => .cons r (paired_app t k)
/-! keys -/
def kyS : Ky → Key
  | .inl i => .inl i
  | .inr s => .inr (mkS s)
def kyOk : Ky → Bool
  | .inl _ => true
  | .inr s => strOkT s
theorem kyS_inj {a b : Ky} (h : kyS a = kyS b) : a = b := by
  cases a <;> cases b <;> simp [kyS] at h ⊢
  · exact h
  · exact mkS_inj h
theorem RD.key {k : Ky} (h : kyOk k = true) : RD K ι H (kD k) (kV (kyS k)) := by
  cases k with
  | inl i => exact .int i
  | inr s => exact .str h
theorem RD.toKy {d : D} {v : V} {k : Ky} (h : RD K ι H d v) (e : toKy d = some k) : v = kV (kyS k) ∧ kyOk k = true := by
  cases h <;> simp [Mn.toKy] at e <;> subst e
  · exact ⟨rfl, rfl⟩
  · rename_i ok; exact ⟨rfl, ok⟩
def RKv (K : PySem.W.Frag) (ι : List Addr) (H : Hp) (p : Ky × D) (q : Key × V) : Prop := q.1 = kyS p.1 ∧ kyOk p.1 = true ∧ RD K ι H p.2 q.2
abbrev RKvs (K : PySem.W.Frag) (ι : List Addr) (H : Hp) : List (Ky × D) → List (Key × V) → Prop := Paired (RKv K ι H)
theorem RKvs.mono (p : ι <+: ι') (l : Le ι ι' H H') {a : List (Ky × D)} {b : List (Key × V)} (h : RKvs K ι H a b) : RKvs K ι' H' a b := Paired.mapP h fun _ _ z => ⟨z.1, z.2.1, RD.mono p l _ _ z.2.2⟩
theorem RKvs.val {k : Ky} : ∀ {a : List (Ky × D)} {b : List (Key × V)}, RKvs K ι H a b → match getKv a k with
    | some d => ∃ v, valV b (kyS k) = some v ∧ RD K ι H d v
    | none => valV b (kyS k) = none
  | _, _, .nil => rfl
  | (k', d) :: a, (q, v) :: b, .cons r t => by
    obtain ⟨e, _, rd⟩ := r
    dsimp only at e rd
    by_cases h : k' = k
    · subst h
      simp only [getKv, if_pos rfl]
      exact ⟨v, valV_pos (p := (q, v)) e, rd⟩
    · have h' : ¬ q = kyS k := fun z => h (kyS_inj (e.symm.trans z))
      simp only [getKv, if_neg h]
      rw [valV_neg (p := (q, v)) h']
      exact RKvs.val t
theorem RKvs.any {k : Ky} : ∀ {a : List (Ky × D)} {b : List (Key × V)}, RKvs K ι H a b → (b.any fun kv => decide (kv.1 = kyS k)) = (a.any fun kv => decide (kv.1 = k))
  | _, _, .nil => rfl
  | (k', d) :: a, (q, v) :: b, .cons r t => by
    obtain ⟨e, _, rd⟩ := r
    dsimp only at e rd
    rw [List.any_cons, List.any_cons, RKvs.any t]
    congr 1
    by_cases h : k' = k
    · simp [h, e]
    · have h' : ¬ q = kyS k := fun z => h (kyS_inj (e.symm.trans z))
      simp [h, h']
theorem RKvs.put {k : Ky} {d : D} {v : V} (hk : kyOk k = true) (hd : RD K ι H d v) {a : List (Ky × D)} {b : List (Key × V)} (h : RKvs K ι H a b) : RKvs K ι H (putKv a k d) (putK b (kyS k) v) := by
  unfold putKv putK
  rw [h.any (k := k)]
  split
  · refine paired_map _ _ (fun p q r => ?_) h
    obtain ⟨k', d'⟩ := p
    obtain ⟨q, v'⟩ := q
    obtain ⟨e, ok, rd⟩ := r
    dsimp only at e rd ok ⊢
    by_cases h : k' = k
    · rw [if_pos (show q = kyS k by rw [← h]; exact e), if_pos h]
      exact ⟨e, ok, hd⟩
    · have h' : ¬ q = kyS k := fun z => h (kyS_inj (e.symm.trans z))
      rw [if_neg h', if_neg h]
      exact ⟨e, ok, rd⟩
  · refine paired_app h ?_
    exact .cons ⟨rfl, hk, hd⟩ .nil
theorem RKvs.drop {k : Ky} : ∀ {a : List (Ky × D)} {b : List (Key × V)}, RKvs K ι H a b → RKvs K ι H (dropKv a k) (dropK b (kyS k))
  | _, _, .nil => .nil
  | (k', d) :: a, (q, v) :: b, .cons r t => by
    have r' := r
    obtain ⟨e, _, rd⟩ := r
    dsimp only at e rd
    have ih := RKvs.drop (k := k) t
    unfold dropKv dropK at ih ⊢
    by_cases h : k' = k
    · have h' : q = kyS k := by rw [e, h]
      rw [List.filter_cons_of_neg (by simp [h]), List.filter_cons_of_neg (by simp [h'])]
      exact ih
    · have h' : ¬ q = kyS k := fun z => h (kyS_inj (e.symm.trans z))
      rw [List.filter_cons_of_pos (by simp [h]), List.filter_cons_of_pos (by simp [h'])]
      exact .cons r' ih
theorem RKvs.keys {a : List (Ky × D)} {b : List (Key × V)} (h : RKvs K ι H a b) : b.map (·.1) = a.map (fun p => kyS p.1) := by
  induction h with
  | nil => rfl
  | cons r t ih => rw [List.map_cons, List.map_cons, ih, r.1]
end
end Mn
end

section
set_option Elab.async false
set_option linter.all false
set_option maxRecDepth 100000
set_option maxHeartbeats 2000000
namespace Mn
open PySem PySem.Spec L2 TL
section
variable {K : PySem.W.Frag} {ι ι' : List Addr} {H H' : Hp} {G : Tb}
theorem nd_ix {α : Type} {N : List α} (hN : N.Nodup) {i j : Nat} {x : α} (a : N[i]? = some x) (b : N[j]? = some x) : i = j := by
  obtain ⟨h1, e1⟩ := List.getElem?_eq_some_iff.mp a
  obtain ⟨h2, e2⟩ := List.getElem?_eq_some_iff.mp b
  exact (List.getElem_inj hN).mp (e1.trans e2.symm)
def RF (G : Tb) (K : PySem.W.Frag) (ι : List Addr) (H : Hp) (p : Nat × D) (q : Str × V) : Prop := q.1 = G.nm p.1 ∧ RD K ι H p.2 q.2
abbrev RFs (G : Tb) (K : PySem.W.Frag) (ι : List Addr) (H : Hp) : List (Nat × D) → List (Str × V) → Prop := Paired (RF G K ι H)
theorem RFs.mono (p : ι <+: ι') (l : Le ι ι' H H') {a : List (Nat × D)} {b : List (Str × V)} (h : RFs G K ι H a b) : RFs G K ι' H' a b := Paired.mapP h fun _ _ z => ⟨z.1, RD.mono p l _ _ z.2⟩
theorem RFs.get {k : Nat} : ∀ {a : List (Nat × D)} {b : List (Str × V)}, RFs G K ι H a b → ∀ {d : D}, getF a k = some d → ∃ v, b.lookup (G.nm k) = some v ∧ RD K ι H d v
  | _, _, .nil, _, e => by simp [getF] at e
  | (k', d') :: a, (q, v) :: b, .cons r t, d, e => by
    obtain ⟨e1, rd⟩ := r
    dsimp only at e1 rd
    by_cases h : k' = k
    · subst h
      simp only [getF, if_true, Option.some.injEq] at e
      subst e
      exact ⟨v, by rw [e1]; simp [List.lookup], rd⟩
    · have h' : ¬ G.nm k = q := fun z => h (G.inj _ _ (e1.symm.trans z.symm))
      simp only [getF, if_neg h] at e
      obtain ⟨w, e2, r2⟩ := RFs.get t e
      refine ⟨w, ?_, r2⟩
      rw [List.lookup_cons, beq_eq_false_iff_ne.mpr h']
      exact e2
theorem RFs.put {k : Nat} {d : D} {v : V} (hd : RD K ι H d v) : ∀ {a : List (Nat × D)} {b : List (Str × V)}, RFs G K ι H a b → RFs G K ι H (putFd a k d) (putF (G.nm k) v b)
  | _, _, .nil => .cons ⟨rfl, hd⟩ .nil
  | (k', d') :: a, (q, w) :: b, .cons r t => by
    have r' := r
    obtain ⟨e1, rd⟩ := r
    dsimp only at e1 rd
    by_cases h : k' = k
    · subst h
      simp only [putFd, if_true]
      have e : putF (G.nm k') v ((q, w) :: b) = (q, v) :: b := by
        show (if q = G.nm k' then _ else _) = _
        rw [if_pos e1, e1]
      rw [e]
      exact .cons ⟨e1, hd⟩ t
    · have h' : ¬ q = G.nm k := fun z => h (G.inj _ _ (e1.symm.trans z))
      simp only [putFd, if_neg h]
      have e : putF (G.nm k) v ((q, w) :: b) = (q, w) :: putF (G.nm k) v b := by
        show (if q = G.nm k then _ else _) = _
        rw [if_neg h']
      rw [e]
      exact .cons r' (RFs.put hd t)
/-- an object of ours and the object that stands for it -/
def RO (G : Tb) (K : PySem.W.Frag) (ι : List Addr) (H : Hp) (a : Addr) : O → Prop
  | .lst ds => ∃ vs, H a = some (.lst vs) ∧ RDs K ι H ds vs
  | .dct false kvs => ∃ ks, H a = some (.dK ks) ∧ RKvs K ι H kvs ks
  | .dct true kvs => ∃ ks o, H a = some (.frz o (.dK ks)) ∧ RKvs K ι H kvs ks
  | .ins C fs => ∃ dx ls, H a = some (.ins (G.cA C) dx ls) ∧ RFs G K ι H fs ls
  | .xdc fs => ∃ ls, H a = some (.xd ls) ∧ RFs G K ι H fs ls
theorem RO.some {a : Addr} {o : O} (h : RO G K ι H a o) : ∃ u, H a = Option.some u ∧ ∀ xs, u ≠ .tup xs := by
  cases o with
  | lst ds => obtain ⟨vs, e, _⟩ := h; exact ⟨_, e, fun _ z => nomatch z⟩
  | dct lk kvs =>
    cases lk with
    | false => obtain ⟨ks, e, _⟩ := h; exact ⟨_, e, fun _ z => nomatch z⟩
    | true => obtain ⟨ks, o, e, _⟩ := h; exact ⟨_, e, fun _ z => nomatch z⟩
  | ins C fs => obtain ⟨dx, ls, e, _⟩ := h; exact ⟨_, e, fun _ z => nomatch z⟩
  | xdc fs => obtain ⟨ls, e, _⟩ := h; exact ⟨_, e, fun _ z => nomatch z⟩
theorem RO.stay {a : Addr} {o : O} (p : ι <+: ι') (l : Le ι ι' H H') (e : H' a = H a) (h : RO G K ι H a o) : RO G K ι' H' a o := by
  cases o with
  | lst ds => obtain ⟨vs, q, r⟩ := h; exact ⟨vs, e.trans q, RDs.mono p l _ _ r⟩
  | dct lk kvs =>
    cases lk with
    | false => obtain ⟨ks, q, r⟩ := h; exact ⟨ks, e.trans q, r.mono p l⟩
    | true => obtain ⟨ks, o, q, r⟩ := h; exact ⟨ks, o, e.trans q, r.mono p l⟩
  | ins C fs => obtain ⟨dx, ls, q, r⟩ := h; exact ⟨dx, ls, e.trans q, r.mono p l⟩
  | xdc fs => obtain ⟨ls, q, r⟩ := h; exact ⟨ls, e.trans q, r.mono p l⟩
structure Sim (G : Tb) (K : PySem.W.Frag) (ι : List Addr) (H : Hp) (m : M) : Prop where
  len : ι.length = m.length
  nd : ι.Nodup
  ob : ∀ (i : Nat) (o : O) (a : Addr), m[i]? = some o → ι[i]? = some a → RO G K ι H a o
section
variable {m : M}
theorem Sim.at (S : Sim G K ι H m) {i : Nat} {o : O} (e : m[i]? = some o) : ∃ a, ι[i]? = some a ∧ RO G K ι H a o := by
  have hi : i < ι.length := by rw [S.len]; exact (List.getElem?_eq_some_iff.mp e).1
  exact ⟨ι[i], by simp [hi], S.ob i o _ e (by simp [hi])⟩
/-- the object behind a reference -/
theorem Sim.obj (S : Sim G K ι H m) {i : Nat} {o : O} {v : V} (e : m[i]? = some o) (r : RD K ι H (.ref i) v) : ∃ a, v = .ref a ∧ ι[i]? = some a ∧ RO G K ι H a o := by
  cases r with
  | ref h => exact ⟨_, rfl, h, S.ob i o _ e h⟩
theorem Sim.there (S : Sim G K ι H m) {a : Addr} (h : a ∈ ι) : ∃ u, H a = some u := by
  obtain ⟨i, hi, e⟩ := List.getElem_of_mem h
  have hm : i < m.length := by rw [← S.len]; exact hi
  obtain ⟨u, q, _⟩ := (S.ob i m[i] a (by simp [hm]) (by simp [hi, e])).some
  exact ⟨u, q⟩
theorem Sim.out (S : Sim G K ι H m) {p : Addr} (h : H p = none) : p ∉ ι := fun hp => by
  obtain ⟨u, e⟩ := S.there hp
  rw [h] at e; cases e
/-- things of no concern are laid -/
theorem Sim.le (S : Sim G K ι H m) (l : Le ι ι H H') (k : ∀ a ∈ ι, H' a = H a) : Sim G K ι H' m :=
  ⟨S.len, S.nd, fun i o a e1 e2 => (S.ob i o a e1 e2).stay (List.prefix_refl _) l (k a (List.mem_of_getElem? e2))⟩
theorem Sim.fresh (S : Sim G K ι H m) {p : Addr} {o : HO} (h : H p = none) : Sim G K ι (upd H p o) m :=
  S.le (Le.new h) fun a ha => upd_ne fun z => S.out h (z ▸ ha)
theorem pre_snoc {p : Addr} : ι <+: ι ++ [p] := ⟨[p], rfl⟩
/-- a new object -/
theorem Sim.new (S : Sim G K ι H m) {p : Addr} {u : HO} {o : O} (h : H p = none) (r : RO G K (ι ++ [p]) (upd H p u) p o) : Sim G K (ι ++ [p]) (upd H p u) (m ++ [o]) := by
  refine ⟨by simp [S.len], ?_, fun i o' a e1 e2 => ?_⟩
  · rw [List.nodup_append]
    refine ⟨S.nd, by simp, fun a ha b hb => ?_⟩
    rw [List.mem_singleton] at hb
    subst hb
    rintro rfl
    exact S.out h ha
  · by_cases hi : i < m.length
    · rw [List.getElem?_append_left hi] at e1
      rw [List.getElem?_append_left (by rw [S.len]; exact hi)] at e2
      refine (S.ob i o' a e1 e2).stay pre_snoc (Le.new h) (upd_ne fun z => ?_)
      exact S.out h (z ▸ List.mem_of_getElem? e2)
    · have e3 : i = m.length := by
        have := (List.getElem?_eq_some_iff.mp e1).1
        simp at this; omega
      subst e3
      rw [List.getElem?_concat_length] at e1
      rw [← S.len, List.getElem?_concat_length] at e2
      cases e1; cases e2
      exact r
/-- an object is written -/
theorem Sim.set (S : Sim G K ι H m) {i : Nat} {a : Addr} {u : HO} {o : O} (e : ι[i]? = some a) (l : Le ι ι H (upd H a u)) (r : RO G K ι (upd H a u) a o) : Sim G K ι (upd H a u) (m.set i o) := by
  have hi : i < ι.length := (List.getElem?_eq_some_iff.mp e).1
  refine ⟨by simp [S.len], S.nd, fun j o' b e1 e2 => ?_⟩
  by_cases hj : i = j
  · subst hj
    rw [e] at e2; cases e2
    rw [List.getElem?_set_self (by rw [← S.len]; exact hi)] at e1
    cases e1
    exact r
  · rw [List.getElem?_set_ne hj] at e1
    refine (S.ob j o' b e1 e2).stay (List.prefix_refl _) l (upd_ne ?_)
    rintro rfl
    exact hj (nd_ix S.nd e e2)
end
/-- the names' values -/
structure Ev (K : PySem.W.Frag) (ι : List Addr) (H : Hp) (ρ : Fr) (σ : St) : Prop where
  len : ρ.length = σ.length
  at' : ∀ (i : Nat) (d : D), ρ[i]? = some (some d) → ∃ v, σ[i]? = some (some v) ∧ RD K ι H d v
theorem Ev.mono {ρ : Fr} {σ : St} (p : ι <+: ι') (l : Le ι ι' H H') (h : Ev K ι H ρ σ) : Ev K ι' H' ρ σ := ⟨h.len, fun i d e => let ⟨v, q, r⟩ := h.at' i d e; ⟨v, q, RD.mono p l _ _ r⟩⟩
theorem Ev.set {ρ : Fr} {σ : St} {d : D} {v : V} (h : Ev K ι H ρ σ) (i : Nat) (r : RD K ι H d v) : Ev K ι H (ρ.set i (some d)) (σ.set i (some v)) := by
  refine ⟨by simp [h.len], fun j e hj => ?_⟩
  by_cases hij : i = j
  · subst hij
    have hi : i < ρ.length := by have := (List.getElem?_eq_some_iff.mp hj).1; simpa using this
    rw [List.getElem?_set_self hi] at hj
    cases hj
    exact ⟨v, by rw [List.getElem?_set_self (by rw [← h.len]; exact hi)], r⟩
  · rw [List.getElem?_set_ne hij] at hj
    obtain ⟨w, q, r'⟩ := h.at' j e hj
    exact ⟨w, by rw [List.getElem?_set_ne hij]; exact q, r'⟩
theorem Ev.start {ds : List D} {vs : List V} {n : Nat} (N : List Str) (h : RDs K ι H ds vs) (hn : n = N.length - ds.length) : Ev K ι H (ds.map some ++ List.replicate n none) (start N vs) := by
  have hl := h.length
  refine ⟨by simp [L2.start, hl, hn], fun i d e => ?_⟩
  have hi : i < ds.length := by
    by_cases hi : i < ds.length
    · exact hi
    · rw [List.getElem?_append_right (by simpa using hi), List.getElem?_replicate] at e
      split at e <;> cases e
  rw [List.getElem?_append_left (by simpa using hi), List.getElem?_map] at e
  cases q : ds[i]? with
  | none => rw [q] at e; cases e
  | some d' =>
    rw [q] at e; cases e
    obtain ⟨v, e1, r⟩ := h.get q
    refine ⟨v, ?_, r⟩
    unfold L2.start
    rw [List.getElem?_append_left (by rw [List.length_map, ← hl]; exact hi), List.getElem?_map, e1]
    rfl
/-- an error's class and dict -/
def RX (G : Tb) (ι : List Addr) (x : Xn) (c : Value) (dd : Option Addr) : Prop :=
  c = .ref (G.cA x.c) ∧ match x.dx with
    | none => dd = none
    | some i => ∃ d, dd = some d ∧ ι[i]? = some d
end

/-- the greatest wish about an exception -/
def Wm (X : Cx) : WX := fun c d σ H => ∀ u s', XE X (fun c' d' σ' H' => c' = c ∧ d' = d ∧ σ' = σ ∧ H' = H) u s' → X.xe u s'
theorem takes_Wm {X : Cx} : Takes X (Wm X) := fun u s' ⟨a, B, sI, pins, σ, H, cls, d, e1, e2, e3, e4, e5, e6, e7, e8, w⟩ => w u s' ⟨a, B, sI, pins, σ, H, cls, d, e1, e2, e3, e4, e5, e6, e7, e8, rfl, rfl, rfl, rfl⟩

section
variable (X : Cx) (G : Tb)
abbrev Rel (α β : Type) := List Addr → Hp → α → β → Prop
def Post {α β : Type} (ι : List Addr) (H : Hp) (σ : St) (rel : Rel α β) (r : R α) (Q : β → Hp → Prop) : Prop := match r with
  | .ok d m' => ∀ ι' H' v, ι <+: ι' → Le ι ι' H H' → Sim G X.K ι' H' m' → rel ι' H' d v → Q v H'
  | .exc x m' => ∀ ι' H' c dd, ι <+: ι' → Le ι ι' H H' → Sim G X.K ι' H' m' → RX G ι' x c dd → Wm X c dd σ H'
  | .bad => False
def P0 {α β : Type} (ι : List Addr) (H : Hp) (rel : Rel α β) (r : R α) (Q : β → Hp → Prop) : Prop := match r with
  | .ok d m' => ∀ ι' H' v, ι <+: ι' → Le ι ι' H H' → Sim G X.K ι' H' m' → rel ι' H' d v → Q v H'
  | _ => False
abbrev rD : Rel D V := fun ι H => RD X.K ι H
abbrev rB : Rel Bool Bool := fun _ _ a b => b = a
abbrev rDs : Rel (List D) (List V) := fun ι H => RDs X.K ι H
abbrev rOi : Rel (Option Int) (Option Int) := fun _ _ a b => b = a
def tE (e : ME) : TE := fun σ H Q => ∃ ι m ρ, Sim G X.K ι H m ∧ Ev X.K ι H ρ σ ∧ Post X G ι H σ (rD X) (e ρ m) Q
def tT (e : MT) : TT := fun σ H Q => ∃ ι m ρ, Sim G X.K ι H m ∧ Ev X.K ι H ρ σ ∧ Post X G ι H σ rB (e ρ m) Q
def tA (e : MA) : TA := fun σ H Q => ∃ ι m ρ, Sim G X.K ι H m ∧ Ev X.K ι H ρ σ ∧ Post X G ι H σ (rDs X) (e ρ m) Q
def tO (e : MO) : TO := fun σ H Q => ∃ ι m ρ, Sim G X.K ι H m ∧ Ev X.K ι H ρ σ ∧ Post X G ι H σ rOi (e ρ m) Q
def r2 (f : D → D → M → R D) : R2 := fun x y H Q => ∃ ι m dx dy, Sim G X.K ι H m ∧ RD X.K ι H dx x ∧ RD X.K ι H dy y ∧ P0 X G ι H (rD X) (f dx dy m) Q
def r1 (f : D → M → R D) : V → Hp → VK → Prop := fun x H Q => ∃ ι m dx, Sim G X.K ι H m ∧ RD X.K ι H dx x ∧ P0 X G ι H (rD X) (f dx m) Q
end
section
variable {X : Cx} {G : Tb} {ι ι' : List Addr} {H H' : Hp} {σ : St}
theorem Post.up {α β : Type} {rel : Rel α β} {r : R α} {Q : β → Hp → Prop} (p : ι <+: ι') (l : Le ι ι' H H') (h : Post X G ι H σ rel r Q) : Post X G ι' H' σ rel r Q := by
  cases r with
  | ok d m => exact fun ι2 H2 v p2 l2 S r => h ι2 H2 v (p.trans p2) (l.trans l2) S r
  | exc x m => exact fun ι2 H2 c d p2 l2 S r => h ι2 H2 c d (p.trans p2) (l.trans l2) S r
  | bad => exact h
theorem Post.bind {α β γ δ : Type} {rel1 : Rel α β} {rel2 : Rel γ δ} {r : R α} {f : α → M → R γ} {Q2 : δ → Hp → Prop} {Q1 : β → Hp → Prop} (P : Post X G ι H σ rel2 (r.bind f) Q2)
    (k : ∀ a m1 ι1 H1 v, r = .ok a m1 → ι <+: ι1 → Le ι ι1 H H1 → Sim G X.K ι1 H1 m1 → rel1 ι1 H1 a v → Post X G ι1 H1 σ rel2 (f a m1) Q2 → Q1 v H1) : Post X G ι H σ rel1 r Q1 := by
  cases r with
  | ok a m1 => exact fun ι1 H1 v p l S r => k a m1 ι1 H1 v rfl p l S r (Post.up p l P)
  | exc x m => exact P
  | bad => exact P
theorem Post.calm {α β : Type} {rel : Rel α β} {r : R α} {Q : β → Hp → Prop} (h : Post X G ι H σ rel r.calm Q) : P0 X G ι H rel r Q := by
  cases r with
  | ok d m => exact h
  | exc x m => exact h
  | bad => exact h
theorem Post.okI {α β : Type} {rel : Rel α β} {a : α} {m : M} {Q : β → Hp → Prop} (h : Post X G ι H σ rel (.ok a m) Q) (v : β) (S : Sim G X.K ι H m) (r : rel ι H a v) : Q v H := h ι H v (List.prefix_refl _) (Le.refl _) S r
theorem P0.okI {α β : Type} {rel : Rel α β} {a : α} {m : M} {Q : β → Hp → Prop} (h : P0 X G ι H rel (.ok a m) Q) (v : β) (S : Sim G X.K ι H m) (r : rel ι H a v) : Q v H := h ι H v (List.prefix_refl _) (Le.refl _) S r
theorem _root_.L2.PE.weak {e : Expr} {t t' : TE} (h : PE X e t) (k : ∀ σ H Q, t' σ H Q → t σ H Q) : PE X e t' := ⟨fun pins s σ H Q I q => h.run pins s σ H Q I (k σ H Q q)⟩
theorem _root_.L2.PT.weak {e : Expr} {t t' : TT} (h : PT X e t) (k : ∀ σ H Q, t' σ H Q → t σ H Q) : PT X e t' := ⟨fun pins s σ H Q I q => h.run pins s σ H Q I (k σ H Q q)⟩
theorem _root_.L2.PW.weak {e : Expr} {t t' : TT} (h : PW X e t) (k : ∀ σ H Q, t' σ H Q → t σ H Q) : PW X e t' := ⟨fun wh pins s σ H Q I q => h.run wh pins s σ H Q I (k σ H Q q)⟩
theorem _root_.L2.PA.weak {e : List Expr} {t t' : TA} (h : PA X e t) (k : ∀ σ H Q, t' σ H Q → t σ H Q) : PA X e t' := ⟨fun pos pins s σ H Q I q => h.run pos pins s σ H Q I (k σ H Q q)⟩
theorem _root_.L2.PS.weak {e : Stmt} {t t' : TS} (h : PS X e t) (k : ∀ D σ H, t' D σ H → t D σ H) : PS X e t' := ⟨fun pins s σ H D I q => h.run pins s σ H D I (k D σ H q)⟩
theorem _root_.L2.PSs.weak {e : List Stmt} {t t' : TS} (h : PSs X e t) (k : ∀ D σ H, t' D σ H → t D σ H) : PSs X e t' := ⟨fun pins s σ H D I q => h.run pins s σ H D I (k D σ H q)⟩
end
/-- the judgements -/
abbrev RE (X : Cx) (G : Tb) (e : Expr) (m : ME) : Prop := PE X e (tE X G m)
abbrev RT (X : Cx) (G : Tb) (e : Expr) (m : MT) : Prop := PT X e (tT X G m)
abbrev RW (X : Cx) (G : Tb) (e : Expr) (m : MT) : Prop := PW X e (tT X G m)
abbrev RA (X : Cx) (G : Tb) (e : List Expr) (m : MA) : Prop := PA X e (tA X G m)
section
variable {X : Cx} {G : Tb} {a b c : Expr} {ea eb ec : ME} {pos : Pos}
theorem re_var (i : Nat) {x : Str} {pos : Pos} (hN : X.N[i]? = some x := by rfl) (hv : Vis X.env.scope x := by first | exact Or.inl rfl | exact Or.inr (Or.inl rfl) | exact Or.inr (Or.inr rfl)) (hd : (x == ("__debug__" : Str)) = false := by decide)
    (hcd : (x == ("__classdict__" : Str)) = false := by decide) : RE X G (.Name x pos) (eV i) := by
  refine (pe_var hN hv hd hcd).weak fun σ H Q ⟨ι, m, ρ, S, E, P⟩ => ?_
  unfold eV at P
  cases e : ρ[i]? with
  | none => simp only [e] at P; exact P.elim
  | some o =>
    cases o with
    | none => simp only [e] at P; exact P.elim
    | some d =>
      simp only [e] at P
      obtain ⟨v, e1, r⟩ := E.at' i d e
      exact ⟨v, e1, P.okI v S r⟩
theorem re_const {e : Expr} {v : V} {d : D} (h : PE X e (tC v)) (r : ∀ ι H, RD X.K ι H d v) : RE X G e (eC d) :=
  h.weak fun σ H Q ⟨ι, m, ρ, S, E, P⟩ => P.okI v S (r ι H)
theorem re_int {i : Int} {j pos} : RE X G (.Constant (.int i) j pos) (eC (.int i)) := re_const pe_int fun _ _ => .int i
theorem re_bl {b : Bool} {j pos} : RE X G (.Constant (.bool b) j pos) (eC (.bl b)) := re_const pe_bl fun _ _ => .bl b
theorem re_non {j pos} : RE X G (.Constant .none j pos) (eC .non) := re_const pe_non fun _ _ => .non
theorem re_str {x : Str} (s : Tx) {j pos} (e : x = mkS s) (ok : strOkT s = true) : RE X G (.Constant (.str x) j pos) (eC (.str s)) := by
  subst e
  exact re_const pe_str fun _ _ => .str ok
theorem re_op {op : Operator} {f : D → D → M → R D} (ho : OpR X (binaryOp op) (r2 X G f)) (ha : RE X G a ea) (hb : RE X G b eb) : RE X G (.BinOp a op b pos) (eOp f ea eb) := by
  refine (pe_op ho ha hb).weak fun σ H Q ⟨ι, m, ρ, S, E, P⟩ => ?_
  refine ⟨ι, m, ρ, S, E, P.bind fun x m1 ι1 H1 v _ p1 l1 S1 rx P1 => ?_⟩
  refine ⟨ι1, m1, ρ, S1, E.mono p1 l1, P1.bind fun y m2 ι2 H2 w _ p2 l2 S2 ry P2 => ?_⟩
  exact ⟨ι2, m2, x, y, S2, RD.mono p2 l2 _ _ rx, ry, P2.calm⟩
theorem re_cmp {op : CmpOp} {f : D → D → M → R D} (ho : OpR X (compareOp op) (r2 X G f)) (ha : RE X G a ea) (hb : RE X G b eb) (hm : behindInMarks op b = false := by rfl) : RE X G (.Compare a [op] [b] pos) (eOp f ea eb) := by
  refine (pe_cmpR ho ha hb hm).weak fun σ H Q ⟨ι, m, ρ, S, E, P⟩ => ?_
  refine ⟨ι, m, ρ, S, E, P.bind fun x m1 ι1 H1 v _ p1 l1 S1 rx P1 => ?_⟩
  refine ⟨ι1, m1, ρ, S1, E.mono p1 l1, P1.bind fun y m2 ι2 H2 w _ p2 l2 S2 ry P2 => ?_⟩
  exact ⟨ι2, m2, x, y, S2, RD.mono p2 l2 _ _ rx, ry, P2.calm⟩
theorem re_un {op : UnaryOp} {f : D → M → R D} (ho : UnR X (unaryOp op) (r1 X G f)) (ha : RE X G a ea) : RE X G (.UnaryOp op a pos) (eUn f ea) := by
  refine (pe_un ho ha).weak fun σ H Q ⟨ι, m, ρ, S, E, P⟩ => ?_
  refine ⟨ι, m, ρ, S, E, P.bind fun x m1 ι1 H1 v _ p1 l1 S1 rx P1 => ?_⟩
  exact ⟨ι1, m1, x, S1, rx, P1.calm⟩
end
end Mn
end

section
set_option Elab.async false
set_option linter.all false
set_option maxRecDepth 100000
set_option maxHeartbeats 2000000
namespace Mn
open PySem PySem.Spec L2 TL
theorem LIM_le {n : Nat} (h : n ≤ LIM) : n ≤ sizeLine := Nat.le_trans h (by decide)
theorem LIM_lt {n : Nat} (h : n < LIM) : n < sizeLine := Nat.lt_of_lt_of_le h (by decide)
section
variable {X : Cx} {G : Tb} {a b c e o : Expr} {es : List Expr} {ea eb ec : ME} {ta tb : MT} {ma : MA} {pos : Pos}
/-! ### tests -/
theorem rt_val (he : RE X G e ea) (hh : ∀ whole, isTrue e X.env whole = (do let v ← whole; standAt e.pos; holding [v] (truthy v)) := by intro _; rfl) : RT X G e (tV ea) := by
  refine (pt_val he hh).weak fun σ H Q ⟨ι, m, ρ, S, E, P⟩ => ?_
  refine ⟨ι, m, ρ, S, E, P.bind fun x m1 ι1 H1 v _ p1 l1 S1 rx P1 => ?_⟩
  cases rx with
  | bl k => exact ⟨k, rfl, P1.okI k S1 rfl⟩
  | _ => exact P1.elim
theorem test_of {t : TE} (h : PT X e (tTest t)) (k : ∀ σ H Q, tE X G ea σ H Q → t σ H Q) : RT X G e (tV ea) := by
  refine h.weak fun σ H Q ⟨ι, m, ρ, S, E, P⟩ => ?_
  refine k σ H _ ⟨ι, m, ρ, S, E, P.bind fun x m1 ι1 H1 v _ p1 l1 S1 rx P1 => ?_⟩
  cases rx with
  | bl k => exact ⟨k, rfl, P1.okI k S1 rfl⟩
  | _ => exact P1.elim
theorem le_op {f : D → D → M → R D} {σ : L2.St} {H : Hp} {Q : VK} (h : tE X G (eOp f ea eb) σ H Q) : tOp (r2 X G f) (tE X G ea) (tE X G eb) σ H Q := by
  obtain ⟨ι, m, ρ, S, E, P⟩ := h
  refine ⟨ι, m, ρ, S, E, P.bind fun x m1 ι1 H1 v _ p1 l1 S1 rx P1 => ?_⟩
  refine ⟨ι1, m1, ρ, S1, E.mono p1 l1, P1.bind fun y m2 ι2 H2 w _ p2 l2 S2 ry P2 => ?_⟩
  exact ⟨ι2, m2, x, y, S2, RD.mono p2 l2 _ _ rx, ry, P2.calm⟩
theorem rt_cmp {op : CmpOp} {f : D → D → M → R D} (ho : OpR X (compareOp op) (r2 X G f)) (ha : RE X G a ea) (hb : RE X G b eb) (hm : behindInMarks op b = false := by rfl) : RT X G (.Compare a [op] [b] pos) (tV (eOp f ea eb)) :=
  test_of (pt_cmpR ho ha hb hm) fun _ _ _ => le_op
theorem le_chain {f g : D → D → M → R D} {σ : L2.St} {H : Hp} {Q : VK} (h : tE X G (eChain f g ea eb ec) σ H Q) : tChain (r2 X G f) (r2 X G g) (tE X G ea) (tE X G eb) (tE X G ec) σ H Q := by
  obtain ⟨ι, m, ρ, S, E, P⟩ := h
  refine ⟨ι, m, ρ, S, E, P.bind fun x m1 ι1 H1 v _ p1 l1 S1 rx P1 => ?_⟩
  refine ⟨ι1, m1, ρ, S1, E.mono p1 l1, P1.bind fun y m2 ι2 H2 w _ p2 l2 S2 ry P2 => ?_⟩
  refine ⟨ι2, m2, x, y, S2, RD.mono p2 l2 _ _ rx, ry, ?_⟩
  have P3 : Post X G ι2 H2 σ (rD X) (f x y m2).calm (fun z H3 => ∃ k, z = .bl k ∧ if k = true then tE X G ec σ H3 (fun w' H4 => r2 X G g w w' H4 Q) else Q (.bl false) H3) := P2.bind fun k m3 ι3 H3 u _ p3 l3 S3 rk P3 => by
    cases rk with
    | bl k =>
      refine ⟨k, rfl, ?_⟩
      cases k with
      | true =>
        rw [if_pos rfl]
        refine ⟨ι3, m3, ρ, S3, ((E.mono p1 l1).mono p2 l2).mono p3 l3, P3.bind fun z m4 ι4 H4 w4 _ p4 l4 S4 rz P4 => ?_⟩
        exact ⟨ι4, m4, y, z, S4, RD.mono (p3.trans p4) (l3.trans l4) _ _ ry, rz, P4.calm⟩
      | false =>
        rw [if_neg (by decide)]
        exact P3.okI (.bl false) S3 (.bl false)
    | _ => exact P3.elim
  exact P3.calm
theorem re_chain {op op' : CmpOp} {f g : D → D → M → R D} (ho : OpR X (compareOp op) (r2 X G f)) (ho' : OpR X (compareOp op') (r2 X G g)) (ha : RE X G a ea) (hb : RE X G b eb) (hc : RE X G c ec)
    (hm : lastMarks [op, op'] [b, c] = false := by with_unfolding_all rfl) : RE X G (.Compare a [op, op'] [b, c] pos) (eChain f g ea eb ec) :=
  (pe_chain ho ho' ha hb hc hm).weak fun _ _ _ => le_chain
theorem rt_chain {op op' : CmpOp} {f g : D → D → M → R D} (ho : OpR X (compareOp op) (r2 X G f)) (ho' : OpR X (compareOp op') (r2 X G g)) (ha : RE X G a ea) (hb : RE X G b eb) (hc : RE X G c ec)
    (hm : lastMarks [op, op'] [b, c] = false := by with_unfolding_all rfl) : RT X G (.Compare a [op, op'] [b, c] pos) (tV (eChain f g ea eb ec)) :=
  test_of (pt_chain ho ho' ha hb hc hm) fun _ _ _ => le_chain
theorem rt_not (ha : RT X G a ta) : RT X G (.UnaryOp .Not a pos) (Mn.tNot ta) := by
  refine (pt_not ha).weak fun σ H Q ⟨ι, m, ρ, S, E, P⟩ => ?_
  refine ⟨ι, m, ρ, S, E, P.bind fun x m1 ι1 H1 v _ p1 l1 S1 rx P1 => ?_⟩
  subst rx
  exact P1.okI (!v) S1 rfl
theorem rw_and1 {a : Expr} (ha : RT X G a ta) : RW X G (.BoolOp .And [a] pos) ta := pw_and1 ha
theorem rw_or1 {a : Expr} (ha : RT X G a ta) : RW X G (.BoolOp .Or [a] pos) ta := pw_or1 ha
theorem rw_and {rest : List Expr} (ha : RT X G a ta) (hb : RW X G (.BoolOp .And (b :: rest) pos) tb) : RW X G (.BoolOp .And (a :: b :: rest) pos) (Mn.tAnd ta tb) := by
  refine (pw_and ha hb).weak fun σ H Q ⟨ι, m, ρ, S, E, P⟩ => ?_
  refine ⟨ι, m, ρ, S, E, P.bind fun x m1 ι1 H1 v _ p1 l1 S1 rx P1 => ?_⟩
  subst rx
  cases v with
  | true => exact ⟨ι1, m1, ρ, S1, E.mono p1 l1, P1⟩
  | false => exact P1.okI false S1 rfl
theorem rw_or {rest : List Expr} (ha : RT X G a ta) (hb : RW X G (.BoolOp .Or (b :: rest) pos) tb) : RW X G (.BoolOp .Or (a :: b :: rest) pos) (Mn.tOr ta tb) := by
  refine (pw_or ha hb).weak fun σ H Q ⟨ι, m, ρ, S, E, P⟩ => ?_
  refine ⟨ι, m, ρ, S, E, P.bind fun x m1 ι1 H1 v _ p1 l1 S1 rx P1 => ?_⟩
  subst rx
  cases v with
  | false => exact ⟨ι1, m1, ρ, S1, E.mono p1 l1, P1⟩
  | true => exact P1.okI true S1 rfl
theorem rt_of (h : RW X G a ta) : RT X G a ta := PW.pt h
/-! ### values of and, or, not -/
theorem re_one {op} (h : RE X G a ea) : RE X G (.BoolOp op [a] pos) ea := pe_one h
theorem re_and {rest : List Expr} (ha : RE X G a ea) (hb : RE X G (.BoolOp .And (b :: rest) pos) eb) : RE X G (.BoolOp .And (a :: b :: rest) pos) (eAnd ea eb) := by
  refine (pe_and ha hb).weak fun σ H Q ⟨ι, m, ρ, S, E, P⟩ => ?_
  refine ⟨ι, m, ρ, S, E, P.bind fun x m1 ι1 H1 v _ p1 l1 S1 rx P1 => ?_⟩
  cases rx with
  | bl k =>
    refine ⟨k, rfl, ?_⟩
    cases k with
    | true => exact ⟨ι1, m1, ρ, S1, E.mono p1 l1, P1⟩
    | false => exact P1.okI (.bl false) S1 (.bl false)
  | _ => exact P1.elim
theorem re_or {rest : List Expr} (ha : RE X G a ea) (hb : RE X G (.BoolOp .Or (b :: rest) pos) eb) : RE X G (.BoolOp .Or (a :: b :: rest) pos) (eOr ea eb) := by
  refine (pe_or ha hb).weak fun σ H Q ⟨ι, m, ρ, S, E, P⟩ => ?_
  refine ⟨ι, m, ρ, S, E, P.bind fun x m1 ι1 H1 v _ p1 l1 S1 rx P1 => ?_⟩
  cases rx with
  | bl k =>
    refine ⟨k, rfl, ?_⟩
    cases k with
    | false => exact ⟨ι1, m1, ρ, S1, E.mono p1 l1, P1⟩
    | true => exact P1.okI (.bl true) S1 (.bl true)
  | _ => exact P1.elim
theorem re_not (ha : RE X G a ea) : RE X G (.UnaryOp .Not a pos) (eNot ea) := by
  refine (pe_not ha).weak fun σ H Q ⟨ι, m, ρ, S, E, P⟩ => ?_
  refine ⟨ι, m, ρ, S, E, P.bind fun x m1 ι1 H1 v _ p1 l1 S1 rx P1 => ?_⟩
  cases rx with
  | bl k => exact ⟨k, rfl, P1.okI (.bl !k) S1 (.bl _)⟩
  | _ => exact P1.elim
theorem re_if (hc : RT X G c ta) (ha : RE X G a ea) (hb : RE X G b eb) : RE X G (.IfExp c a b pos) (eIf ta ea eb) := by
  refine (pe_ifExp hc ha hb).weak fun σ H Q ⟨ι, m, ρ, S, E, P⟩ => ?_
  refine ⟨ι, m, ρ, S, E, P.bind fun x m1 ι1 H1 v _ p1 l1 S1 rx P1 => ?_⟩
  subst rx
  cases v with
  | true => exact ⟨ι1, m1, ρ, S1, E.mono p1 l1, P1⟩
  | false => exact ⟨ι1, m1, ρ, S1, E.mono p1 l1, P1⟩
/-! ### lists of arguments, displays -/
theorem ra_nil : RA X G [] aNil := pa_nil.weak fun σ H Q ⟨ι, m, ρ, S, E, P⟩ => P.okI [] S .nil
theorem ra_cons (ha : RE X G e ea) (hs : RA X G es ma) (hst : starEach (e :: es) X.env = (false, eval e X.env) :: starEach es X.env := by rfl) : RA X G (e :: es) (aCons ea ma) := by
  refine (pa_cons ha hs hst).weak fun σ H Q ⟨ι, m, ρ, S, E, P⟩ => ?_
  refine ⟨ι, m, ρ, S, E, P.bind fun x m1 ι1 H1 v _ p1 l1 S1 rx P1 => ?_⟩
  refine ⟨ι1, m1, ρ, S1, E.mono p1 l1, P1.bind fun xs m2 ι2 H2 vs _ p2 l2 S2 rs P2 => ?_⟩
  exact P2.okI (v :: vs) S2 (.cons (RD.mono p2 l2 _ _ rx) rs)
theorem re_tup {k : Nat} (hs : RA X G es ma) : RE X G (.Tuple es k pos) (eTup ma) := by
  refine (pe_tup hs).weak fun σ H Q ⟨ι, m, ρ, S, E, P⟩ => ?_
  refine ⟨ι, m, ρ, S, E, P.bind fun xs m1 ι1 H1 vs _ p1 l1 S1 rs P1 => ?_⟩
  by_cases hl : xs.length ≤ LIM
  · rw [if_pos hl] at P1
    refine ⟨by rw [← rs.length]; exact LIM_le hl, fun p hp => ?_⟩
    exact P1 ι1 _ (.ref p) (List.prefix_refl _) (Le.new hp) (S1.fresh hp) (.tup (SqT.of upd_same) (RDs.mono (List.prefix_refl _) (Le.new hp) _ _ rs))
  · rw [if_neg hl] at P1; exact P1.elim
theorem re_lst (hs : RA X G es ma) : RE X G (.List es pos) (eLst ma) := by
  refine (pe_lst hs).weak fun σ H Q ⟨ι, m, ρ, S, E, P⟩ => ?_
  refine ⟨ι, m, ρ, S, E, P.bind fun xs m1 ι1 H1 vs _ p1 l1 S1 rs P1 => ?_⟩
  by_cases hl : xs.length ≤ LIM
  · rw [if_pos hl] at P1
    refine ⟨by rw [← rs.length]; exact LIM_le hl, fun p hp => ?_⟩
    refine P1 (ι1 ++ [p]) _ (.ref p) pre_snoc (Le.new hp) (S1.new hp ⟨vs, upd_same, RDs.mono pre_snoc (Le.new hp) _ _ rs⟩) (.ref ?_)
    rw [← S1.len, List.getElem?_concat_length]
  · rw [if_neg hl] at P1; exact P1.elim
/-- a new object laid down at a free place -/
theorem new_obj {ι : List Addr} {H : Hp} {m : M} {σ : L2.St} {Q : VK} {u : HO} {ob : O} {p : Addr} (S : Sim G X.K ι H m) (hp : H p = none) (r : RO G X.K (ι ++ [p]) (upd H p u) p ob)
    (P : Post X G ι H σ (rD X) (.ok (.ref m.length) (m ++ [ob])) Q) : Q (.ref p) (upd H p u) := by
  refine P (ι ++ [p]) _ (.ref p) pre_snoc (Le.new hp) (S.new hp r) (.ref ?_)
  rw [← S.len, List.getElem?_concat_length]
theorem new_obj0 {ι : List Addr} {H : Hp} {m : M} {Q : VK} {u : HO} {ob : O} {p : Addr} (S : Sim G X.K ι H m) (hp : H p = none) (r : RO G X.K (ι ++ [p]) (upd H p u) p ob)
    (P : P0 X G ι H (rD X) (.ok (.ref m.length) (m ++ [ob])) Q) : Q (.ref p) (upd H p u) := by
  refine P (ι ++ [p]) _ (.ref p) pre_snoc (Le.new hp) (S.new hp r) (.ref ?_)
  rw [← S.len, List.getElem?_concat_length]
theorem re_d0 : RE X G (.Dict [] [] pos) eD0 := by
  refine pe_dnewK.weak fun σ H Q ⟨ι, m, ρ, S, E, P⟩ => ?_
  intro p hp
  exact new_obj (ob := .dct false []) S hp ⟨[], upd_same, .nil⟩ P
/-! a displayed dict -/
def flat2 : List (V × V) → List V
  | [] => []
  | (k, v) :: r => k :: v :: flat2 r
def RPs (X : Cx) (G : Tb) (pos : Pos) (keys : List (Option Expr)) (values : List Expr) (ma : MA) : Prop :=
  ∃ trs, PPs X pos keys values trs ∧ ∀ σ H Q, tA X G ma σ H (fun vs H2 => ∀ ps, vs = flat2 ps → Q ps H2) → tPairs trs σ H Q
theorem rps_nil : RPs X G pos [] [] aNil := ⟨_, pps_nil, fun σ H Q ⟨ι, m, ρ, S, E, P⟩ => P.okI [] S .nil [] rfl⟩
theorem rps_cons {k v : Expr} {ks : List (Option Expr)} {vs : List Expr} {ek ev : ME} (hk : RE X G k ek) (hv : RE X G v ev) (h : RPs X G pos ks vs ma)
    : RPs X G pos (some k :: ks) (v :: vs) (aCons ek (aCons ev ma)) := by
  obtain ⟨trs, hp, hq⟩ := h
  refine ⟨_, pps_cons hk hv hp, fun σ H Q ⟨ι, m, ρ, S, E, P⟩ => ?_⟩
  refine ⟨ι, m, ρ, S, E, P.bind fun x m1 ι1 H1 x' _ p1 l1 S1 rx P1 => ?_⟩
  refine ⟨ι1, m1, ρ, S1, E.mono p1 l1, ?_⟩
  have P1' : Post X G ι1 H1 σ (rDs X) ((ev ρ m1).bind fun y m2 => (ma ρ m2).bind fun ys m3 => .ok (x :: y :: ys) m3) (fun vs H2 => ∀ ps, vs = flat2 ps → Q ps H2) := by
    have e : ((aCons ev ma) ρ m1).bind (fun xs m2 => R.ok (x :: xs) m2) = (ev ρ m1).bind fun y m2 => (ma ρ m2).bind fun ys m3 => .ok (x :: y :: ys) m3 := by
      unfold aCons
      cases ev ρ m1 with
      | ok y m2 =>
        simp only [R.bind_ok]
        cases ma ρ m2 <;> rfl
      | exc _ _ => rfl
      | bad => rfl
    rw [← e]; exact P1
  refine P1'.bind fun y m2 ι2 H2 y' _ p2 l2 S2 ry P2 => ?_
  refine hq σ H2 _ ⟨ι2, m2, ρ, S2, (E.mono p1 l1).mono p2 l2, P2.bind fun ys m3 ι3 H3 vs _ p3 l3 S3 rs P3 => ?_⟩
  intro ps e
  exact P3.okI (x' :: y' :: vs) S3 (.cons (RD.mono (p2.trans p3) (l2.trans l3) _ _ rx) (.cons (RD.mono p3 l3 _ _ ry) rs)) ((x', y') :: ps) (by rw [e]; rfl)
theorem pairs_rel {K : PySem.W.Frag} {ι : List Addr} {H : Hp} : ∀ {xs : List D} {vs : List V} {kvs : List (Ky × D)}, RDs K ι H xs vs → pairUp xs = some kvs → ∃ ks : List (Key × V), vs = flat2 (ks.map fun kv => (kV kv.1, kv.2)) ∧ RKvs K ι H kvs ks
  | [], vs, kvs, h, e => by
    cases h
    simp only [pairUp, Option.some.injEq] at e
    subst e
    exact ⟨[], rfl, .nil⟩
  | [x], vs, kvs, h, e => by simp [pairUp] at e
  | k :: v :: r, vs, kvs, h, e => by
    cases h with
    | cons hk h2 =>
      cases h2 with
      | cons hv hr =>
        unfold pairUp at e
        cases ek : toKy k with
        | none => rw [ek] at e; simp at e
        | some k' =>
          cases er : pairUp r with
          | none => rw [ek, er] at e; simp at e
          | some t =>
            rw [ek, er] at e
            simp only [Option.some.injEq] at e
            subst e
            obtain ⟨ks, e1, rk⟩ := pairs_rel hr er
            obtain ⟨e2, ok⟩ := hk.toKy ek
            exact ⟨(kyS k', _) :: ks, by rw [e1, e2]; rfl, .cons ⟨rfl, ok, hv⟩ rk⟩
theorem flat2_inj : ∀ {a b : List (V × V)}, flat2 a = flat2 b → a = b
  | [], [], _ => rfl
  | [], (_, _) :: _, h => by simp [flat2] at h
  | (_, _) :: _, [], h => by simp [flat2] at h
  | (a, b) :: r, (c, d) :: t, h => by
    simp only [flat2, List.cons.injEq] at h
    obtain ⟨rfl, rfl, h⟩ := h
    rw [flat2_inj h]
theorem merge_rel {K : PySem.W.Frag} {ι : List Addr} {H : Hp} : ∀ {kvs : List (Ky × D)} {ks : List (Key × V)} {a : List (Ky × D)} {b : List (Key × V)}, RKvs K ι H kvs ks → RKvs K ι H a b →
    RKvs K ι H (kvs.foldl (fun acc kv => putKv acc kv.1 kv.2) a) (mergeK b ks)
  | [], [], _, _, _, h => h
  | (k, d) :: r, (q, v) :: t, a, b, hh, h => by
    cases hh with
    | cons rk rt =>
      obtain ⟨e, ok, rd⟩ := rk
      dsimp only at e ok rd
      subst e
      exact merge_rel (kvs := r) (ks := t) rt (h.put ok rd)
theorem re_dct {keys : List (Option Expr)} {values : List Expr} (h : RPs X G pos keys values ma) (hall : keys.all (·.isSome) = true := by rfl) (hl : keys.length = values.length := by rfl) (h0 : keys ≠ [] := by exact fun z => by cases z)
    (h15 : keys.length ≤ 15 := by decide) : RE X G (.Dict keys values pos) (eDct ma) := by
  obtain ⟨trs, hp, hq⟩ := h
  refine (pe_disp hp hall hl h0 h15).weak fun σ H Q ⟨ι, m, ρ, S, E, P⟩ => ?_
  intro p hp
  have S0 := S.new (o := .dct false []) hp ⟨[], upd_same, .nil⟩
  refine hq σ _ _ ⟨ι ++ [p], _, ρ, S0, E.mono pre_snoc (Le.new hp), (Post.up pre_snoc (Le.new hp) P).bind fun xs m1 ι1 H1 vs _ p1 l1 S1 rs P1 => ?_⟩
  intro ps eps
  cases ek : pairUp xs with
  | none => simp only [ek] at P1; exact P1.elim
  | some kvs =>
    simp only [ek] at P1
    split at P1
    · rename_i hc
      obtain ⟨h15', hm⟩ := hc
      obtain ⟨ks, e1, rk⟩ := pairs_rel rs ek
      have e2 : ps = ks.map fun kv => (kV kv.1, kv.2) := flat2_inj (eps.symm.trans e1)
      have ia : ι1[m.length]? = some p := pre_get p1 (by rw [← S.len, List.getElem?_concat_length])
      obtain ⟨ks0, q0, r0⟩ := S1.ob _ _ _ hm ia
      cases r0
      refine ⟨q0, ks, e2, by rw [← Paired.length rk]; exact h15', ?_⟩
      have l2 : Le ι1 ι1 H1 (upd H1 p (.dK (mergeK [] ks))) := Le.mut q0 (fun _ z => nomatch z) (fun _ _ z => nomatch z)
      refine P1 ι1 _ (.ref p) (List.prefix_refl _) l2 (S1.set ia l2 ⟨_, upd_same, (merge_rel rk .nil).mono (List.prefix_refl _) l2⟩) (.ref ia)
    · exact P1.elim
/-! ### attributes -/
theorem re_fld {f : Str} {Cs : List Nat} {k : Nat} (hf : f = G.nm k) (hC : ∀ C ∈ Cs, Cls X.K (G.cA C) ∧ NoAttr X.K (G.cA C) f) (ha : RE X G e ea) (hb : attributeBase e f X.env (eval e X.env) = eval e X.env := by rfl) : RE X G (.Attribute e f pos) (eFld Cs k ea) := by
  refine (pe_fld ha hb).weak fun σ H Q ⟨ι, m, ρ, S, E, P⟩ => ?_
  refine ⟨ι, m, ρ, S, E, P.bind fun x m1 ι1 H1 v _ p1 l1 S1 rx P1 => ?_⟩
  unfold pFld at P1
  cases x with
  | ref i =>
    dsimp only at P1
    cases em : m1[i]? with
    | none => simp only [em] at P1; exact P1.elim
    | some ob =>
      cases ob with
      | ins C fs =>
        simp only [em] at P1
        by_cases hc : C ∈ Cs
        · rw [if_pos hc] at P1
          cases eg : getF fs k with
          | none => simp only [eg] at P1; exact P1.elim
          | some d =>
            simp only [eg] at P1
            obtain ⟨a, rfl, ia, dx, ls, q, rf⟩ := S1.obj em rx
            obtain ⟨w, e1, rd⟩ := rf.get eg
            obtain ⟨c1, c2⟩ := hC C hc
            exact ⟨a, _, dx, ls, w, rfl, q, c1, c2, by rw [hf]; exact e1, P1.okI w S1 rd⟩
        · rw [if_neg hc] at P1; exact P1.elim
      | _ => simp only [em] at P1; exact P1.elim
  | _ => exact P1.elim
end
end Mn
end

section
set_option Elab.async false
set_option linter.all false
set_option maxRecDepth 100000
set_option maxHeartbeats 2000000
namespace Mn
open PySem PySem.Spec L2 TL
section
variable {X : Cx} {G : Tb} {a b c e o : Expr} {es : List Expr} {ea eb ec eo : ME} {ta tb : MT} {ma : MA} {pos : Pos}
/-! ### a[b] -/
theorem at_rel {K : PySem.W.Frag} {ι : List Addr} {H : Hp} {ds : List D} {vs : List V} {k : Int} {d : D} (h : RDs K ι H ds vs) (e : Mn.atI ds k = some d) : ∃ v, L2.atI vs k = some v ∧ RD K ι H d v := by
  unfold Mn.atI at e
  unfold L2.atI
  rw [← h.length]
  show ∃ v, (Mn.ixN ds.length k).bind _ = _ ∧ _
  cases q : Mn.ixN ds.length k with
  | none => rw [q] at e; cases e
  | some j =>
    rw [q] at e
    exact h.get e
theorem ix_dict (hu : X.A.units + 1 < cLine) : IxR X (fun x y H Q => ∃ a v, x = .ref a ∧ DGet H a y (some v) ∧ Q v H) := by
  intro value slice pins s σ H x y v u Q I rx ry h hs
  obtain ⟨a, z, rfl, g, q⟩ := h
  obtain rfl : v = Value.ref a := rx
  have hT := dict_typeIs I g
  unfold PyProof.Rows.subscriptTail
  refine wpAny_bind ?_
  rw [getitemInPython_of_ne hT.not_modules]
  refine wpAny_bind (wpAny_specialOf hT PySem.F.slot_dict_getitem.lookup ?_)
  have fin : wpAny (model X.prog X.w) X.A (subscripted slice false (.ref a) u) (fun r s₃ => wpAny (model X.prog X.w) X.A (letTemporaryGo value (.ref a) r >>= fun _ => pure r) (EP X pins σ Q) X.xe s₃) X.xe s := by
    rw [hs]
    exact wpAny_operating (d_getItem hu I g ry fun w' s3 I3 rw' => wpAny_bind (wpAny_letTemporaryGo (wpAny_pure ⟨z, H, I3, rw', q⟩)))
  first
    | exact wpAny_pure (wpAny_bind fin)
    | exact wpAny_bind (wpAny_pure (wpAny_bind fin))
    | exact wpAny_bind fin
theorem strOk_get {s : Tx} (ok : strOkT s = true) {c : Nat} (h : c ∈ s) : strOkT [c] = true := by
  unfold strOkT at ok ⊢
  rw [List.all_eq_true] at ok
  simpa using ok c h
theorem strOk_sub {s t : Tx} (ok : strOkT s = true) (h : ∀ c ∈ t, c ∈ s) : strOkT t = true := by
  unfold strOkT at ok ⊢
  rw [List.all_eq_true] at ok ⊢
  exact fun c hc => ok c (h c hc)
theorem strOk_app {s t : Tx} (h1 : strOkT s = true) (h2 : strOkT t = true) : strOkT (s ++ t) = true := by
  unfold strOkT at *
  rw [List.all_append, h1, h2]; rfl
theorem DGet.rd {H : Hp} {a : Addr} {kvs : List (Key × V)} {k : Key} (e : Rd H a (.dK kvs)) : DGet H a (kV k) (valV kvs k) := .inl ⟨kvs, k, e, rfl, rfl⟩
theorem RO.dct {K : PySem.W.Frag} {ι : List Addr} {H : Hp} {a : Addr} {lk : Bool} {kvs : List (Ky × D)} (h : RO G K ι H a (.dct lk kvs)) : ∃ ks, Rd H a (.dK ks) ∧ RKvs K ι H kvs ks := by
  cases lk with
  | false => obtain ⟨ks, e, r⟩ := h; exact ⟨ks, .inl e, r⟩
  | true => obtain ⟨ks, o, e, r⟩ := h; exact ⟨ks, .inr ⟨o, e⟩, r⟩
/-- what a dict tells of a key -/
theorem get_rel {K : PySem.W.Frag} {ι : List Addr} {H : Hp} {a : Addr} {lk : Bool} {kvs : List (Ky × D)} {k : Ky} (h : RO G K ι H a (.dct lk kvs)) :
    match getKv kvs k with
    | some d => ∃ v, DGet H a (kV (kyS k)) (some v) ∧ RD K ι H d v
    | none => DGet H a (kV (kyS k)) none := by
  obtain ⟨ks, e, r⟩ := h.dct
  have q := r.val (k := k)
  cases eg : getKv kvs k with
  | none => rw [eg] at q; dsimp only at q ⊢; rw [← q]; exact DGet.rd e
  | some d => rw [eg] at q; obtain ⟨v, e1, rd⟩ := q; exact ⟨v, by rw [← e1]; exact DGet.rd e, rd⟩
theorem ixS (hu : X.A.units + 1 < cLine) : IxR X (r2 X G pIx) := by
  intro value slice pins s σ H x y v u Q I rx ry h hs
  obtain ⟨ι, m, dx, dy, S, hx, hy, P⟩ := h
  cases dx with
  | fls ds =>
    cases dy with
    | int k =>
      unfold pIx at P
      dsimp only at P
      cases e : Mn.atI ds k with
      | none => simp only [e] at P; exact P.elim
      | some d =>
        simp only [e] at P
        cases hy
        cases hx with
        | fls hf hr =>
          obtain ⟨w, e1, rd⟩ := at_rel hr e
          exact ix_list value slice pins s σ H _ _ v u Q I rx ry ⟨_, _, k, w, rfl, rfl, hf.sq, e1, P.okI w S rd⟩ hs
    | _ => exact P.elim
  | tup ds =>
    cases dy with
    | int k =>
      unfold pIx at P
      dsimp only at P
      cases e : Mn.atI ds k with
      | none => simp only [e] at P; exact P.elim
      | some d =>
        simp only [e] at P
        cases hy
        cases hx with
        | tup hf hr =>
          obtain ⟨w, e1, rd⟩ := at_rel hr e
          exact ix_tup value slice pins s σ H _ _ v u Q I rx ry ⟨_, _, k, w, rfl, rfl, hf, e1, P.okI w S rd⟩ hs
    | _ => exact P.elim
  | str z =>
    cases dy with
    | int k =>
      unfold pIx at P
      dsimp only at P
      by_cases hl : z.length ≤ LIM
      · rw [if_pos hl] at P
        cases e : Mn.atI z k with
        | none => simp only [e] at P; exact P.elim
        | some d =>
          simp only [e] at P
          cases hy
          cases hx with
          | str ok =>
            have hm : d ∈ z := by
              unfold Mn.atI at e
              cases q : Mn.ixN z.length k with
              | none => rw [q] at e; cases e
              | some j => rw [q] at e; exact List.mem_of_getElem? e
            refine ix_str value slice pins s σ H _ _ v u Q I rx ry ⟨mkS z, k, d, rfl, rfl, by rw [len_mkS]; exact LIM_le hl, ?_, P.okI (.str (mkS [d])) S (.str (strOk_get ok hm))⟩ hs
            exact e
      · rw [if_neg hl] at P; exact P.elim
    | _ => exact P.elim
  | ref i =>
    unfold pIx at P
    dsimp only at P
    cases em : m[i]? with
    | none => simp only [em] at P; exact P.elim
    | some ob =>
      obtain ⟨a, rfl, ia, ro⟩ := S.obj em hx
      cases ob with
      | lst ds =>
        simp only [em] at P
        cases dy with
        | int k =>
          dsimp only at P
          cases e : Mn.atI ds k with
          | none => simp only [e] at P; exact P.elim
          | some d =>
            simp only [e] at P
            cases hy
            obtain ⟨vs, q, hr⟩ := ro
            obtain ⟨w, e1, rd⟩ := at_rel hr e
            exact ix_list value slice pins s σ H _ _ v u Q I rx ry ⟨_, _, k, w, rfl, rfl, SqL.of q, e1, P.okI w S rd⟩ hs
        | _ => exact P.elim
      | dct lk kvs =>
        simp only [em] at P
        cases ek : toKy dy with
        | none => simp only [ek] at P; exact P.elim
        | some k =>
          simp only [ek] at P
          obtain ⟨rfl, _⟩ := hy.toKy ek
          have g := get_rel (k := k) ro
          cases eg : getKv kvs k with
          | none => simp only [eg] at P; exact P.elim
          | some d =>
            simp only [eg] at P
            rw [eg] at g
            obtain ⟨w, g, rd⟩ := g
            exact ix_dict hu value slice pins s σ H _ _ v u Q I rx ry ⟨a, w, rfl, g, P.okI w S rd⟩ hs
      | ins C fs => simp only [em] at P; exact P.elim
      | xdc fs => simp only [em] at P; exact P.elim
  | _ => exact P.elim
theorem re_ix (hu : X.A.units + 1 < cLine) (ha : RE X G a ea) (hb : RE X G b eb) (hs : PlainIx b := by exact fun _ _ => rfl) : RE X G (.Subscript a b pos) (eOp pIx ea eb) :=
  (pe_ix (ixS hu) ha hb hs).weak fun _ _ _ => le_op
/-! ### slices -/
abbrev RO' (X : Cx) (G : Tb) (e : Option Expr) (m : MO) : Prop := PO X e (tO X G m)
theorem _root_.L2.PO.weak {e : Option Expr} {t t' : TO} (h : PO X e t) (k : ∀ σ H Q, t' σ H Q → t σ H Q) : PO X e t' := ⟨fun pins s σ H Q I q => h.run pins s σ H Q I (k σ H Q q)⟩
theorem ro_none : RO' X G none oNone := po_none.weak fun σ H Q ⟨ι, m, ρ, S, E, P⟩ => P.okI none S rfl
theorem ro_some (h : RE X G e ea) : RO' X G (some e) (oSome ea) := by
  refine (po_some h).weak fun σ H Q ⟨ι, m, ρ, S, E, P⟩ => ?_
  refine ⟨ι, m, ρ, S, E, P.bind fun x m1 ι1 H1 v _ p1 l1 S1 rx P1 => ?_⟩
  cases rx with
  | int i => exact ⟨i, rfl, P1.okI (some i) S1 rfl⟩
  | _ => exact P1.elim
def rSl (X : Cx) (G : Tb) : V → Option Int → Option Int → Hp → VK → Prop := fun x lo hi H Q => rSlL X.K x lo hi H Q ∨ rSlT X.K x lo hi H Q ∨ rSlS x lo hi H Q
theorem slS : SlR X (rSl X G) := sl_list.or (sl_tup.or sl_str)
theorem cut_rel {K : PySem.W.Frag} {ι : List Addr} {H : Hp} {ds : List D} {vs : List V} {lo hi : Option Int} (h : RDs K ι H ds vs) : RDs K ι H (Mn.cut ds lo hi) (cutV vs lo hi) := by
  unfold Mn.cut cutV
  rw [← h.length]
  exact RDs.take _ (RDs.drop _ h)
theorem re_sl {lo hi : Option Expr} {ol oh : MO} {p2 : Pos} (ha : RE X G a ea) (hl : RO' X G lo ol) (hh : RO' X G hi oh) : RE X G (.Subscript a (.Slice lo hi none p2) pos) (eSl ea ol oh) := by
  refine (pe_slice (slS (G := G)) ha hl hh).weak fun σ H Q ⟨ι, m, ρ, S, E, P⟩ => ?_
  refine ⟨ι, m, ρ, S, E, P.bind fun x m1 ι1 H1 v _ p1 l1 S1 rx P1 => ?_⟩
  refine ⟨ι1, m1, ρ, S1, E.mono p1 l1, P1.bind fun l m2 ι2 H2 v2 _ p2 l2 S2 rl P2 => ?_⟩
  refine ⟨ι2, m2, ρ, S2, (E.mono p1 l1).mono p2 l2, P2.bind fun h m3 ι3 H3 v3 _ p3 l3 S3 rh P3 => ?_⟩
  subst rl; subst rh
  have rx3 := RD.mono (p2.trans p3) (l2.trans l3) _ _ rx
  cases x with
  | str z =>
    dsimp only at P3
    by_cases hz : z.length ≤ LIM
    · rw [if_pos hz] at P3
      cases rx3 with
      | str ok =>
        refine .inr (.inr ⟨mkS z, rfl, by rw [len_mkS]; exact LIM_le hz, ?_⟩)
        have e : cutS (mkS z) v2 v3 = mkS (Mn.cut z v2 v3) := rfl
        rw [e]
        exact P3.okI _ S3 (.str (strOk_sub ok fun c hc => List.mem_of_mem_drop (List.mem_of_mem_take hc)))
    · rw [if_neg hz] at P3; exact P3.elim
  | tup ds =>
    dsimp only at P3
    cases rx3 with
    | @tup a' _ vs h1 hr =>
      split at P3
      · exact P3.elim
      rename_i hw
      refine .inr (.inl ⟨a', vs, rfl, h1, by rw [← hr.length]; exact hw, fun p hp => ?_⟩)
      exact P3 ι3 _ (.ref p) (List.prefix_refl _) (Le.new hp) (S3.fresh hp) (.tup (SqT.of upd_same) (RDs.mono (List.prefix_refl _) (Le.new hp) _ _ (cut_rel hr)))
  | ref i =>
    dsimp only at P3
    cases em : m3[i]? with
    | none => simp only [em] at P3; exact P3.elim
    | some ob =>
      cases ob with
      | lst ds =>
        simp only [em] at P3
        obtain ⟨a', rfl, ia, vs, q, hr⟩ := S3.obj em rx3
        refine .inl ⟨a', vs, rfl, SqL.of q, fun p hp => ?_⟩
        exact new_obj (ob := .lst _) S3 hp ⟨_, upd_same, RDs.mono pre_snoc (Le.new hp) _ _ (cut_rel hr)⟩ P3
      | _ => simp only [em] at P3; exact P3.elim
  | _ => exact P3.elim
/-! ### calls of defs -/
/-- what a def promises: what f does -/
def spOf (G : Tb) (K : PySem.W.Frag) (f : MF) : Sp := fun vs H Q E => ∃ ι m ds, Sim G K ι H m ∧ RDs K ι H ds vs ∧ match f ds m with
  | .ok d m' => ∀ ι' H' v, ι <+: ι' → Le ι ι' H H' → Sim G K ι' H' m' → RD K ι' H' d v → Q v H'
  | .exc x m' => ∀ ι' H' c dd, ι <+: ι' → Le ι ι' H H' → Sim G K ι' H' m' → RX G ι' x c dd → E c dd H'
  | .bad => False
/-- a def that stands at f keeps it -/
abbrev FS (X : Cx) (G : Tb) (k : Nat) (f : Addr) (fd : FuncData) (ps : List Str) (g : MF) : Prop := FnOk X.prog X.w X.K X.mg X.base (L2.CX X.prog X.w) k f fd ps (spOf G X.K g)
theorem Post.sp {g : MF} {ds : List D} {vs : List V} {ι : List Addr} {H : Hp} {m : M} {σ : L2.St} {Q : VK} (S : Sim G X.K ι H m) (r : RDs X.K ι H ds vs) (P : Post X G ι H σ (rD X) (g ds m) Q) : spOf G X.K g vs H Q (WE (Wm X) σ) := by
  refine ⟨ι, m, ds, S, r, ?_⟩
  cases e : g ds m with
  | ok d m' => rw [e] at P; exact P
  | exc x m' => rw [e] at P; exact P
  | bad => rw [e] at P; exact P
section
variable {k : Nat} {f C : Addr} {fd : FuncData} {ps : List Str} {g : MF} {x mn : Str} {p apos : Pos}
theorem re_call (F : FS X G k f fd ps g) (hr : Room k X.A) (hg : Gl X x) (hm : X.mg x = some (.ref f)) (hk : PySem.W.keepIn X.K (.ref f) = true) (hb : Binds X.K fd ps [])
    (ha : RA X G (e :: es) ma) (hdb : (x == ("__debug__" : Str)) = false := by decide) (he : starEach (e :: es) X.env = (false, eval e X.env) :: starEach es X.env := by rfl) (hpl : (backTo pos (starEach es X.env)).any (·.1) = false := by rfl) :
    RE X G (.Call (.Name x p) (e :: es) [] pos) (eFn g ma) := by
  refine (pe_callSD F hr hg hm hk hb .nil (fun σ => passAt takes_Wm σ) ha hdb he hpl).weak fun σ H Q ⟨ι, m, ρ, S, E, P⟩ => ?_
  refine ⟨ι, m, ρ, S, E, P.bind fun xs m1 ι1 H1 vs _ p1 l1 S1 rs P1 => ?_⟩
  rw [List.append_nil]
  exact P1.sp S1 rs
theorem no_attr {K : PySem.W.Frag} {ι : List Addr} {H : Hp} (hn : ∀ k, mn ≠ G.nm k) : ∀ {fs : List (Nat × D)} {ls : List (Str × V)}, RFs G K ι H fs ls → ls.lookup mn = none
  | [], [], _ => rfl
  | p :: fs, (q1, q2) :: ls, h => by
    cases h with
    | cons r t =>
      have e1 : q1 = G.nm p.1 := r.1
      rw [List.lookup_cons, beq_eq_false_iff_ne.mpr (by rw [e1]; exact hn _)]
      exact no_attr hn t
/-- the shape of a method call's evaluation -/
theorem re_meth {pl : Sem Bool} {Ci : Nat} (hC : Cls X.K (G.cA Ci)) (hm : Meth X.K (G.cA Ci) mn f) (hn : ∀ k, mn ≠ G.nm k) (ho : RE X G o eo) (F : FS X G k f fd ps g) (hr : Room k X.A) (hb : Binds X.K fd ps []) (ha : RA X G (e :: es) ma)
    (hst : starEach (e :: es) X.env = (false, eval e X.env) :: starEach es X.env := by rfl) (hpl : (backTo pos (starEach es X.env)).any (·.1) = false := by rfl)
    (ht : eval (.Call (.Attribute o mn apos) (e :: es) [] pos) X.env = (do
      let ov ← eval o X.env
      standAt apos.atName
      let (f, first) ← holding [ov] (getMethod ov mn pl)
      callWith pos f first (backTo pos (starEach (e :: es) X.env)) (backToKw pos (keywordEach [] X.env))) := by rfl) :
    RE X G (.Call (.Attribute o mn apos) (e :: es) [] pos) (eMeth Ci g eo ma) := by
  refine ⟨fun pins s σ H Q I ⟨ι, m, ρ, S, E, P⟩ => ?_⟩
  have P' : tE X G eo σ H (fun x H1 => ∃ a dx fs, x = .ref a ∧ H1 a = some (.ins (G.cA Ci) dx fs) ∧ fs.lookup mn = none ∧ tA X G ma σ H1 fun vs H2 => spOf G X.K g (x :: vs) H2 Q (WE (Wm X) σ)) := by
    refine ⟨ι, m, ρ, S, E, P.bind fun x m1 ι1 H1 v _ p1 l1 S1 rx P1 => ?_⟩
    by_cases hi : isIns Ci x m1 = true
    · rw [if_pos hi] at P1
      unfold isIns at hi
      cases x with
      | ref i =>
        dsimp only at hi
        cases em : m1[i]? with
        | none => simp [em] at hi
        | some ob =>
          cases ob with
          | ins C' fs =>
            simp only [em] at hi
            obtain rfl : C' = Ci := by simpa using hi
            obtain ⟨a, rfl, ia, dx, ls, q, rf⟩ := S1.obj em rx
            refine ⟨a, dx, ls, rfl, q, ?_, ι1, m1, ρ, S1, E.mono p1 l1, P1.bind fun xs m2 ι2 H2 vs _ p2 l2 S2 rs P2 => ?_⟩
            · exact no_attr hn rf
            · exact P2.sp S2 (.cons (RD.mono p2 l2 _ _ rx) rs)
          | _ => simp [em] at hi
      | _ => cases hi
    · rw [if_neg hi] at P1; exact P1.elim
  refine PySem.W.methodCall_KW (pl := pl) (thn (ho.run pins s σ H _ I P') fun u s1 ⟨x, H1, I1, rx, a, dx, fs, ex, ea, l, q⟩ => ?_) ht
  subst ex
  obtain rfl : u = Value.ref a := rx
  refine getmeth_ok I1 ea hC hm l ?_
  refine PySem.W.callWith_K (first := [.ref a]) (h₀ := X.base) I.ok.mod.kin hm.kp (thn (ha.run pos pins s1 σ H1 _ I1 q) fun us s2 ⟨vs, H2, I2, r, q2⟩ => ⟨I2.kIn, ?_⟩) hst hpl
  exact run_fnSD (us := .ref a :: us) (vs := .ref a :: vs) (dvs := []) (E := WE (Wm X)) F hr hb .nil (passAt takes_Wm σ) I2 (.cons rfl r) (by rw [List.append_nil]; exact q2)
theorem re_meth0 {pl : Sem Bool} {Ci : Nat} (hC : Cls X.K (G.cA Ci)) (hm : Meth X.K (G.cA Ci) mn f) (hn : ∀ k, mn ≠ G.nm k) (ho : RE X G o eo) (F : FS X G k f fd ps g) (hr : Room k X.A) (hb : Binds X.K fd ps [])
    (ht : eval (.Call (.Attribute o mn apos) [] [] pos) X.env = (do
      let ov ← eval o X.env
      standAt apos.atName
      let (f, first) ← holding [ov] (getMethod ov mn pl)
      callWith pos f first (backTo pos (starEach [] X.env)) (backToKw pos (keywordEach [] X.env))) := by rfl) :
    RE X G (.Call (.Attribute o mn apos) [] [] pos) (eMeth Ci g eo aNil) := by
  refine ⟨fun pins s σ H Q I ⟨ι, m, ρ, S, E, P⟩ => ?_⟩
  have P' : tE X G eo σ H (fun x H1 => ∃ a dx fs, x = .ref a ∧ H1 a = some (.ins (G.cA Ci) dx fs) ∧ fs.lookup mn = none ∧ spOf G X.K g [x] H1 Q (WE (Wm X) σ)) := by
    refine ⟨ι, m, ρ, S, E, P.bind fun x m1 ι1 H1 v _ p1 l1 S1 rx P1 => ?_⟩
    by_cases hi : isIns Ci x m1 = true
    · rw [if_pos hi] at P1
      unfold isIns at hi
      cases x with
      | ref i =>
        dsimp only at hi
        cases em : m1[i]? with
        | none => simp [em] at hi
        | some ob =>
          cases ob with
          | ins C' fs =>
            simp only [em] at hi
            obtain rfl : C' = Ci := by simpa using hi
            obtain ⟨a, rfl, ia, dx, ls, q, rf⟩ := S1.obj em rx
            refine ⟨a, dx, ls, rfl, q, ?_, ?_⟩
            · exact no_attr hn rf
            · exact Post.sp (ds := [.ref i]) S1 (.cons rx .nil) P1
          | _ => simp [em] at hi
      | _ => cases hi
    · rw [if_neg hi] at P1; exact P1.elim
  refine PySem.W.methodCall_KW (pl := pl) (thn (ho.run pins s σ H _ I P') fun u s1 ⟨x, H1, I1, rx, a, dx, fs, ex, ea, l, q⟩ => ?_) ht
  subst ex
  obtain rfl : u = Value.ref a := rx
  refine getmeth_ok I1 ea hC hm l ?_
  exact PySem.W.callWith_K0 (first := [.ref a]) I1.kIn hm.kp (run_fnSD (us := [.ref a]) (vs := [.ref a]) (dvs := []) (E := WE (Wm X)) F hr hb .nil (passAt takes_Wm σ) I1 (.cons rfl .nil) q)
/-- C(..) -/
theorem run_makeS {Ci : Nat} {pins : List (Addr × Obj)} {σ : L2.St} {H : Hp} {s : Shared} {Q : VK} {us : List Value} {vs : List V} {xs : List D} {ι : List Addr} {m : M} (Mk : Mk X.K (G.cA Ci) f) (F : FS X G k f fd ps g) (hr : Room (k + 1) X.A) (hb : Binds X.K fd ps [])
    (I : Inv X pins σ H s) (r : Vals vs us) (S : Sim G X.K ι H m) (rs : RDs X.K ι H xs vs)
    (P : Post X G ι H σ (rD X) ((g (.ref m.length :: xs) (m ++ [.ins Ci []])).bind fun v m2 => if v = .non then .ok (.ref m.length) m2 else .bad) Q) :
    wpAny (model X.prog X.w) X.A (call (.ref (G.cA Ci)) us) (EP X pins σ Q) X.xe s := by
  have hd := I.hok.fresh (Nat.le_refl s.heap.objs.size)
  have hx := I.hok.fresh (Nat.le_succ s.heap.objs.size)
  have hne : s.heap.objs.size + 1 ≠ s.heap.objs.size := Nat.succ_ne_self _
  have hx' : (upd H s.heap.objs.size (.own (s.heap.objs.size + 1))) (s.heap.objs.size + 1) = none := by rw [upd_ne hne]; exact hx
  have l1 : Le ι ι H (upd H s.heap.objs.size (.own (s.heap.objs.size + 1))) := Le.new hd
  have S1 := (S.fresh (o := .own (s.heap.objs.size + 1)) hd).new (o := .ins Ci []) (u := .ins (G.cA Ci) s.heap.objs.size []) hx' ⟨_, [], upd_same, .nil⟩
  have l2 : Le ι (ι ++ [s.heap.objs.size + 1]) H (upd (upd H s.heap.objs.size (.own (s.heap.objs.size + 1))) (s.heap.objs.size + 1) (.ins (G.cA Ci) s.heap.objs.size [])) := l1.trans (Le.new hx')
  have hq : spOf G X.K g (.ref (s.heap.objs.size + 1) :: vs) (upd (upd H s.heap.objs.size (.own (s.heap.objs.size + 1))) (s.heap.objs.size + 1) (.ins (G.cA Ci) s.heap.objs.size []))
      (fun v H2 => v = .non ∧ Q (.ref (s.heap.objs.size + 1)) H2) (WE (Wm X) σ) := by
    refine Post.sp S1 (.cons (.ref ?_) (RDs.mono pre_snoc l2 _ _ rs)) ((Post.up pre_snoc l2 P).bind fun v m2 ι2 H2 w _ p3 l3 S3 rv P3 => ?_)
    · rw [← S.len, List.getElem?_concat_length]
    · by_cases e : v = .non
      · rw [if_pos e] at P3
        subst e
        cases rv
        exact ⟨rfl, P3.okI _ S3 (.ref (pre_get p3 (by rw [← S.len, List.getElem?_concat_length])))⟩
      · rw [if_neg e] at P3; exact P3.elim
  have I2 := Inv.made (C := G.cA Ci) I
  have r2 : Vals (V.ref (s.heap.objs.size + 1) :: vs) (Value.ref (s.heap.objs.size + 1) :: us) := .cons rfl r
  have hl : (Value.ref (s.heap.objs.size + 1) :: us ++ []).length = ps.length := by
    have e := r2.length
    rw [F.len _ _ _ _ hq] at e
    rw [List.append_nil]
    exact e.symm
  have hbb := hb _ (Value.ref (s.heap.objs.size + 1) :: us) I2.kIn hl
  rw [List.append_nil] at hbb
  refine wpAny_call (make_map (f := f) I.kIn Mk.makes Mk.init (beq_iff_eq.mp Mk.fn) (codeAny_mono (F.run _ X.stack _ _ ⟨Value.ref (s.heap.objs.size + 1) :: us, []⟩ (Value.ref (s.heap.objs.size + 1) :: us) _ _ (WE (Wm X) σ) (hr.make (G.cA Ci) us [])
    (I2.env0.make (G.cA Ci) us []) hbb r2 hq) fun r s' hq' => ?_))
  cases r with
  | error e => exact passAt takes_Wm σ pins _ _ e s' I2 hq'
  | ok fl =>
    cases fl with
    | ret u =>
      obtain ⟨v, H', I3, rv, ev, q3⟩ := I2.after hq'
      subst ev
      exact ⟨rv, ⟨V.ref (s.heap.objs.size + 1), H', I3, rfl, q3⟩⟩
    | next => exact False.elim hq'
    | brk => exact False.elim hq'
    | cont => exact False.elim hq'
theorem re_new {Ci : Nat} (Mk : Mk X.K (G.cA Ci) f) (F : FS X G k f fd ps g) (hr : Room (k + 1) X.A) (hg : Gl X x) (hm : X.mg x = some (.ref (G.cA Ci))) (hb : Binds X.K fd ps [])
    (ha : RA X G (e :: es) ma) (hdb : (x == ("__debug__" : Str)) = false := by decide) (he : starEach (e :: es) X.env = (false, eval e X.env) :: starEach es X.env := by rfl) (hpl : (backTo pos (starEach es X.env)).any (·.1) = false := by rfl) :
    RE X G (.Call (.Name x p) (e :: es) [] pos) (eNew Ci g ma) := by
  refine ⟨fun pins s σ H Q I ⟨ι, m, ρ, S, E, P⟩ => ?_⟩
  refine wpAny_Call_Name_kw (ld_glob I hg hm ?_ hdb)
  have P' : tA X G ma σ H (fun vs H1 => ∃ ι1 m1 xs, Sim G X.K ι1 H1 m1 ∧ RDs X.K ι1 H1 xs vs ∧ Post X G ι1 H1 σ (rD X) ((g (.ref m1.length :: xs) (m1 ++ [.ins Ci []])).bind fun v m2 => if v = .non then .ok (.ref m1.length) m2 else .bad) Q) :=
    ⟨ι, m, ρ, S, E, P.bind fun xs m1 ι1 H1 vs _ p1 l1 S1 rs P1 => ⟨ι1, m1, xs, S1, rs, P1⟩⟩
  refine PySem.W.callWith_K (h₀ := X.base) I.ok.mod.kin Mk.kp (thn (ha.run pos pins s σ H _ I P') fun us s1 ⟨vs, H1, I1, r, ι1, m1, xs, S1, rs, P1⟩ => ⟨I1.kIn, ?_⟩) he hpl
  exact run_makeS Mk F hr hb I1 r S1 rs P1
theorem re_new0 {Ci : Nat} (Mk : Mk X.K (G.cA Ci) f) (F : FS X G k f fd ps g) (hr : Room (k + 1) X.A) (hg : Gl X x) (hm : X.mg x = some (.ref (G.cA Ci))) (hb : Binds X.K fd ps [])
    (hdb : (x == ("__debug__" : Str)) = false := by decide) : RE X G (.Call (.Name x p) [] [] pos) (eNew Ci g aNil) := by
  refine ⟨fun pins s σ H Q I ⟨ι, m, ρ, S, E, P⟩ => ?_⟩
  refine wpAny_Call_Name_kw (ld_glob I hg hm ?_ hdb)
  exact PySem.W.callWith_K0 I.kIn Mk.kp (run_makeS (us := []) (vs := []) (xs := []) Mk F hr hb I .nil S .nil P)
end
end
end Mn
end

section
set_option Elab.async false
set_option linter.all false
set_option maxRecDepth 100000
set_option maxHeartbeats 2000000
namespace Mn
open PySem PySem.Spec L2 TL
section
variable {X : Cx} {G : Tb} {a b c e o : Expr} {es : List Expr} {ea eb ec eo : ME} {ta tb : MT} {ma : MA} {pos : Pos}
/-! ### operators -/
theorem P0.okD {ι : List Addr} {H : Hp} {m : M} {d : D} {v : V} {Q : VK} (h : P0 X G ι H (rD X) (.ok d m) Q) (S : Sim G X.K ι H m) (r : RD X.K ι H d v) : Q v H := h.okI v S r
theorem opAdd : OpR X (binaryOp .Add) (r2 X G pAdd) := by
  intro pins s σ H x y v u Q I rx ry ⟨ι, m, dx, dy, S, hx, hy, P⟩
  cases dx <;> cases dy <;> first | exact P.elim | skip
  · rename_i i j
    cases hx; cases hy
    exact op_add pins s σ H _ _ v u Q I rx ry ⟨i, j, rfl, rfl, P.okD S (.int _)⟩
  · rename_i p q
    unfold pAdd at P
    dsimp only at P
    split at P
    · rename_i hl
      cases hx with
      | str o1 =>
        cases hy with
        | str o2 =>
          refine op_add_str pins s σ H _ _ v u Q I rx ry ⟨mkS p, mkS q, rfl, rfl, by rw [len_mkS, len_mkS]; exact LIM_le hl, ?_⟩
          rw [mkS_app]
          exact P.okD S (.str (strOk_app o1 o2))
    · exact P.elim
  · rename_i i j
    unfold pAdd at P
    dsimp only at P
    cases e1 : m[i]? with
    | none => simp only [e1] at P; exact P.elim
    | some o1 =>
      cases o1 with
      | lst xs =>
        cases e2 : m[j]? with
        | none => simp only [e1, e2] at P; exact P.elim
        | some o2 =>
          cases o2 with
          | lst ys =>
            simp only [e1, e2] at P
            split at P
            · rename_i hl
              obtain ⟨a, rfl, ia, vs, qa, ra⟩ := S.obj e1 hx
              obtain ⟨b, rfl, ib, ws, qb, rb⟩ := S.obj e2 hy
              refine op_cat pins s σ H _ _ v u Q I rx ry ⟨a, b, vs, ws, rfl, rfl, qa, qb, by rw [← ra.length, ← rb.length]; exact LIM_le hl, fun p hp => ?_⟩
              exact new_obj0 (ob := .lst _) S hp ⟨_, upd_same, RDs.mono pre_snoc (Le.new hp) _ _ (ra.app rb)⟩ P
            · exact P.elim
          | _ => simp only [e1, e2] at P; exact P.elim
      | _ => simp only [e1] at P; exact P.elim
theorem opSub : OpR X (binaryOp .Sub) (r2 X G pSub) := by
  intro pins s σ H x y v u Q I rx ry ⟨ι, m, dx, dy, S, hx, hy, P⟩
  cases dx <;> cases dy <;> first | exact P.elim | skip
  cases hx; cases hy
  exact op_sub pins s σ H _ _ v u Q I rx ry ⟨_, _, rfl, rfl, P.okD S (.int _)⟩
theorem rep_list (c : Nat) : ∀ (n : Nat) (acc : Array Nat), ((List.replicate n #[c]).foldl (· ++ ·) acc).toList = acc.toList ++ List.replicate n c
  | 0, acc => by simp
  | n + 1, acc => by
    rw [List.replicate_succ, List.foldl_cons, rep_list c n]
    simp [List.replicate_succ]
theorem opMul : OpR X (binaryOp .Mult) (r2 X G pMul) := by
  intro pins s σ H x y v u Q I rx ry ⟨ι, m, dx, dy, S, hx, hy, P⟩
  cases dx with
  | int i =>
    cases dy with
    | int j =>
      unfold pMul at P
      dsimp only at P
      split at P
      · rename_i hc
        cases hx; cases hy
        exact op_mul pins s σ H _ _ v u Q I rx ry ⟨i, j, rfl, rfl, hc, P.okD S (.int _)⟩
      · exact P.elim
    | _ => exact P.elim
  | str z =>
    cases z with
    | nil => cases dy <;> exact P.elim
    | cons c z =>
      cases z with
      | cons _ _ => cases dy <;> exact P.elim
      | nil =>
        cases dy with
        | int j =>
          unfold pMul at P
          dsimp only at P
          split at P
          · rename_i hc
            obtain ⟨h1, h2⟩ := hc
            cases hx with
            | str ok =>
              cases hy
              obtain ⟨t, rfl⟩ := rx
              obtain ⟨t', rfl⟩ := ry
              have hl1 : (mkS [c]).length = 1 := by rw [len_mkS]; rfl
              have hok : MulOk (mkS [c]) j := by
                refine ⟨?_, fun _ _ => ?_, fun _ _ => ?_⟩
                · rw [decide_eq_false (show ¬ j < -(2 ^ 63 : Int) by omega), decide_eq_false (show ¬ j ≥ 2 ^ 63 by omega)]; rfl
                · rw [hl1]
                  have hp : (0 : Int) < j := by omega
                  have : ((1 : Nat) : Int) ≤ (2 ^ 63 - 1) / j := by
                    rw [Int.le_ediv_iff_mul_le hp]; omega
                  exact Int.not_lt.mpr this
                · rw [hl1]
                  unfold Builtin.Str.tooLong
                  rw [decide_eq_false_iff_not]
                  have : sizeLine = 16777216 := sizeLine_eq
                  omega
              refine SB.mul hok fun t2 k => ?_
              refine ⟨.str (mkS (List.replicate j.toNat c)), H, I.tok _, ⟨t2, ?_⟩, P.okD S (.str ?_)⟩
              · congr 1
                unfold Txt.mul
                rw [if_neg (by omega)]
                refine ext_tl ?_
                by_cases h3 : (j == 1 || (mkS [c]).length == 0) = true
                · rw [if_pos h3]
                  have : j = 1 := by simpa [hl1] using h3
                  subst this
                  rfl
                · rw [if_neg h3, tl_mkS]
                  show ((List.replicate j.toNat (mkS [c]).cps).foldl (· ++ ·) #[]).toList = _
                  exact (rep_list c j.toNat #[]).trans (by simp)
              · refine strOk_sub ok fun d hd => ?_
                rw [List.mem_replicate] at hd
                rw [hd.2]; simp
          · exact P.elim
        | _ => exact P.elim
  | _ => cases dy <;> exact P.elim
theorem opDiv : OpR X (binaryOp .FloorDiv) (r2 X G pDiv) := by
  intro pins s σ H x y v u Q I rx ry ⟨ι, m, dx, dy, S, hx, hy, P⟩
  cases dx <;> cases dy <;> first | exact P.elim | skip
  unfold pDiv at P
  dsimp only at P
  split at P
  · rename_i hc
    cases hx; cases hy
    exact op_fdivN pins s σ H _ _ v u Q I rx ry ⟨_, _, rfl, rfl, hc, P.okD S (.int _)⟩
  · exact P.elim
theorem opMod : OpR X (binaryOp .Mod) (r2 X G pMod) := by
  intro pins s σ H x y v u Q I rx ry ⟨ι, m, dx, dy, S, hx, hy, P⟩
  cases dx <;> cases dy <;> first | exact P.elim | skip
  unfold pMod at P
  dsimp only at P
  split at P
  · rename_i hc
    cases hx; cases hy
    exact op_modN pins s σ H _ _ v u Q I rx ry ⟨_, _, rfl, rfl, hc, P.okD S (.int _)⟩
  · exact P.elim
theorem opPow : OpR X (binaryOp .Pow) (r2 X G pPow) := by
  intro pins s σ H x y v u Q I rx ry ⟨ι, m, dx, dy, S, hx, hy, P⟩
  cases dx <;> cases dy <;> first | exact P.elim | skip
  unfold pPow at P
  dsimp only at P
  split at P
  · rename_i hc
    cases hx; cases hy
    exact op_pow pins s σ H _ _ v u Q I rx ry ⟨_, _, rfl, rfl, ⟨hc.1, by have := hc.2.1; omega, hc.2.2⟩, P.okD S (.int _)⟩
  · exact P.elim
theorem unNeg : UnR X (unaryOp .USub) (r1 X G pNeg) := by
  intro pins s σ H x v Q I rx ⟨ι, m, dx, S, hx, P⟩
  cases dx <;> first | exact P.elim | skip
  cases hx
  exact un_neg pins s σ H _ v Q I rx ⟨_, rfl, P.okD S (.int _)⟩
/-! ### order -/
theorem opLt : OpR X (compareOp .Lt) (r2 X G pLt) := by
  intro pins s σ H x y v u Q I rx ry ⟨ι, m, dx, dy, S, hx, hy, P⟩
  cases dx <;> cases dy <;> first | exact P.elim | skip
  · cases hx; cases hy
    exact op_lt pins s σ H _ _ v u Q I rx ry ⟨_, _, rfl, rfl, P.okD S (.bl _)⟩
  · cases hx; cases hy
    exact op_lt_str pins s σ H _ _ v u Q I rx ry ⟨_, _, rfl, rfl, P.okD S (.bl _)⟩
theorem opGt : OpR X (compareOp .Gt) (r2 X G pGt) := by
  intro pins s σ H x y v u Q I rx ry ⟨ι, m, dx, dy, S, hx, hy, P⟩
  cases dx <;> cases dy <;> first | exact P.elim | skip
  · cases hx; cases hy
    exact op_gt pins s σ H _ _ v u Q I rx ry ⟨_, _, rfl, rfl, P.okD S (.bl _)⟩
  · cases hx; cases hy
    exact op_gt_str pins s σ H _ _ v u Q I rx ry ⟨_, _, rfl, rfl, P.okD S (.bl _)⟩
theorem opLe : OpR X (compareOp .LtE) (r2 X G pLe) := by
  intro pins s σ H x y v u Q I rx ry ⟨ι, m, dx, dy, S, hx, hy, P⟩
  cases dx <;> cases dy <;> first | exact P.elim | skip
  cases hx; cases hy
  exact op_le pins s σ H _ _ v u Q I rx ry ⟨_, _, rfl, rfl, P.okD S (.bl _)⟩
theorem opGe : OpR X (compareOp .GtE) (r2 X G pGe) := by
  intro pins s σ H x y v u Q I rx ry ⟨ι, m, dx, dy, S, hx, hy, P⟩
  cases dx <;> cases dy <;> first | exact P.elim | skip
  cases hx; cases hy
  exact op_ge pins s σ H _ _ v u Q I rx ry ⟨_, _, rfl, rfl, P.okD S (.bl _)⟩
theorem RD.non_iff {K : PySem.W.Frag} {ι : List Addr} {H : Hp} {d : D} {v : V} (h : RD K ι H d v) : decide (v = V.non) = decide (d = .non) := by
  cases h <;> simp
theorem re_isN {p2 : Pos} {j} (ha : RE X G a ea) : RE X G (.Compare a [.Is] [.Constant .none j p2] pos) (eUn pIsN ea) := by
  refine (pe_cmp (pc_isN ha) rfl).weak fun σ H Q ⟨ι, m, ρ, S, E, P⟩ => ?_
  refine ⟨ι, m, ρ, S, E, P.bind fun x m1 ι1 H1 v _ p1 l1 S1 rx P1 => ?_⟩
  rw [rx.non_iff]
  exact P1.okI _ S1 (.bl _)
theorem re_notN {p2 : Pos} {j} (ha : RE X G a ea) : RE X G (.Compare a [.IsNot] [.Constant .none j p2] pos) (eUn pNotN ea) := by
  refine (pe_cmp (pc_notN ha) rfl).weak fun σ H Q ⟨ι, m, ρ, S, E, P⟩ => ?_
  refine ⟨ι, m, ρ, S, E, P.bind fun x m1 ι1 H1 v _ p1 l1 S1 rx P1 => ?_⟩
  rw [rx.non_iff]
  exact P1.okI _ S1 (.bl _)
theorem rt_isN {p2 : Pos} {j} (ha : RE X G a ea) : RT X G (.Compare a [.Is] [.Constant .none j p2] pos) (tV (eUn pIsN ea)) := by
  refine (pt_cmp (pc_isN ha) rfl).weak fun σ H Q ⟨ι, m, ρ, S, E, P⟩ => ?_
  refine ⟨ι, m, ρ, S, E, ?_⟩
  unfold tV eUn at P
  cases e1 : ea ρ m with
  | ok x m1 =>
    rw [e1] at P
    intro ι1 H1 v p1 l1 S1 rx
    refine ⟨_, rfl, ?_⟩
    rw [rx.non_iff]
    exact (Post.up p1 l1 P).okI _ S1 rfl
  | exc _ _ => rw [e1] at P; exact P
  | bad => rw [e1] at P; exact P
theorem rt_notN {p2 : Pos} {j} (ha : RE X G a ea) : RT X G (.Compare a [.IsNot] [.Constant .none j p2] pos) (tV (eUn pNotN ea)) := by
  refine (pt_cmp (pc_notN ha) rfl).weak fun σ H Q ⟨ι, m, ρ, S, E, P⟩ => ?_
  refine ⟨ι, m, ρ, S, E, ?_⟩
  unfold tV eUn at P
  cases e1 : ea ρ m with
  | ok x m1 =>
    rw [e1] at P
    intro ι1 H1 v p1 l1 S1 rx
    refine ⟨_, rfl, ?_⟩
    rw [rx.non_iff]
    exact (Post.up p1 l1 P).okI _ S1 rfl
  | exc _ _ => rw [e1] at P; exact P
  | bad => rw [e1] at P; exact P
end
end Mn
end

section
set_option Elab.async false
set_option linter.all false
set_option maxRecDepth 100000
set_option maxHeartbeats 2000000
namespace Mn
open PySem PySem.Spec L2 TL
/-! ### equality of data -/
mutual
def toPy : T → PyData
  | .non => .none
  | .bl b => .bool b
  | .int i => .int i
  | .str s => .str (mkS s)
  | .tup ds => .tuple (toPys ds)
  | .lst ds => .list (toPys ds)
def toPys : List T → List PyData
  | [] => []
  | a :: r => toPy a :: toPys r
end
theorem mkS_beq (a b : Tx) : (mkS a == mkS b) = (a == b) := by
  by_cases h : a = b
  · subst h; simp
  · rw [beq_eq_false_iff_ne.mpr h, beq_eq_false_iff_ne.mpr (fun z => h (mkS_inj z))]
mutual
theorem eqv_beq : ∀ s t : T, T.noBl s = true → T.noBl t = true → PyData.eqv (toPy s) (toPy t) = T.beq s t
  | .non, t, _, h => by cases t <;> first | rfl | (simp [T.noBl] at h)
  | .bl _, t, h, _ => by simp [T.noBl] at h
  | .int a, t, _, h => by cases t <;> first | rfl | (simp [T.noBl] at h)
  | .str a, t, _, h => by
    cases t with
    | str b => simp only [toPy, PyData.eqv, T.beq]; exact mkS_beq a b
    | bl b => simp [T.noBl] at h
    | _ => rfl
  | .tup a, t, k, h => by
    cases t with
    | tup b => simp only [toPy, PyData.eqv, T.beq]; exact eqv_beqs a b k h
    | bl b => simp [T.noBl] at h
    | _ => rfl
  | .lst a, t, k, h => by
    cases t with
    | lst b => simp only [toPy, PyData.eqv, T.beq]; exact eqv_beqs a b k h
    | bl b => simp [T.noBl] at h
    | _ => rfl
theorem eqv_beqs : ∀ s t : List T, T.noBls s = true → T.noBls t = true → PyData.eqvAll (toPys s) (toPys t) = T.beqs s t
  | [], t, _, _ => by cases t <;> rfl
  | a :: r, t, k, h => by
    cases t with
    | nil => rfl
    | cons b q =>
      simp only [T.noBls, Bool.and_eq_true] at k h
      simp only [toPys, PyData.eqvAll, T.beqs]
      rw [eqv_beq a b k.1 h.1, eqv_beqs r q k.2 h.2]
end
theorem beq_dec (s t : T) : T.beq s t = decide (s = t) := by
  by_cases h : s = t
  · rw [decide_eq_true h]; exact (T.beq_iff s t).mpr h
  · rw [decide_eq_false h]
    cases q : T.beq s t with
    | false => rfl
    | true => exact absurd ((T.beq_iff s t).mp q) h
theorem eqv_dec {s t : T} (h : okEq s t = true) : PyData.eqv (toPy s) (toPy t) = decide (s = t) := by
  unfold okEq at h
  rw [Bool.or_eq_true, Bool.and_eq_true, Bool.and_eq_true] at h
  rcases h with ⟨h1, h2⟩ | ⟨h1, h2⟩
  · rw [eqv_beq s t h1 h2, beq_dec]
  · cases s <;> simp [T.isBl] at h1
    cases t <;> simp [T.isBl] at h2
    rename_i a b
    simp only [toPy, PyData.eqv]
    cases a <;> cases b <;> rfl
theorem any_mem {t : T} (ht : T.noBl t = true) : ∀ {ts : List T}, T.noBls ts = true → (toPys ts).any (fun z => PyData.eqv z (toPy t)) = decide (t ∈ ts)
  | [], _ => by simp [toPys]
  | a :: r, h => by
    simp only [T.noBls, Bool.and_eq_true] at h
    simp only [toPys, List.any_cons]
    rw [any_mem ht h.2, eqv_beq a t h.1 ht, beq_dec]
    by_cases e : a = t
    · subst e; simp
    · have e' : ¬ t = a := fun z => e z.symm
      simp [e, e']
theorem toPys_map : ∀ ts : List T, toPys ts = ts.map toPy
  | [] => rfl
  | a :: r => by simp [toPys, toPys_map r]
section
variable {K : PySem.W.Frag} {G : Tb} {ι : List Addr} {H : Hp} {m : M}
def Good (K : PySem.W.Frag) (H : Hp) (n : Nat) (v : V) (t : T) : Prop := Dp K H v (toPy t) ∧ (toPy t).canLay0 = true ∧ (toPy t).depth ≤ n
theorem trees_good {n : Nat} {f : D → Option T} (hf : ∀ d v t, RD K ι H d v → f d = some t → Good K H n v t) : ∀ {ds : List D} {vs : List V} {ts : List T}, RDs K ι H ds vs → treesW f ds = some ts →
    DpAll K H vs (toPys ts) ∧ PyData.canLayAll0 (toPys ts) = true ∧ PyData.depthAll (toPys ts) ≤ n
  | [], _, ts, h, e => by
    cases h
    simp only [treesW, Option.some.injEq] at e
    subst e
    exact ⟨.nil, rfl, Nat.zero_le _⟩
  | d :: ds, _, ts, h, e => by
    cases h with
    | cons h1 h2 =>
      unfold treesW at e
      cases e1 : f d with
      | none => rw [e1] at e; simp at e
      | some t =>
        cases e2 : treesW f ds with
        | none => rw [e1, e2] at e; simp at e
        | some ts' =>
          rw [e1, e2] at e
          simp only [Option.some.injEq] at e
          subst e
          obtain ⟨a1, a2, a3⟩ := hf d _ t h1 e1
          obtain ⟨b1, b2, b3⟩ := trees_good hf h2 e2
          refine ⟨.cons a1 b1, ?_, ?_⟩
          · simp only [toPys, PyData.canLayAll0, a2, b2]; rfl
          · simp only [toPys, PyData.depthAll]; omega
theorem tree_good (S : Sim G K ι H m) : ∀ (n : Nat) (d : D) (v : V) (t : T), RD K ι H d v → tree n m d = some t → Good K H n v t
  | 0, _, _, _, _, e => by simp [tree] at e
  | n + 1, d, v, t, h, e => by
    cases d with
    | non => cases h; simp only [tree, Option.some.injEq] at e; subst e; exact ⟨.non, rfl, Nat.zero_le _⟩
    | bl b => cases h; simp only [tree, Option.some.injEq] at e; subst e; exact ⟨.bl b, rfl, Nat.zero_le _⟩
    | int i => cases h; simp only [tree, Option.some.injEq] at e; subst e; exact ⟨.int i, rfl, Nat.zero_le _⟩
    | str s =>
      cases h with
      | str ok =>
        simp only [tree, Option.some.injEq] at e; subst e
        refine ⟨.str _, ?_, Nat.zero_le _⟩
        show (mkS s).cps.all (· < 0x110000) = true
        unfold strOkT at ok
        simpa [mkS] using ok
    | tup ds =>
      cases h with
      | tup h1 h2 =>
        simp only [tree, Option.map_eq_some_iff] at e
        obtain ⟨ts, e1, rfl⟩ := e
        obtain ⟨a1, a2, a3⟩ := trees_good (fun d v t r q => tree_good S n d v t r q) h2 e1
        exact ⟨.tup h1 a1, a2, by show PyData.depthAll (toPys ts) + 1 ≤ n + 1; omega⟩
    | fls ds => simp [tree] at e
    | adr a => simp [tree] at e
    | exn a d i => simp [tree] at e
    | ref i =>
      simp only [tree] at e
      cases em : m[i]? with
      | none => rw [em] at e; simp at e
      | some ob =>
        obtain ⟨a, rfl, ia, ro⟩ := S.obj em h
        cases ob with
        | lst ds =>
          rw [em] at e
          simp only [Option.map_eq_some_iff] at e
          obtain ⟨ts, e1, rfl⟩ := e
          obtain ⟨vs, q, hr⟩ := ro
          obtain ⟨a1, a2, a3⟩ := trees_good (fun d v t r q => tree_good S n d v t r q) hr e1
          exact ⟨.lst (SqL.of q) a1, a2, by show PyData.depthAll (toPys ts) + 1 ≤ n + 1; omega⟩
        | _ => rw [em] at e; simp at e
theorem Good.shaped {n : Nat} {v : V} {t : T} (h : Good K H n v t) (hn : n ≤ 64) : SeqAt.shaped (toPy t) = true := by
  unfold SeqAt.shaped
  rw [h.2.1, decide_eq_true (Nat.le_trans h.2.2 hn)]; rfl
end
section
variable {X : Cx} {G : Tb} {a b c e o : Expr} {es : List Expr} {ea eb ec eo : ME} {ta tb : MT} {ma : MA} {pos : Pos}
/-- == and != at once -/
theorem eq_core {op : CmpOp} {neg : Bool} {f : D → D → M → R D} (hf : ∀ x y m, f x y m = match eqO m x y with
      | some b => .ok (.bl (if neg then !b else b)) m
      | none => .bad)
    (hD : OpR X (compareOp op) (fun x y H Q => ∃ d e, Dp X.K H x d ∧ Dp X.K H y e ∧ SeqAt.shaped d = true ∧ SeqAt.shaped e = true ∧ Q (.bl (if neg then !PyData.eqv d e else PyData.eqv d e)) H))
    (hK : OpR X (compareOp op) (fun x y H Q => ∃ a b ks ls, x = .ref a ∧ y = .ref b ∧ Rd H a (.dK ks) ∧ Rd H b (.dK ls) ∧ (ks.length ≠ ls.length ∨ ks = []) ∧ Q (.bl (if neg then !(ks.length == ls.length) else (ks.length == ls.length))) H))
    (hL : OpR X (compareOp op) (fun x y H Q => ∃ a b xs ys, x = .ref a ∧ y = .ref b ∧ H a = some (.lst xs) ∧ H b = some (.lst ys) ∧ (xs.length ≠ ys.length ∨ xs.length = 0) ∧ Q (.bl (if neg then !(xs.length == ys.length) else (xs.length == ys.length))) H)) :
    OpR X (compareOp op) (r2 X G f) := by
  intro pins s σ H x y v u Q I rx ry ⟨ι, m, dx, dy, S, hx, hy, P⟩
  rw [hf] at P
  cases eo : eqO m dx dy with
  | none => rw [eo] at P; exact P.elim
  | some r =>
    rw [eo] at P
    dsimp only at P
    unfold eqO at eo
    split at eo
    · rename_i s' t' e1 e2
      split at eo
      · rename_i hok
        simp only [Option.some.injEq] at eo
        subst eo
        have g1 := tree_good S DEP dx x s' hx e1
        have g2 := tree_good S DEP dy y t' hy e2
        refine hD pins s σ H _ _ v u Q I rx ry ⟨_, _, g1.1, g2.1, g1.shaped (by decide), g2.shaped (by decide), ?_⟩
        rw [eqv_dec hok]
        exact P.okD S (.bl _)
      · cases eo
    · split at eo
      · rename_i i j
        split at eo
        · rename_i l1 ks l2 ls e1 e2
          obtain ⟨a, rfl, ia, ra⟩ := S.obj e1 hx
          obtain ⟨b, rfl, ib, rb⟩ := S.obj e2 hy
          obtain ⟨k1, q1, p1⟩ := ra.dct
          obtain ⟨k2, q2, p2⟩ := rb.dct
          have n1 := Paired.length p1
          have n2 := Paired.length p2
          split at eo
          · rename_i hne
            simp only [Option.some.injEq] at eo
            subst eo
            refine hK pins s σ H _ _ v u Q I rx ry ⟨a, b, k1, k2, rfl, rfl, q1, q2, .inl (by omega), ?_⟩
            rw [show (k1.length == k2.length) = false from beq_eq_false_iff_ne.mpr (by omega)]
            exact P.okD S (.bl _)
          · rename_i hne
            split at eo
            · rename_i h0
              simp only [Option.some.injEq] at eo
              subst eo
              have k10 : k1 = [] := List.length_eq_zero_iff.mp (by omega)
              refine hK pins s σ H _ _ v u Q I rx ry ⟨a, b, k1, k2, rfl, rfl, q1, q2, .inr k10, ?_⟩
              rw [show (k1.length == k2.length) = true from beq_iff_eq.mpr (by omega)]
              exact P.okD S (.bl _)
            · cases eo
        · rename_i ks ls e1 e2
          obtain ⟨a, rfl, ia, k1, q1, p1⟩ := S.obj e1 hx
          obtain ⟨b, rfl, ib, k2, q2, p2⟩ := S.obj e2 hy
          have n1 := p1.length
          have n2 := p2.length
          split at eo
          · rename_i hne
            simp only [Option.some.injEq] at eo
            subst eo
            refine hL pins s σ H _ _ v u Q I rx ry ⟨a, b, k1, k2, rfl, rfl, q1, q2, .inl (by omega), ?_⟩
            rw [show (k1.length == k2.length) = false from beq_eq_false_iff_ne.mpr (by omega)]
            exact P.okD S (.bl _)
          · rename_i hne
            split at eo
            · rename_i h0
              simp only [Option.some.injEq] at eo
              subst eo
              refine hL pins s σ H _ _ v u Q I rx ry ⟨a, b, k1, k2, rfl, rfl, q1, q2, .inr (by omega), ?_⟩
              rw [show (k1.length == k2.length) = true from beq_iff_eq.mpr (by omega)]
              exact P.okD S (.bl _)
            · cases eo
        · cases eo
      · cases eo
theorem dict_eqs {A : Around} {pins : List (Addr × Obj)} {σ : L2.St} {H : Hp} {s : Shared} {a b : Addr} {ks ls : List (Key × V)} (I : Inv X pins σ H s) (ha : Rd H a (.dK ks)) (hb : Rd H b (.dK ls)) (h : ks.length ≠ ls.length ∨ ks = []) :
    ∃ va vb, (a == sysModules) = false ∧ (b == sysModules) = false ∧ s.heap.DictOf (mixKind X.prog X.w) a va ∧ s.heap.DictOf (mixKind X.prog X.w) b vb ∧ (va.length = vb.length → PySem.W.KeqHits A s vb va true) ∧ (va.length == vb.length && true) = (ks.length == ls.length) := by
  obtain ⟨_, h1, va, r1, d1⟩ := dk_rd I.hok ha
  obtain ⟨_, h2, vb, r2, d2⟩ := dk_rd I.hok hb
  refine ⟨va, vb, h1, h2, d1, d2, fun e => ?_, by rw [← r1.length, ← r2.length, Bool.and_true]⟩
  rcases h with h | h
  · rw [r1.length, r2.length] at h; exact absurd e h
  · subst h
    cases r1
    exact .nil
theorem opEq (hu : X.A.units + 65 < cLine) : OpR X (compareOp .Eq) (r2 X G pEq) := by
  refine eq_core (neg := false) (fun x y m => ?_) (fun pins s σ H x y v u Q I rx ry h => op_eqD (by omega) pins s σ H x y v u Q I rx ry h) (fun pins s σ H x y v u Q I rx ry ⟨a, b, ks, ls, e1, e2, ha, hb, hc, q⟩ => ?_) (fun pins s σ H x y v u Q I rx ry ⟨a, b, xs, ys, e1, e2, ha, hb, hc, q⟩ => ?_)
  · unfold pEq; cases eqO m x y <;> rfl
  · subst e1 e2
    cases (show v = Value.ref a from rx)
    cases (show u = Value.ref b from ry)
    obtain ⟨va, vb, h1, h2, d1, d2, hh, e⟩ := dict_eqs (A := X.A.in1) I ha hb hc
    exact PySem.W.keq_eq h1 h2 d1 d2 (by omega) hh ⟨.bl _, H, I, by rw [e]; rfl, q⟩
  · subst e1 e2
    cases (show v = Value.ref a from rx)
    cases (show u = Value.ref b from ry)
    obtain ⟨va, r1, l1, _⟩ := I.list (SqL.of ha)
    obtain ⟨vb, r2, l2, _⟩ := I.list (SqL.of hb)
    have n1 := Paired.length r1
    have n2 := Paired.length r2
    by_cases hn : xs.length = ys.length
    · have h0 : va.length = 0 := by omega
      have h00 : vb.length = 0 := by omega
      obtain rfl := List.length_eq_zero_iff.mp h0
      obtain rfl := List.length_eq_zero_iff.mp h00
      rw [show (xs.length == ys.length) = true from beq_iff_eq.mpr hn] at q
      exact SeqAt.RcAt.lists l1.isList l2.isList rfl (by omega) (e := fun _ => true) (fun j h1 _ => absurd h1 (by simp)) X.prog X.w _ _ ⟨.bl _, H, I, rfl, q⟩
    · rw [show (xs.length == ys.length) = false from beq_eq_false_iff_ne.mpr hn] at q
      exact SeqAt.RcAt.lists_lengths l1.isList l2.isList (by simp; omega) (by omega) X.prog X.w _ _ ⟨.bl _, H, I, rfl, q⟩
theorem opNe (hu : X.A.units + 65 < cLine) : OpR X (compareOp .NotEq) (r2 X G pNe) := by
  refine eq_core (neg := true) (fun x y m => ?_) (fun pins s σ H x y v u Q I rx ry h => op_neD (by omega) pins s σ H x y v u Q I rx ry h) (fun pins s σ H x y v u Q I rx ry ⟨a, b, ks, ls, e1, e2, ha, hb, hc, q⟩ => ?_) (fun pins s σ H x y v u Q I rx ry ⟨a, b, xs, ys, e1, e2, ha, hb, hc, q⟩ => ?_)
  · unfold pNe; cases eqO m x y <;> rfl
  · subst e1 e2
    cases (show v = Value.ref a from rx)
    cases (show u = Value.ref b from ry)
    obtain ⟨va, vb, h1, h2, d1, d2, hh, e⟩ := dict_eqs (A := X.A.in1) I ha hb hc
    exact PySem.W.keq_ne h1 h2 d1 d2 (by omega) hh ⟨.bl _, H, I, by rw [e]; rfl, q⟩
  · subst e1 e2
    cases (show v = Value.ref a from rx)
    cases (show u = Value.ref b from ry)
    obtain ⟨va, r1, l1, _⟩ := I.list (SqL.of ha)
    obtain ⟨vb, r2, l2, _⟩ := I.list (SqL.of hb)
    have n1 := Paired.length r1
    have n2 := Paired.length r2
    by_cases hn : xs.length = ys.length
    · have h0 : va.length = 0 := by omega
      have h00 : vb.length = 0 := by omega
      obtain rfl := List.length_eq_zero_iff.mp h0
      obtain rfl := List.length_eq_zero_iff.mp h00
      rw [show (xs.length == ys.length) = true from beq_iff_eq.mpr hn] at q
      exact SeqAt.RcNeAt.lists l1.isList l2.isList rfl (by omega) (e := fun _ => true) (fun j h1 _ => absurd h1 (by simp)) X.prog X.w _ _ ⟨.bl _, H, I, rfl, q⟩
    · rw [show (xs.length == ys.length) = false from beq_eq_false_iff_ne.mpr hn] at q
      exact SeqAt.RcNeAt.lists_lengths l1.isList l2.isList (by simp; omega) (by omega) X.prog X.w _ _ ⟨.bl _, H, I, rfl, q⟩
/-! ### in -/
theorem op_inT (hu : X.A.units + 65 < cLine) : OpR X (compareOp .In) (fun x y H Q => ∃ d ds, Dp X.K H x d ∧ Dp X.K H y (.tuple ds) ∧ SeqAt.shaped d = true ∧ SeqAt.shaped (.tuple ds) = true ∧ Q (.bl (ds.any fun z => PyData.eqv z d)) H) := by
  intro pins s σ H x y v u Q I rx ry ⟨d, ds, hd, he, sd, se, q⟩
  obtain ⟨as, r1⟩ := Dp.reads I d x v hd rx
  obtain ⟨bs, r2⟩ := Dp.reads I (.tuple ds) y u he ry
  exact SeqAt.in_tuple_reads r2 r1 (SeqAt.canLay_of_shaped se) (SeqAt.canLay_of_shaped sd) (PyProof.Rows.room_in_shaped sd hu) ⟨.bl _, H, I, rfl, q⟩
theorem op_notInT (hu : X.A.units + 65 < cLine) : OpR X (compareOp .NotIn) (fun x y H Q => ∃ d ds, Dp X.K H x d ∧ Dp X.K H y (.tuple ds) ∧ SeqAt.shaped d = true ∧ SeqAt.shaped (.tuple ds) = true ∧ Q (.bl (!ds.any fun z => PyData.eqv z d)) H) := by
  intro pins s σ H x y v u Q I rx ry ⟨d, ds, hd, he, sd, se, q⟩
  obtain ⟨as, r1⟩ := Dp.reads I d x v hd rx
  obtain ⟨bs, r2⟩ := Dp.reads I (.tuple ds) y u he ry
  exact SeqAt.notIn_tuple_reads r2 r1 (SeqAt.canLay_of_shaped se) (SeqAt.canLay_of_shaped sd) (PyProof.Rows.room_in_shaped sd hu) ⟨.bl _, H, I, rfl, q⟩
theorem in_core {op : CmpOp} {neg : Bool} {f : D → D → M → R D} (hf : ∀ x y m, f x y m = match inO m x y with
      | some b => .ok (.bl (if neg then !b else b)) m
      | none => .bad)
    (hL : OpR X (compareOp op) (fun x y H Q => ∃ d ds, Dp X.K H x d ∧ Dp X.K H y (.list ds) ∧ SeqAt.shaped d = true ∧ SeqAt.shaped (.list ds) = true ∧ Q (.bl (if neg then !(ds.any fun z => PyData.eqv z d) else (ds.any fun z => PyData.eqv z d))) H))
    (hT : OpR X (compareOp op) (fun x y H Q => ∃ d ds, Dp X.K H x d ∧ Dp X.K H y (.tuple ds) ∧ SeqAt.shaped d = true ∧ SeqAt.shaped (.tuple ds) = true ∧ Q (.bl (if neg then !(ds.any fun z => PyData.eqv z d) else (ds.any fun z => PyData.eqv z d))) H))
    (hS : OpR X (compareOp op) (fun x y H Q => ∃ (c : Nat) (z : Str), x = .str ⟨#[c]⟩ ∧ y = .str z ∧ Q (.bl (if neg then !decide (c ∈ z.cps.toList) else decide (c ∈ z.cps.toList))) H))
    (hK : OpR X (compareOp op) (fun x y H Q => ∃ a r, y = .ref a ∧ DGet H a x r ∧ Q (.bl (if neg then !r.isSome else r.isSome)) H)) :
    OpR X (compareOp op) (r2 X G f) := by
  intro pins s σ H x y v u Q I rx ry ⟨ι, m, dx, dy, S, hx, hy, P⟩
  rw [hf] at P
  cases eo : inO m dx dy with
  | none => rw [eo] at P; exact P.elim
  | some r =>
    rw [eo] at P
    dsimp only at P
    unfold inO at eo
    cases dy with
    | str z =>
      dsimp only at eo
      split at eo
      · rename_i c
        simp only [Option.some.injEq] at eo
        subst eo
        cases hx with
        | str ok =>
          cases hy with
          | str ok2 => exact hS pins s σ H _ _ v u Q I rx ry ⟨c, mkS z, rfl, rfl, P.okD S (.bl _)⟩
      · cases eo
    | tup ds =>
      dsimp only at eo
      split at eo
      · rename_i t ts e1 e2
        split at eo
        · rename_i hb
          rw [Bool.and_eq_true] at hb
          simp only [Option.some.injEq] at eo
          subst eo
          have g1 := tree_good S DEP dx x t hx e1
          have g2 := tree_good S DEP _ y _ hy e2
          refine hT pins s σ H _ _ v u Q I rx ry ⟨_, _, g1.1, g2.1, g1.shaped (by decide), g2.shaped (by decide), ?_⟩
          rw [any_mem hb.1 hb.2]
          exact P.okD S (.bl _)
        · cases eo
      · cases eo
    | ref i =>
      dsimp only at eo
      cases em : m[i]? with
      | none => rw [em] at eo; simp at eo
      | some ob =>
        rw [em] at eo
        cases ob with
        | dct lk kvs =>
          dsimp only at eo
          cases ek : toKy dx with
          | none => rw [ek] at eo; simp at eo
          | some k =>
            rw [ek] at eo
            simp only [Option.some.injEq] at eo
            subst eo
            obtain ⟨a, rfl, ia, ro⟩ := S.obj em hy
            obtain ⟨rfl, _⟩ := hx.toKy ek
            have g := get_rel (k := k) ro
            cases eg : getKv kvs k with
            | none =>
              rw [eg] at g P
              exact hK pins s σ H _ _ v u Q I rx ry ⟨a, none, rfl, g, P.okD S (.bl _)⟩
            | some d =>
              rw [eg] at g P
              obtain ⟨w, g, _⟩ := g
              exact hK pins s σ H _ _ v u Q I rx ry ⟨a, some w, rfl, g, P.okD S (.bl _)⟩
        | lst ds =>
          dsimp only at eo
          split at eo
          · rename_i t ts e1 e2
            split at eo
            · rename_i hb
              rw [Bool.and_eq_true] at hb
              simp only [Option.some.injEq] at eo
              subst eo
              have g1 := tree_good S DEP dx x t hx e1
              have g2 := tree_good S DEP _ y _ hy e2
              refine hL pins s σ H _ _ v u Q I rx ry ⟨_, _, g1.1, g2.1, g1.shaped (by decide), g2.shaped (by decide), ?_⟩
              rw [any_mem hb.1 hb.2]
              exact P.okD S (.bl _)
            · cases eo
          · cases eo
        | ins C fs => simp at eo
        | xdc fs => simp at eo
    | _ => cases eo
theorem opIn (hu : X.A.units + 65 < cLine) : OpR X (compareOp .In) (r2 X G pIn) := by
  refine in_core (neg := false) (fun x y m => ?_) (fun pins s σ H x y v u Q I rx ry h => op_inD hu pins s σ H x y v u Q I rx ry h) (fun pins s σ H x y v u Q I rx ry h => op_inT hu pins s σ H x y v u Q I rx ry h)
    (fun pins s σ H x y v u Q I rx ry h => op_in_sign pins s σ H x y v u Q I rx ry h) (fun pins s σ H x y v u Q I rx ry ⟨a, r, e, g, q⟩ => ?_)
  · unfold pIn; cases inO m x y <;> rfl
  · subst e
    cases (show u = Value.ref a from ry)
    exact d_in (by omega) I g rx fun s' I' => ⟨.bl _, H, I', rfl, q⟩
theorem opNotIn (hu : X.A.units + 65 < cLine) : OpR X (compareOp .NotIn) (r2 X G pNotIn) := by
  refine in_core (neg := true) (fun x y m => ?_) (fun pins s σ H x y v u Q I rx ry h => op_notInD hu pins s σ H x y v u Q I rx ry h) (fun pins s σ H x y v u Q I rx ry h => op_notInT hu pins s σ H x y v u Q I rx ry h)
    (fun pins s σ H x y v u Q I rx ry h => op_notIn_sign pins s σ H x y v u Q I rx ry h) (fun pins s σ H x y v u Q I rx ry ⟨a, r, e, g, q⟩ => ?_)
  · unfold pNotIn; cases inO m x y <;> rfl
  · subst e
    cases (show u = Value.ref a from ry)
    exact d_notIn (by omega) I g rx fun s' I' => ⟨.bl _, H, I', rfl, q⟩
end
end Mn
end

section
set_option Elab.async false
set_option linter.all false
set_option maxRecDepth 100000
set_option maxHeartbeats 2000000
namespace Mn
open PySem PySem.Spec L2 TL
section
variable {X : Cx} {G : Tb} {a b c e f o : Expr} {es : List Expr} {ea eb ec ef eo : ME} {ta tb : MT} {ma : MA} {pos p : Pos} {x : Str} {id Tn : String}
/-! ### calls of built-ins with one argument -/
def rc1 (X : Cx) (G : Tb) (f : D → M → R D) : List V → Hp → VK → Prop := fun xs H Q => ∃ ι m dx v, xs = [v] ∧ Sim G X.K ι H m ∧ RD X.K ι H dx v ∧ P0 X G ι H (rD X) (f dx m) Q
theorem le_rc1 {g : D → M → R D} {σ : L2.St} {H : Hp} {Q : VK} (h : tE X G (eUn g ea) σ H Q) : tCB (rc1 X G g) (tA X G (aCons ea aNil)) σ H Q := by
  obtain ⟨ι, m, ρ, S, E, P⟩ := h
  refine ⟨ι, m, ρ, S, E, ?_⟩
  unfold aCons aNil
  unfold eUn at P
  cases e1 : ea ρ m with
  | ok d m1 =>
    rw [e1] at P
    intro ι1 H1 vs p1 l1 S1 rs
    cases rs with
    | cons r t =>
      cases t
      exact ⟨ι1, m1, d, _, rfl, S1, r, (Post.up p1 l1 P).calm⟩
  | exc _ _ => rw [e1] at P; exact P
  | bad => rw [e1] at P; exact P
theorem re_b1 {g : D → M → R D} (hc : CallR X (.builtin id) (rc1 X G g)) (hg : Gl X x) (hm : X.mg x = none) (hv : bootBuiltins x = some (.builtin id)) (ha : RE X G a ea) (hn : x ≠ "__name__" := by decide) (hdb : (x == ("__debug__" : Str)) = false := by decide)
    (he : starEach (a :: []) X.env = (false, eval a X.env) :: starEach [] X.env := by rfl) (hpl : (backTo pos (starEach [] X.env)).any (·.1) = false := by rfl) : RE X G (.Call (.Name x p) [a] [] pos) (eUn g ea) :=
  (pe_callB hc hg hm hv (ra_cons ha ra_nil he) hn hdb he hpl).weak fun _ _ _ => le_rc1
theorem re_t1 {g : D → M → R D} (hc : CallR X (.type id) (rc1 X G g)) (hg : Gl X x) (hm : X.mg x = none) (hv : bootBuiltins x = some (.type id)) (ha : RE X G a ea) (hn : x ≠ "__name__" := by decide) (hdb : (x == ("__debug__" : Str)) = false := by decide)
    (he : starEach (a :: []) X.env = (false, eval a X.env) :: starEach [] X.env := by rfl) (hpl : (backTo pos (starEach [] X.env)).any (·.1) = false := by rfl) : RE X G (.Call (.Name x p) [a] [] pos) (eUn g ea) :=
  (pe_callTy hc hg hm hv (ra_cons ha ra_nil he) hn hdb he hpl).weak fun _ _ _ => le_rc1
theorem cLen : CallR X (.builtin "len") (rc1 X G pLen) := by
  intro pins s σ H vs us Q I r ⟨ι, m, dx, v, e, S, hx, P⟩
  subst e
  unfold pLen at P
  cases dx with
  | str z =>
    dsimp only at P
    split at P
    · rename_i hl
      cases hx
      exact call_len pins s σ H _ us Q I r ⟨_, _, rfl, ⟨by rw [len_mkS]; exact LIM_le hl, rfl⟩, by rw [len_mkS]; exact P.okD S (.int _)⟩
    · exact P.elim
  | tup ds =>
    cases hx with
    | tup h1 h2 => exact call_len pins s σ H _ us Q I r ⟨_, _, rfl, .inr ⟨_, h1, h2.length⟩, P.okD S (.int _)⟩
  | fls ds =>
    cases hx with
    | fls h1 h2 => exact call_len pins s σ H _ us Q I r ⟨_, _, rfl, .inl ⟨_, h1.sq, h2.length⟩, P.okD S (.int _)⟩
  | ref i =>
    dsimp only at P
    cases em : m[i]? with
    | none => simp only [em] at P; exact P.elim
    | some ob =>
      obtain ⟨a, rfl, ia, ro⟩ := S.obj em hx
      cases ob with
      | lst ds =>
        simp only [em] at P
        obtain ⟨ws, q, hr⟩ := ro
        exact call_len pins s σ H _ us Q I r ⟨_, _, rfl, .inl ⟨_, SqL.of q, hr.length⟩, P.okD S (.int _)⟩
      | dct lk kvs =>
        cases lk with
        | true => simp only [em] at P; exact P.elim
        | false =>
          simp only [em] at P
          obtain ⟨ks, q, hr⟩ := ro
          exact call_lenD pins s σ H _ us Q I r ⟨a, ks, rfl, q, by rw [← Paired.length hr]; exact P.okD S (.int _)⟩
      | ins C fs => simp only [em] at P; exact P.elim
      | xdc fs => simp only [em] at P; exact P.elim
  | _ => exact P.elim
theorem strOk_num (n : Nat) : strOkT (numT n) = true := by
  unfold strOkT
  rw [List.all_eq_true]
  intro c hc
  have := numL_digits n c hc
  rw [decide_eq_true_iff]
  omega
theorem cStr : CallR X (.type "str") (rc1 X G pStr) := by
  intro pins s σ H vs us Q I r ⟨ι, m, dx, v, e, S, hx, P⟩
  subst e
  unfold pStr at P
  cases dx with
  | int i =>
    dsimp only at P
    split at P
    · rename_i hc
      cases hx
      obtain ⟨n, rfl⟩ := Int.eq_ofNat_of_zero_le hc.1
      refine call_str_int pins s σ H _ us Q I r ⟨_, rfl, ?_, ?_⟩
      · have h2 : n < 2 ^ 64 := by
          have h3 : (n : Int) < 10000000000 := hc.2
          have h4 : n < 10000000000 := by omega
          exact Nat.lt_of_lt_of_le h4 (by decide)
        show (n : Int).natAbs.log2 < 1920
        rw [Int.natAbs_natCast]
        by_cases h0 : n = 0
        · subst h0; decide
        · exact Nat.lt_of_lt_of_le ((Nat.log2_lt h0).mpr h2) (by decide)
      · have e : (toString (Int.ofNat n) : String) = toString ((n : Nat) : Int) := rfl
        have e2 : (Str.ofString (toString ((n : Nat) : Int))) = mkS (numT n) := ext_tl (by rw [tl_num, tl_mkS]; rfl)
        show Q (.str (Str.ofString (toString ((n : Nat) : Int)))) H
        rw [e2]
        have e3 : (Int.ofNat n).toNat = n := rfl
        rw [show ((n : Int)).toNat = n from Int.toNat_natCast n] at P
        exact P.okD S (.str (strOk_num n))
    · exact P.elim
  | _ => exact P.elim
theorem val_digits (s : Tx) (h : s.all isDig = true) : valT s = NumText.digitsVal s := by
  unfold valT NumText.digitsVal
  rfl
theorem cInt : CallR X (.type "int") (rc1 X G pInt) := by
  intro pins s σ H vs us Q I r ⟨ι, m, dx, v, e, S, hx, P⟩
  subst e
  unfold pInt at P
  cases dx with
  | int i => cases hx; exact call_int1 pins s σ H _ us Q I r (.inl ⟨i, rfl, P.okD S (.int _)⟩)
  | bl b => cases hx; exact call_int1 pins s σ H _ us Q I r (.inr ⟨b, rfl, P.okD S (.int _)⟩)
  | str z =>
    dsimp only at P
    split at P
    · rename_i hc
      obtain ⟨h1, h2, h3⟩ := hc
      cases hx
      have hd : NumText.AllDigits (mkS z).cps.toList := by
        intro c hc
        have h4 := (List.all_eq_true.mp h3) c (by simpa [mkS] using hc)
        unfold isDig at h4
        simpa using h4
      refine call_int_str pins s σ H _ us Q I r ⟨mkS z, _, rfl, PySem.intText_digits hd (by simpa [mkS] using h1) (by rw [len_mkS]; omega), by rw [len_mkS]; omega, ?_⟩
      rw [show (mkS z).cps.toList = z from tl_mkS z, ← val_digits z h3]
      exact P.okD S (.int _)
    · exact P.elim
  | _ => exact P.elim
theorem keys_rel {K : PySem.W.Frag} {ι : List Addr} {H : Hp} {kvs : List (Ky × D)} {ks : List (Key × V)} (h : RKvs K ι H kvs ks) : RDs K ι H (keysOf kvs) (ks.map fun kv => kV kv.1) := by
  unfold keysOf
  induction h with
  | nil => exact .nil
  | cons r t ih => exact .cons (by show RD K ι H (kD _) (kV _); rw [r.1]; exact RD.key r.2.1) ih
theorem cList (hc : X.calm = true) : CallR X (.type "list") (rc1 X G pList) := by
  intro pins s σ H vs us Q I r ⟨ι, m, dx, v, e, S, hx, P⟩
  subst e
  unfold pList at P
  cases dx with
  | tup ds =>
    cases hx with
    | tup h1 h2 =>
      refine call_list_of pins s σ H _ us Q I r ⟨_, _, rfl, .inr h1, fun p hp => ?_⟩
      exact new_obj0 (ob := .lst _) S hp ⟨_, upd_same, RDs.mono pre_snoc (Le.new hp) _ _ h2⟩ P
  | ref i =>
    dsimp only at P
    cases em : m[i]? with
    | none => simp only [em] at P; exact P.elim
    | some ob =>
      obtain ⟨a, rfl, ia, ro⟩ := S.obj em hx
      cases ob with
      | lst ds =>
        simp only [em] at P
        obtain ⟨ws, q, hr⟩ := ro
        refine call_list_of pins s σ H _ us Q I r ⟨_, _, rfl, .inl (SqL.of q), fun p hp => ?_⟩
        exact new_obj0 (ob := .lst _) S hp ⟨_, upd_same, RDs.mono pre_snoc (Le.new hp) _ _ hr⟩ P
      | dct lk kvs =>
        cases lk with
        | true => simp only [em] at P; exact P.elim
        | false =>
          simp only [em] at P
          obtain ⟨ks, q, hr⟩ := ro
          refine call_list_dK hc pins s σ H _ us Q I r ⟨_, _, rfl, q, fun p hp => ?_⟩
          exact new_obj0 (ob := .lst _) S hp ⟨_, upd_same, RDs.mono pre_snoc (Le.new hp) _ _ (keys_rel hr)⟩ P
      | ins C fs => simp only [em] at P; exact P.elim
      | xdc fs => simp only [em] at P; exact P.elim
  | _ => exact P.elim
theorem cTuple : CallR X (.type "tuple") (rc1 X G pTuple) := by
  intro pins s σ H vs us Q I r ⟨ι, m, dx, v, e, S, hx, P⟩
  subst e
  unfold pTuple at P
  cases dx with
  | tup ds =>
    cases hx with
    | tup h1 h2 => exact call_tuple_of pins s σ H _ us Q I r ⟨_, _, rfl, .inr ⟨h1, P.okD S (.tup h1 h2)⟩⟩
  | ref i =>
    dsimp only at P
    cases em : m[i]? with
    | none => simp only [em] at P; exact P.elim
    | some ob =>
      obtain ⟨a, rfl, ia, ro⟩ := S.obj em hx
      cases ob with
      | lst ds =>
        simp only [em] at P
        obtain ⟨ws, q, hr⟩ := ro
        refine call_tuple_of pins s σ H _ us Q I r ⟨_, _, rfl, .inl ⟨SqL.of q, fun p hp => ?_⟩⟩
        exact P ι _ (.ref p) (List.prefix_refl _) (Le.new hp) (S.fresh hp) (.tup (SqT.of upd_same) (RDs.mono (List.prefix_refl _) (Le.new hp) _ _ hr))
      | _ => simp only [em] at P; exact P.elim
  | _ => exact P.elim
theorem cDict : CallR X (.type "dict") (rc1 X G pDict) := by
  intro pins s σ H vs us Q I r ⟨ι, m, dx, v, e, S, hx, P⟩
  subst e
  unfold pDict at P
  cases dx with
  | ref i =>
    dsimp only at P
    cases em : m[i]? with
    | none => simp only [em] at P; exact P.elim
    | some ob =>
      obtain ⟨a, rfl, ia, ro⟩ := S.obj em hx
      cases ob with
      | dct lk kvs =>
        simp only [em] at P
        obtain ⟨ks, q, hr⟩ := ro.dct
        refine call_dictD pins s σ H _ us Q I r ⟨_, _, rfl, q, fun p hp => ?_⟩
        exact new_obj0 (ob := .dct false _) S hp ⟨_, upd_same, hr.mono pre_snoc (Le.new hp)⟩ P
      | _ => simp only [em] at P; exact P.elim
  | _ => exact P.elim
/-! ### sorted -/
theorem insT_perm (x : Tx) : ∀ l, (insT x l).Perm (x :: l)
  | [] => .refl _
  | y :: r => by
    unfold insT
    split
    · exact ((insT_perm x r).cons y).trans (.swap x y r)
    · exact .refl _
theorem sortT_perm : ∀ l, (sortT l).Perm l
  | [] => .refl _
  | x :: r => (insT_perm x _).trans ((sortT_perm r).cons x)
theorem insT_sorted (x : Tx) : ∀ l : List Tx, l.Pairwise (· ≤ ·) → (insT x l).Pairwise (· ≤ ·)
  | [], _ => List.pairwise_singleton _ _
  | y :: r, h => by
    obtain ⟨h1, h2⟩ := List.pairwise_cons.mp h
    unfold insT
    split
    · rename_i hl
      refine List.pairwise_cons.mpr ⟨fun z hz => ?_, insT_sorted x r h2⟩
      rcases List.mem_cons.mp ((insT_perm x r).mem_iff.mp hz) with rfl | hz
      · exact List.le_of_lt hl
      · exact h1 z hz
    · rename_i hl
      have hle : x ≤ y := List.not_lt.mp hl
      refine List.pairwise_cons.mpr ⟨fun z hz => ?_, h⟩
      rcases List.mem_cons.mp hz with rfl | hz
      · exact hle
      · exact List.le_trans hle (h1 z hz)
theorem sortT_sorted : ∀ l : List Tx, (sortT l).Pairwise (· ≤ ·)
  | [] => List.Pairwise.nil
  | x :: r => insT_sorted x _ (sortT_sorted r)
theorem ltCps_iff : ∀ a b : List Nat, ltCps a b = decide (a < b)
  | [], [] => rfl
  | [], _ :: _ => rfl
  | _ :: _, [] => rfl
  | x :: a, y :: b => by
    unfold ltCps
    rw [ltCps_iff a b]
    by_cases h1 : x < y
    · simp [h1, List.cons_lt_cons_iff]
    · by_cases h2 : x = y
      · subst h2; simp [List.cons_lt_cons_iff]
      · simp [h1, h2, List.cons_lt_cons_iff]
theorem sortedS_pw : ∀ (l : List Str), PyProof.Rows.sortedS l = true → (l.map tl).Pairwise (· ≤ ·)
  | [], _ => List.Pairwise.nil
  | [x], _ => List.pairwise_singleton _ _
  | x :: y :: r, h => by
    have h' : (!ltCps y.cps.toList x.cps.toList && PyProof.Rows.risingS y r) = true := h
    rw [Bool.and_eq_true, Bool.not_eq_true', ltCps_iff, decide_eq_false_iff_not] at h'
    have ih := sortedS_pw (y :: r) h'.2
    have hle : tl x ≤ tl y := List.not_lt.mp h'.1
    rw [List.map_cons, List.pairwise_cons]
    refine ⟨fun z hz => ?_, ih⟩
    rw [List.map_cons] at hz ih
    rcases List.mem_cons.mp hz with rfl | hz
    · exact hle
    · exact List.le_trans hle ((List.pairwise_cons.mp ih).1 z hz)
theorem sort_uniq {ys : List Str} {ss : List Tx} (hp : (ys.map tl).Perm ss) (hs : PyProof.Rows.sortedS ys = true) : ys.map tl = sortT ss :=
  List.Perm.eq_of_pairwise (le := (· ≤ ·)) (fun a b _ _ h1 h2 => List.le_antisymm h1 h2) (sortedS_pw ys hs) (sortT_sorted ss) (hp.trans (sortT_perm ss).symm)
theorem insI_perm (x : Int) : ∀ l, (insI x l).Perm (x :: l)
  | [] => .refl _
  | y :: r => by
    unfold insI
    split
    · exact ((insI_perm x r).cons y).trans (.swap x y r)
    · exact .refl _
theorem sortI_perm : ∀ l, (sortI l).Perm l
  | [] => .refl _
  | x :: r => (insI_perm x _).trans ((sortI_perm r).cons x)
theorem insI_sorted (x : Int) : ∀ l : List Int, l.Pairwise (· ≤ ·) → (insI x l).Pairwise (· ≤ ·)
  | [], _ => List.pairwise_singleton _ _
  | y :: r, h => by
    obtain ⟨h1, h2⟩ := List.pairwise_cons.mp h
    unfold insI
    split
    · rename_i hl
      refine List.pairwise_cons.mpr ⟨fun z hz => ?_, insI_sorted x r h2⟩
      rcases List.mem_cons.mp ((insI_perm x r).mem_iff.mp hz) with rfl | hz
      · omega
      · exact h1 z hz
    · rename_i hl
      refine List.pairwise_cons.mpr ⟨fun z hz => ?_, h⟩
      rcases List.mem_cons.mp hz with rfl | hz
      · omega
      · have := h1 z hz; omega
theorem sortI_sorted : ∀ l : List Int, (sortI l).Pairwise (· ≤ ·)
  | [] => List.Pairwise.nil
  | x :: r => insI_sorted x _ (sortI_sorted r)
theorem sortI_uniq {ys ss : List Int} (hp : ys.Perm ss) (hs : ys.Pairwise (· ≤ ·)) : ys = sortI ss :=
  List.Perm.eq_of_pairwise (le := (· ≤ ·)) (fun a b _ _ h1 h2 => Int.le_antisymm h1 h2) hs (sortI_sorted ss) (hp.trans (sortI_perm ss).symm)
theorem all_str {K : PySem.W.Frag} {ι : List Addr} {H : Hp} : ∀ {xs : List D} {vs : List V} {ss : List Tx}, RDs K ι H xs vs → allStr xs = some ss → vs = (ss.map mkS).map V.str ∧ xs = ss.map D.str ∧ ∀ y ∈ ss, strOkT y = true
  | [], _, ss, h, e => by
    cases h
    simp only [allStr, Option.some.injEq] at e
    subst e
    exact ⟨rfl, rfl, fun y hy => by cases hy⟩
  | d :: r, _, ss, h, e => by
    cases h with
    | cons h1 h2 =>
      cases d with
      | str z =>
        simp only [allStr, Option.map_eq_some_iff] at e
        obtain ⟨t, e1, rfl⟩ := e
        obtain ⟨rfl, rfl, ok⟩ := all_str h2 e1
        cases h1 with
        | str ok1 =>
          refine ⟨rfl, rfl, fun y hy => ?_⟩
          rcases List.mem_cons.mp hy with rfl | hy
          · exact ok1
          · exact ok y hy
      | _ => simp [allStr] at e
theorem all_int {K : PySem.W.Frag} {ι : List Addr} {H : Hp} : ∀ {xs : List D} {vs : List V} {ss : List Int}, RDs K ι H xs vs → allInt xs = some ss → vs = ss.map V.int ∧ xs = ss.map D.int
  | [], _, ss, h, e => by
    cases h
    simp only [allInt, Option.some.injEq] at e
    subst e
    exact ⟨rfl, rfl⟩
  | d :: r, _, ss, h, e => by
    cases h with
    | cons h1 h2 =>
      cases d with
      | int z =>
        simp only [allInt, Option.map_eq_some_iff] at e
        obtain ⟨t, e1, rfl⟩ := e
        obtain ⟨rfl, rfl⟩ := all_int h2 e1
        cases h1
        exact ⟨rfl, rfl⟩
      | _ => simp [allInt] at e
theorem str_list {ys : List Str} {ss : List Tx} (h : ys.map tl = ss) : ys.map V.str = (ss.map mkS).map V.str := by
  subst h
  rw [List.map_map, List.map_map]
  refine List.map_congr_left fun y _ => ?_
  show V.str y = V.str (mkS (tl y))
  rw [mkS_tl]
theorem keys_split {kvs : List (Ky × D)} {ks : List (Key × V)} {K : PySem.W.Frag} {ι : List Addr} {H : Hp} (h : RKvs K ι H kvs ks) :
    (∀ ss, allStr (keysOf kvs) = some ss → ks.map (·.1) = (ss.map mkS).map Sum.inr ∧ ∀ y ∈ ss, strOkT y = true) ∧ (∀ ns, allInt (keysOf kvs) = some ns → ks.map (·.1) = ns.map Sum.inl) := by
  unfold keysOf
  induction h with
  | nil =>
    refine ⟨fun ss e => ?_, fun ss e => ?_⟩
    · simp only [List.map_nil, allStr, Option.some.injEq] at e
      subst e
      exact ⟨rfl, fun y hy => by cases hy⟩
    · simp only [List.map_nil, allInt, Option.some.injEq] at e
      subst e
      rfl
  | @cons p q as bs r t ih =>
    obtain ⟨k, d⟩ := p
    obtain ⟨q1, v⟩ := q
    obtain ⟨e1, ok, _⟩ := r
    dsimp only at e1 ok
    subst e1
    refine ⟨fun ss e => ?_, fun ss e => ?_⟩
    · cases k with
      | inl i => simp [kD, allStr] at e
      | inr z =>
        simp only [List.map_cons, kD, allStr, Option.map_eq_some_iff] at e
        obtain ⟨t', e2, rfl⟩ := e
        obtain ⟨e3, ok3⟩ := ih.1 t' e2
        refine ⟨by rw [List.map_cons, e3]; rfl, fun y hy => ?_⟩
        rcases List.mem_cons.mp hy with rfl | hy
        · exact ok
        · exact ok3 y hy
    · cases k with
      | inr i => simp [kD, allInt] at e
      | inl z =>
        simp only [List.map_cons, kD, allInt, Option.map_eq_some_iff] at e
        obtain ⟨t', e2, rfl⟩ := e
        rw [List.map_cons, ih.2 t' e2]; rfl
theorem perm_tl {ys : List Str} {ss : List Tx} (hp : ys.Perm (ss.map mkS)) : (ys.map tl).Perm ss := by
  have := hp.map tl
  rw [List.map_map] at this
  have e : (ss.map (tl ∘ mkS)) = ss := by
    conv => rhs; rw [← List.map_id ss]
    exact List.map_congr_left fun y _ => tl_mkS y
  rwa [e] at this
theorem cSorted (hc : X.calm = true) : CallR X (.builtin "sorted") (rc1 X G pSorted) := by
  intro pins s σ H vs us Q I r ⟨ι, m, dx, v, e, S, hx, P⟩
  subst e
  unfold pSorted at P
  cases ei : itemsOf dx m with
  | none => simp only [ei] at P; exact P.elim
  | some xs =>
    simp only [ei] at P
    split at P
    · rename_i h64
      have finS : ∀ {ss : List Tx} {ys : List Str} {p : Addr}, (∀ y ∈ ss, strOkT y = true) → P0 X G ι H (rD X) (.ok (.ref m.length) (m ++ [.lst ((sortT ss).map .str)])) Q → ys.Perm (ss.map mkS) → PyProof.Rows.sortedS ys = true → H p = none →
          Q (.ref p) (upd H p (.lst (ys.map V.str))) := fun {ss ys p} ok P1 hp hs hn => by
        rw [str_list (sort_uniq (perm_tl hp) hs)]
        refine new_obj0 (ob := .lst _) S hn ⟨_, upd_same, RDs.strs fun y hy => ok y ((sortT_perm ss).mem_iff.mp hy)⟩ P1
      have finI : ∀ {ns ys : List Int} {p : Addr}, P0 X G ι H (rD X) (.ok (.ref m.length) (m ++ [.lst ((sortI ns).map .int)])) Q → ys.Perm ns → ys.Pairwise (· ≤ ·) → H p = none → Q (.ref p) (upd H p (.lst (ys.map V.int))) := fun {ns ys p} P1 hp hs hn => by
        rw [sortI_uniq hp hs]
        exact new_obj0 (ob := .lst _) S hn ⟨_, upd_same, RDs.ints⟩ P1
      cases dx with
      | ref i =>
        unfold itemsOf at ei
        dsimp only at ei
        cases em : m[i]? with
        | none => rw [em] at ei; cases ei
        | some ob =>
          rw [em] at ei
          obtain ⟨a, rfl, ia, ro⟩ := S.obj em hx
          cases ob with
          | lst ds =>
            simp only [Option.some.injEq] at ei
            subst ei
            obtain ⟨ws, q, hr⟩ := ro
            cases es : allStr ds with
            | some ss =>
              simp only [es] at P
              obtain ⟨rfl, e2, ok⟩ := all_str hr es
              refine cr_sortedS pins s σ H _ us Q I r ⟨a, ss.map mkS, rfl, SqL.of q, by rw [List.length_map]; rw [e2, List.length_map] at h64; exact h64, fun ys p hp hs hn => finS ok P hp hs hn⟩
            | none =>
              simp only [es] at P
              cases en : allInt ds with
              | none => simp only [en] at P; exact P.elim
              | some ns =>
                simp only [en] at P
                obtain ⟨rfl, e2⟩ := all_int hr en
                exact cr_sorted pins s σ H _ us Q I r ⟨a, ns, rfl, SqL.of q, by rw [e2, List.length_map] at h64; exact h64, fun ys p hp hs hn => finI P hp hs hn⟩
          | dct lk kvs =>
            simp only [Option.some.injEq] at ei
            subst ei
            obtain ⟨ks, q, hr⟩ := ro.dct
            obtain ⟨k1, k2⟩ := keys_split hr
            have hl : (keysOf kvs).length = ks.length := by unfold keysOf; rw [List.length_map]; exact Paired.length hr
            cases es : allStr (keysOf kvs) with
            | some ss =>
              simp only [es] at P
              obtain ⟨e2, ok⟩ := k1 ss es
              have hl2 : ks.length = ss.length := by have := congrArg List.length e2; simpa using this
              refine call_sortedD hc pins s σ H _ us Q I r ⟨a, ks, ss.map mkS, rfl, q, e2, by rw [List.length_map]; omega, fun ys p hp hs hn => finS ok P hp hs hn⟩
            | none =>
              simp only [es] at P
              cases en : allInt (keysOf kvs) with
              | none => simp only [en] at P; exact P.elim
              | some ns =>
                simp only [en] at P
                have e2 := k2 ns en
                have hl2 : ks.length = ns.length := by have := congrArg List.length e2; simpa using this
                exact call_sortedDI hc pins s σ H _ us Q I r ⟨a, ks, ns, rfl, q, e2, by omega, fun ys p hp hs hn => finI P hp hs hn⟩
          | ins C fs => simp at ei
          | xdc fs => simp at ei
      | _ => simp [itemsOf] at ei
    · exact P.elim
/-! ### isinstance(x, str), isinstance(x, list) -/
theorem re_isStr {p2 : Pos} (hg : Gl X "isinstance") (hm : X.mg "isinstance" = none) (hg2 : Gl X "str") (hm2 : X.mg "str" = none) (ha : RE X G a ea) (hv : bootBuiltins "isinstance" = some (.builtin "isinstance") := by decide +kernel) (hv2 : bootBuiltins "str" = some (.type "str") := by decide +kernel)
    (h1 : starEach [a, .Name "str" p2] X.env = (false, eval a X.env) :: starEach [.Name "str" p2] X.env := by rfl) (h2 : starEach [.Name "str" p2] X.env = (false, eval (.Name "str" p2) X.env) :: starEach [] X.env := by rfl)
    (hpl : (backTo pos (starEach [.Name "str" p2] X.env)).any (·.1) = false := by rfl) :
    RE X G (.Call (.Name "isinstance" p) [a, .Name "str" p2] [] pos) (eUn pIsStr ea) := by
  refine (pe_callB call_isi hg hm hv (pa_cons ha (pa_cons (pe_bltn (v := .ty "str") hg2 hm2 hv2 rfl) pa_nil h2) h1) (by decide) (by decide) h1 hpl).weak fun σ H Q ⟨ι, m, ρ, S, E, P⟩ => ?_
  refine ⟨ι, m, ρ, S, E, P.bind fun x m1 ι1 H1 v _ p1 l1 S1 rx P1 => ?_⟩
  cases x with
  | str z =>
    cases rx
    exact ⟨_, _, _, _, true, rfl, .ty "str", .base (.str _), kit_ty (by decide +kernel), P1.okI _ S1 (.bl _)⟩
  | _ => exact P1.elim
end
end Mn
end

section
set_option Elab.async false
set_option linter.all false
set_option maxRecDepth 100000
set_option maxHeartbeats 2000000
namespace Mn
open PySem PySem.Spec L2 TL
section
variable {X : Cx} {G : Tb} {a b c e f o : Expr} {es : List Expr} {ea eb ec ef eo : ME} {ta tb : MT} {ma : MA} {pos p apos cpos : Pos} {x name : Str} {id Tn : String}
/-! ### methods of built-in types with one argument -/
def rm1 (X : Cx) (G : Tb) (f : D → D → M → R D) : V → List V → Hp → VK → Prop := fun x xs H Q => ∃ ι m dx dy y, xs = [y] ∧ Sim G X.K ι H m ∧ RD X.K ι H dx x ∧ RD X.K ι H dy y ∧ P0 X G ι H (rD X) (f dx dy m) Q
def tyN : Nat → String
  | 0 => "list"
  | 1 => "dict"
  | _ => "str"
theorem re_m1 {T : Nat} {g : D → D → M → R D} (pa : PlainAttrs (tyN T)) (slot : Slot (tyN T) name id) (hty : typeOf (.builtin id) = pure (.type "method_descriptor")) (hm : MtR X id (rm1 X G g)) (hT : T < 3) (ho : RE X G o eo) (ha : RE X G e ea)
    (hbase : attributeBase o name X.env (eval o X.env) = eval o X.env := by rfl)
    (hfew : ((backTo cpos (starEach (e :: []) X.env)).all (fun x => !x.1) && (backToKw cpos (keywordEach [] X.env)).all (fun x => x.1.isSome)
      && decide ((e :: []).length + ([] : List Keyword).length + (if ([] : List Keyword).isEmpty then 0 else 1) < 30)) = true := by rfl)
    (hline : (apos.endLine == cpos.line) = true := by rfl) (hs : starEach (e :: []) X.env = (false, eval e X.env) :: starEach [] X.env := by rfl) (hplain : (backTo cpos (starEach [] X.env)).any (·.1) = false := by rfl) :
    RE X G (.Call (.Attribute o name apos) [e] [] cpos) (eM1 T g eo ea) := by
  refine (pe_bm pa slot hty hm ho (ra_cons ha ra_nil hs) hbase hfew hline hs hplain).weak fun σ H Q ⟨ι, m, ρ, S, E, P⟩ => ?_
  refine ⟨ι, m, ρ, S, E, P.bind fun x m1 ι1 H1 v _ p1 l1 S1 rx P1 => ?_⟩
  by_cases ht : isTy T x m1 = true
  · rw [if_pos ht] at P1
    refine ⟨?_, ι1, m1, ρ, S1, E.mono p1 l1, ?_⟩
    · unfold isTy at ht
      cases x with
      | str z =>
        obtain rfl : T = 2 := by simpa using ht
        cases rx
        rfl
      | ref i =>
        dsimp only at ht
        cases em : m1[i]? with
        | none => simp [em] at ht
        | some ob =>
          obtain ⟨a, rfl, ia, ro⟩ := S1.obj em rx
          cases ob with
          | lst ds =>
            simp only [em] at ht
            obtain rfl : T = 0 := by simpa using ht
            obtain ⟨ws, q, hr⟩ := ro
            exact .inl ⟨rfl, ws, SqL.of q⟩
          | dct lk kvs =>
            cases lk with
            | true => simp [em] at ht
            | false =>
              simp only [em] at ht
              obtain rfl : T = 1 := by simpa using ht
              obtain ⟨ws, q, hr⟩ := ro
              exact .inr (.inr (.inl ⟨rfl, .inl ⟨ws, q⟩⟩))
          | ins C fs => simp [em] at ht
          | xdc fs => simp [em] at ht
      | _ => cases ht
    · unfold aCons aNil
      cases e1 : ea ρ m1 with
      | ok d m2 =>
        rw [e1] at P1
        intro ι2 H2 vs p2 l2 S2 rs
        cases rs with
        | cons r t =>
          cases t
          exact ⟨ι2, m2, x, d, _, rfl, S2, RD.mono p2 l2 _ _ rx, r, (Post.up p2 l2 P1).calm⟩
      | exc _ _ => rw [e1] at P1; exact P1
      | bad => rw [e1] at P1; exact P1
  · rw [if_neg ht] at P1; exact P1.elim
theorem mAppend : MtR X "list.append" (rm1 X G pAppend) := by
  intro pins s σ H x xs v us Q I rx rs ⟨ι, m, dx, dy, y, e, S, hx, hy, P⟩
  subst e
  unfold pAppend at P
  cases dx with
  | ref i =>
    dsimp only at P
    cases em : m[i]? with
    | none => simp only [em] at P; exact P.elim
    | some ob =>
      obtain ⟨a, rfl, ia, ro⟩ := S.obj em hx
      cases ob with
      | lst ds =>
        simp only [em] at P
        split at P
        · rename_i hl
          obtain ⟨ws, q, hr⟩ := ro
          have l2 : Le ι ι H (upd H a (.lst (ws ++ [y]))) := Le.mut q (fun _ z => nomatch z) (fun _ _ z => nomatch z)
          refine mt_append pins s σ H _ _ v us Q I rx rs ⟨a, ws, y, rfl, rfl, q, by rw [← hr.length]; exact LIM_lt hl, ?_⟩
          exact P ι _ .non (List.prefix_refl _) l2 (S.set ia l2 ⟨_, upd_same, RDs.mono (List.prefix_refl _) l2 _ _ (hr.app (.cons hy .nil))⟩) .non
        · exact P.elim
      | _ => simp only [em] at P; exact P.elim
  | _ => exact P.elim
theorem mPopL : MtR X "list.pop" (rm1 X G pPopL) := by
  intro pins s σ H x xs v us Q I rx rs ⟨ι, m, dx, dy, y, e, S, hx, hy, P⟩
  subst e
  unfold pPopL at P
  cases dx with
  | ref i =>
    dsimp only at P
    cases em : m[i]? with
    | none => simp only [em] at P; exact P.elim
    | some ob =>
      obtain ⟨a, rfl, ia, ro⟩ := S.obj em hx
      cases ob with
      | lst ds =>
        simp only [em] at P
        cases dy with
        | int k =>
          dsimp only at P
          split at P
          · rename_i hk
            cases eg : ds[k.toNat]? with
            | none => simp only [eg] at P; exact P.elim
            | some d =>
              simp only [eg] at P
              cases hy
              obtain ⟨ws, q, hr⟩ := ro
              obtain ⟨w, e1, rd⟩ := hr.get eg
              have hlt : k.toNat < ws.length := (List.getElem?_eq_some_iff.mp e1).1
              have hz : ws.length ≤ sizeLine := (I.hok a _ q).1
              have hsz := sizeLine_eq
              have l2 : Le ι ι H (upd H a (.lst (ws.eraseIdx k.toNat))) := Le.mut q (fun _ z => nomatch z) (fun _ _ z => nomatch z)
              refine mt_popAt pins s σ H _ _ v us Q I rx rs ⟨a, ws, k, k.toNat, w, rfl, rfl, q, by omega, by omega, ?_, e1, ?_⟩
              · unfold seqIndex?
                dsimp only
                rw [if_neg (show ¬ k < 0 by omega)]
                have h1 : (decide (0 ≤ k) && decide (k < (ws.length : Int))) = true := by
                  rw [decide_eq_true hk, decide_eq_true (show k < (ws.length : Int) by omega)]; rfl
                rw [if_pos h1]
              · exact P ι _ w (List.prefix_refl _) l2 (S.set ia l2 ⟨_, upd_same, RDs.mono (List.prefix_refl _) l2 _ _ (RDs.erase _ hr)⟩) (RD.mono (List.prefix_refl _) l2 _ _ rd)
          · exact P.elim
        | _ => exact P.elim
      | _ => simp only [em] at P; exact P.elim
  | _ => exact P.elim
theorem mPopD : MtR X "dict.pop" (rm1 X G pPopD) := by
  intro pins s σ H x xs v us Q I rx rs ⟨ι, m, dx, dy, y, e, S, hx, hy, P⟩
  subst e
  unfold pPopD at P
  cases dx with
  | ref i =>
    dsimp only at P
    cases em : m[i]? with
    | none => simp only [em] at P; exact P.elim
    | some ob =>
      obtain ⟨a, rfl, ia, ro⟩ := S.obj em hx
      cases ob with
      | dct lk kvs =>
        cases lk with
        | true => simp only [em] at P; exact P.elim
        | false =>
          simp only [em] at P
          cases ek : toKy dy with
          | none => simp only [ek] at P; exact P.elim
          | some k =>
            simp only [ek] at P
            cases eg : getKv kvs k with
            | none => simp only [eg] at P; exact P.elim
            | some d =>
              simp only [eg] at P
              obtain ⟨rfl, ok⟩ := hy.toKy ek
              obtain ⟨ks, q, hr⟩ := ro
              have g := hr.val (k := k)
              rw [eg] at g
              obtain ⟨w, g, rd⟩ := g
              obtain ⟨u, rfl, ru⟩ := Vals.one rs
              obtain rfl : v = Value.ref a := rx
              have l2 : Le ι ι H (upd H a (.dK (dropK ks (kyS k)))) := Le.mut q (fun _ z => nomatch z) (fun _ _ z => nomatch z)
              exact d_pop I q ru g (.inl rfl) fun w' s3 I3 rw' => ⟨w, _, I3, rw', P ι _ w (List.prefix_refl _) l2 (S.set ia l2 ⟨_, upd_same, (hr.drop).mono (List.prefix_refl _) l2⟩) (RD.mono (List.prefix_refl _) l2 _ _ rd)⟩
      | _ => simp only [em] at P; exact P.elim
  | _ => exact P.elim
theorem first_ix {t : T} (ht : T.noBl t = true) : ∀ {ts : List T} {j : Nat}, T.noBls ts = true → firstIx t ts = some j → (toPys ts)[j]? = some (toPy t) ∧ ∀ (k : Nat) (z' : PyData), k < j → (toPys ts)[k]? = some z' → PyData.eqv z' (toPy t) = false
  | [], _, _, e => by simp [firstIx] at e
  | x :: r, j, h, e => by
    simp only [T.noBls, Bool.and_eq_true] at h
    unfold firstIx at e
    by_cases hx : x = t
    · rw [if_pos hx] at e
      simp only [Option.some.injEq] at e
      subst e; subst hx
      exact ⟨rfl, fun k z' hk => absurd hk (Nat.not_lt_zero _)⟩
    · rw [if_neg hx, Option.map_eq_some_iff] at e
      obtain ⟨j', e1, rfl⟩ := e
      obtain ⟨h1, h2⟩ := first_ix ht h.2 e1
      refine ⟨h1, fun k z' hk hz => ?_⟩
      cases k with
      | zero =>
        simp only [toPys, List.getElem?_cons_zero, Option.some.injEq] at hz
        subst hz
        rw [eqv_beq x t h.1 ht, beq_dec, decide_eq_false hx]
      | succ k => exact h2 k z' (by omega) hz
theorem mIndex (hu : X.A.units + 65 < cLine) : MtR X "list.index" (rm1 X G pIndex) := by
  intro pins s σ H x xs v us Q I rx rs ⟨ι, m, dx, dy, y, e, S, hx, hy, P⟩
  subst e
  unfold pIndex at P
  cases dx with
  | ref i =>
    dsimp only at P
    split at P
    · rename_i t ts e1 e2
      split at P
      · rename_i hb
        rw [Bool.and_eq_true] at hb
        split at P
        · rename_i j ej
          have g1 := tree_good S DEP dy y t hy e1
          have g2 := tree_good S DEP _ x _ hx e2
          have g3 := first_ix hb.1 hb.2 ej
          cases hx with
          | ref ia =>
            refine mt_indexD hu pins s σ H _ _ v us Q I rx rs ⟨_, y, toPy t, toPys ts, j, toPy t, rfl, rfl, g2.1, g1.1, g2.shaped (by decide), g1.shaped (by decide), g3.1, ?_, g3.2, P.okD S (.int _)⟩
            rw [eqv_beq t t hb.1 hb.1, beq_dec, decide_eq_true rfl]
        · exact P.elim
      · exact P.elim
    · exact P.elim
  | _ => exact P.elim
/-! ### d.get(k, x) -/
theorem re_get2 (hu : X.A.units + 1 < cLine) (ho : RE X G o eo) (he : RE X G e ea) (hf : RE X G f ef) (mm : M2 X o "get" apos e f cpos := by exact ⟨rfl, rfl, rfl, rfl⟩) : RE X G (.Call (.Attribute o "get" apos) [e, f] [] cpos) (eGet2 eo ea ef) := by
  refine (pe_dget2 hu ho he hf mm).weak fun σ H Q ⟨ι, m, ρ, S, E, P⟩ => ?_
  refine ⟨ι, m, ρ, S, E, P.bind fun x m1 ι1 H1 v _ p1 l1 S1 rx P1 => ?_⟩
  split at P1
  · exact P1.elim
  · rename_i hd
    have hd : isDic x m1 = true := by cases q : isDic x m1 <;> simp_all
    unfold isDic at hd
    cases x with
    | ref i =>
      dsimp only at hd
      cases em : m1[i]? with
      | none => simp [em] at hd
      | some ob =>
        cases ob with
        | dct lk kvs =>
          obtain ⟨a, rfl, ia, ro⟩ := S1.obj em rx
          obtain ⟨ks, q, hr⟩ := ro.dct
          refine ⟨a, rfl, .inl ⟨ks, q⟩, ι1, m1, ρ, S1, E.mono p1 l1, P1.bind fun y m2 ι2 H2 v2 _ p2 l2 S2 ry P2 => ?_⟩
          refine ⟨ι2, m2, ρ, S2, (E.mono p1 l1).mono p2 l2, P2.bind fun z m3 ι3 H3 v3 _ p3 l3 S3 rz P3 => ?_⟩
          have P4 := P3.calm
          unfold pGet2 at P4
          dsimp only at P4
          have rx3 := RD.mono (p2.trans p3) (l2.trans l3) _ _ rx
          cases em3 : m3[i]? with
          | none => simp only [em3] at P4; exact P4.elim
          | some ob3 =>
            obtain ⟨a', e', ia', ro3⟩ := S3.obj em3 rx3
            cases e'
            cases ob3 with
            | dct lk3 kvs3 =>
              simp only [em3] at P4
              cases ek : toKy y with
              | none => simp only [ek] at P4; exact P4.elim
              | some k =>
                simp only [ek] at P4
                obtain ⟨rfl, _⟩ := (RD.mono p3 l3 _ _ ry).toKy ek
                have g := get_rel (k := k) ro3
                cases eg : getKv kvs3 k with
                | none =>
                  rw [eg] at g P4
                  exact ⟨none, g, P4.okD S3 rz⟩
                | some d =>
                  rw [eg] at g P4
                  obtain ⟨w, g, rd⟩ := g
                  exact ⟨some w, g, P4.okD S3 rd⟩
            | _ => simp only [em3] at P4; exact P4.elim
        | _ => simp [em] at hd
    | _ => cases hd
/-! ### texts: split, partition, join -/
theorem spl_eq (c : Nat) : ∀ (acc l : Tx), splT c acc l = spl [c] 0 acc l
  | acc, [] => rfl
  | acc, d :: r => by
    unfold splT
    by_cases h : d = c
    · subst h
      rw [if_pos rfl, spl_hit (by simp [pre]), spl_eq d [] r]
      rfl
    · rw [if_neg h, spl_miss (pre_of_head [] r h), spl_eq c _ r]
theorem par_eq (c : Nat) : ∀ (acc l : Tx), parT c acc l = par [c] acc l
  | acc, [] => rfl
  | acc, d :: r => by
    unfold parT
    by_cases h : d = c
    · subst h
      rw [if_pos rfl, par_hit (by simp [pre])]
      rfl
    · rw [if_neg h, par_miss (pre_of_head [] r h), par_eq c _ r]
theorem spl_mem (c : Nat) : ∀ (acc l : Tx) (t : Tx), t ∈ splT c acc l → ∀ d ∈ t, d ∈ acc ∨ d ∈ l
  | acc, [], t, h, d, hd => by
    unfold splT at h
    rw [List.mem_singleton] at h
    subst h
    exact .inl hd
  | acc, e :: r, t, h, d, hd => by
    unfold splT at h
    split at h
    · rcases List.mem_cons.mp h with rfl | h
      · exact .inl hd
      · rcases spl_mem c [] r t h d hd with z | z
        · cases z
        · exact .inr (List.mem_cons_of_mem _ z)
    · rcases spl_mem c _ r t h d hd with z | z
      · rcases List.mem_append.mp z with z | z
        · exact .inl z
        · exact .inr (by rw [List.mem_singleton.mp z]; exact List.mem_cons_self)
      · exact .inr (List.mem_cons_of_mem _ z)
theorem par_mem (c : Nat) : ∀ (acc l : Tx) (t u : Tx), parT c acc l = some (t, u) → (∀ d ∈ t, d ∈ acc ∨ d ∈ l) ∧ ∀ d ∈ u, d ∈ l
  | acc, [], t, u, h => by simp [parT] at h
  | acc, e :: r, t, u, h => by
    unfold parT at h
    split at h
    · simp only [Option.some.injEq, Prod.mk.injEq] at h
      obtain ⟨rfl, rfl⟩ := h
      exact ⟨fun d hd => .inl hd, fun d hd => List.mem_cons_of_mem _ hd⟩
    · obtain ⟨h1, h2⟩ := par_mem c _ r t u h
      refine ⟨fun d hd => ?_, fun d hd => List.mem_cons_of_mem _ (h2 d hd)⟩
      rcases h1 d hd with z | z
      · rcases List.mem_append.mp z with z | z
        · exact .inl z
        · exact .inr (by rw [List.mem_singleton.mp z]; exact List.mem_cons_self)
      · exact .inr (List.mem_cons_of_mem _ z)
theorem mSplit : MtR X "str.split" (rm1 X G pSplit) := by
  intro pins s σ H x xs v us Q I rx rs ⟨ι, m, dx, dy, y, e, S, hx, hy, P⟩
  subst e
  unfold pSplit at P
  cases dx with
  | str z =>
    cases dy with
    | str w =>
      cases w with
      | nil => exact P.elim
      | cons c w =>
        cases w with
        | cons _ _ => exact P.elim
        | nil =>
          dsimp only at P
          split at P
          · rename_i hc
            cases hx with
            | str ok =>
              cases hy with
              | str ok2 =>
                have hL : LIM = 1000000 := rfl
                have hsz := sizeLine_eq
                refine mt_split pins s σ H _ _ v us Q I rx rs ⟨mkS z, mkS [c], rfl, rfl, by rw [len_mkS]; rfl, by rw [len_mkS]; omega, fun p hp => ?_⟩
                have e2 : (Txt.split (mkS z) (mkS [c])).map tl = splT c [] z := by
                  rw [split_spl (mkS z) (mkS [c]) (by rw [tl_mkS]; simp) (kind_ok (by simp [mkS, hc.2])), tl_mkS, tl_mkS, spl_eq]
                rw [str_list e2]
                refine new_obj0 (ob := .lst _) S hp ⟨_, upd_same, RDs.strs fun t ht => strOk_sub ok fun d hd => ?_⟩ P
                rcases spl_mem c [] z t ht d hd with h | h
                · cases h
                · exact h
          · exact P.elim
    | _ => exact P.elim
  | _ => exact P.elim
theorem mPartition : MtR X "str.partition" (rm1 X G pPartition) := by
  intro pins s σ H x xs v us Q I rx rs ⟨ι, m, dx, dy, y, e, S, hx, hy, P⟩
  subst e
  unfold pPartition at P
  cases dx with
  | str z =>
    cases dy with
    | str w =>
      cases w with
      | nil => exact P.elim
      | cons c w =>
        cases w with
        | cons _ _ => exact P.elim
        | nil =>
          dsimp only at P
          split at P
          · rename_i hc
            cases hx with
            | str ok =>
              cases hy with
              | str ok2 =>
                refine mt_partition pins s σ H _ _ v us Q I rx rs ⟨mkS z, mkS [c], rfl, rfl, by rw [len_mkS]; rfl, by rw [len_mkS]; exact LIM_le hc, fun p hp => ?_⟩
                rw [partition_par (mkS z) (mkS [c]) (by rw [tl_mkS]; simp), tl_mkS, tl_mkS, ← par_eq]
                cases ep : parT c [] z with
                | none =>
                  rw [ep] at P
                  dsimp only at P ⊢
                  refine P ι _ (.ref p) (List.prefix_refl _) (Le.new hp) (S.fresh hp) (.tup (SqT.of upd_same) (.cons (.str ok) (.cons (.str (s := []) rfl) (.cons (.str (s := []) rfl) .nil))))
                | some q =>
                  obtain ⟨t, u⟩ := q
                  rw [ep] at P
                  dsimp only at P ⊢
                  obtain ⟨h1, h2⟩ := par_mem c [] z t u ep
                  refine P ι _ (.ref p) (List.prefix_refl _) (Le.new hp) (S.fresh hp) (.tup (SqT.of upd_same) (.cons (.str (strOk_sub ok fun d hd => ?_)) (.cons (.str ok2) (.cons (.str (strOk_sub ok h2)) .nil))))
                  rcases h1 d hd with h | h
                  · cases h
                  · exact h
          · exact P.elim
    | _ => exact P.elim
  | _ => exact P.elim
theorem join_eqT (s : Tx) : ∀ l : List Tx, joinT s l = joinL s l
  | [] => rfl
  | [_] => rfl
  | p :: q :: r => by
    show p ++ (s ++ joinT s (q :: r)) = p ++ (s ++ joinL s (q :: r))
    rw [join_eqT s (q :: r)]
theorem joinT_ok {s : Tx} (hs : strOkT s = true) : ∀ {l : List Tx}, (∀ y ∈ l, strOkT y = true) → strOkT (joinT s l) = true
  | [], _ => rfl
  | [p], h => h p (List.mem_singleton.mpr rfl)
  | p :: q :: r, h => strOk_app (h p List.mem_cons_self) (strOk_app hs (joinT_ok hs fun y hy => h y (List.mem_cons_of_mem _ hy)))
theorem mJoin : MtR X "str.join" (rm1 X G pJoin) := by
  intro pins s σ H x xs v us Q I rx rs ⟨ι, m, dx, dy, y, e, S, hx, hy, P⟩
  subst e
  unfold pJoin at P
  cases dx with
  | str z =>
    cases dy with
    | ref i =>
      dsimp only at P
      cases em : m[i]? with
      | none => simp only [em] at P; exact P.elim
      | some ob =>
        obtain ⟨a, rfl, ia, ro⟩ := S.obj em hy
        cases ob with
        | lst ds =>
          simp only [em] at P
          cases es : allStr ds with
          | none => simp only [es] at P; exact P.elim
          | some ys =>
            simp only [es] at P
            split at P
            · rename_i hl
              obtain ⟨ws, q, hr⟩ := ro
              obtain ⟨rfl, e2, ok⟩ := all_str hr es
              cases hx with
              | str okz =>
                have hL : LIM = 1000000 := rfl
                have e3 : (ys.map mkS).map (·.length) = ys.map (·.length) := by
                  rw [List.map_map]; exact List.map_congr_left fun y _ => len_mkS y
                refine mt_join pins s σ H _ _ v us Q I rx rs ⟨mkS z, a, ys.map mkS, rfl, rfl, .inl (SqL.of q), by rw [e3, List.length_map, len_mkS]; omega, ?_⟩
                have e4 : Txt.join (mkS z) (ys.map mkS) = mkS (joinT z ys) := by
                  rw [join_eq]
                  refine ext_tl ?_
                  rw [tl_join, tl_mkS, tl_mkS, join_eqT, List.map_map]
                  congr 1
                  conv => rhs; rw [← List.map_id ys]
                  exact List.map_congr_left fun y _ => tl_mkS y
                rw [e4]
                exact P.okD S (.str (joinT_ok okz ok))
            · exact P.elim
        | _ => simp only [em] at P; exact P.elim
    | _ => exact P.elim
  | _ => exact P.elim
end
end Mn
end

section
set_option Elab.async false
set_option linter.all false
set_option maxRecDepth 100000
set_option maxHeartbeats 2000000
namespace Mn
open PySem PySem.Spec L2 TL
section
variable (X : Cx) (G : Tb)
def PostS (ι : List Addr) (H : Hp) (D : Ends) (r : SR) : Prop := match r with
  | .nx ρ' m' => ∀ ι' H' σ', ι <+: ι' → Le ι ι' H H' → Sim G X.K ι' H' m' → Ev X.K ι' H' ρ' σ' → D.nx σ' H'
  | .rt d m' => ∀ ι' H' v, ι <+: ι' → Le ι ι' H H' → Sim G X.K ι' H' m' → RD X.K ι' H' d v → D.rt v H'
  | .bk ρ' m' => ∀ ι' H' σ', ι <+: ι' → Le ι ι' H H' → Sim G X.K ι' H' m' → Ev X.K ι' H' ρ' σ' → D.bk σ' H'
  | .ct ρ' m' => ∀ ι' H' σ', ι <+: ι' → Le ι ι' H H' → Sim G X.K ι' H' m' → Ev X.K ι' H' ρ' σ' → D.ct σ' H'
  | .exc x ρ' m' => ∀ ι' H' σ' c dd, ι <+: ι' → Le ι ι' H H' → Sim G X.K ι' H' m' → Ev X.K ι' H' ρ' σ' → RX G ι' x c dd → Wm X c dd σ' H'
  | .bad => False
def tS (s : MS) : TS := fun D σ H => ∃ ι m ρ, Sim G X.K ι H m ∧ Ev X.K ι H ρ σ ∧ PostS X G ι H D (s ρ m)
def tG (g : MG) : TG := fun v σ H Q => ∃ ι m ρ d, Sim G X.K ι H m ∧ Ev X.K ι H ρ σ ∧ RD X.K ι H d v ∧ match g d ρ m with
  | .ok ρ' m' => ∀ ι' H' σ', ι <+: ι' → Le ι ι' H H' → Sim G X.K ι' H' m' → Ev X.K ι' H' ρ' σ' → Q σ' H'
  | _ => False
def tGs (gs : List MG) : TGs := fun vs σ H Q => ∃ ι m ρ ds, Sim G X.K ι H m ∧ Ev X.K ι H ρ σ ∧ RDs X.K ι H ds vs ∧ match gAll gs ds ρ m with
  | .ok ρ' m' => ∀ ι' H' σ', ι <+: ι' → Le ι ι' H H' → Sim G X.K ι' H' m' → Ev X.K ι' H' ρ' σ' → Q σ' H'
  | _ => False
end
abbrev RS (X : Cx) (G : Tb) (st : Stmt) (s : MS) : Prop := PS X st (tS X G s)
abbrev RSs (X : Cx) (G : Tb) (st : List Stmt) (s : MS) : Prop := PSs X st (tS X G s)
abbrev RG (X : Cx) (G : Tb) (t : Expr) (g : MG) : Prop := PG X t (tG X G g)
section
variable {X : Cx} {G : Tb} {ι ι' : List Addr} {H H' : Hp} {σ : L2.St} {D : Ends}
theorem PostS.up {r : SR} (p : ι <+: ι') (l : Le ι ι' H H') (h : PostS X G ι H D r) : PostS X G ι' H' D r := by
  cases r with
  | nx ρ m => exact fun i2 H2 s2 p2 l2 S r => h i2 H2 s2 (p.trans p2) (l.trans l2) S r
  | rt d m => exact fun i2 H2 s2 p2 l2 S r => h i2 H2 s2 (p.trans p2) (l.trans l2) S r
  | bk ρ m => exact fun i2 H2 s2 p2 l2 S r => h i2 H2 s2 (p.trans p2) (l.trans l2) S r
  | ct ρ m => exact fun i2 H2 s2 p2 l2 S r => h i2 H2 s2 (p.trans p2) (l.trans l2) S r
  | exc x ρ m => exact fun i2 H2 s2 c d p2 l2 S r => h i2 H2 s2 c d (p.trans p2) (l.trans l2) S r
  | bad => exact h
/-- an expression's end within a statement -/
theorem PostS.of {α β : Type} {rel : Rel α β} {r : R α} {ρ : Fr} {f : α → M → SR} {Q : β → Hp → Prop} (E : Ev X.K ι H ρ σ) (h : PostS X G ι H D (r.toS ρ f))
    (k : ∀ d m1 ι1 H1 v, r = .ok d m1 → ι <+: ι1 → Le ι ι1 H H1 → Sim G X.K ι1 H1 m1 → rel ι1 H1 d v → PostS X G ι1 H1 D (f d m1) → Q v H1) : Post X G ι H σ rel r Q := by
  cases r with
  | ok d m1 => exact fun ι1 H1 v p l S r => k d m1 ι1 H1 v rfl p l S r (PostS.up p l h)
  | exc x m => exact fun i2 H2 c d p l S r => h i2 H2 σ c d p l S (E.mono p l) r
  | bad => exact h
end
section
variable {X : Cx} {G : Tb} {a b c e f o v : Expr} {es : List Expr} {ea eb ec ef eo ev : ME} {ta tb : MT} {ma : MA} {pos p pos' cpos : Pos} {x name : Str} {st : Stmt} {s1 s2 : MS} {rest body : List Stmt} {g : MG}
theorem rs_nil : RSs X G [] sPass := pss_nil.weak fun D σ H ⟨ι, m, ρ, S, E, P⟩ => P ι H σ (List.prefix_refl _) (Le.refl _) S E
theorem rs_one (h : RS X G st s1) : RSs X G [st] s1 := pss_one h
theorem rs_cons (h1 : RS X G st s1) (h2 : RSs X G rest s2) : RSs X G (st :: rest) (sSeq s1 s2) := by
  refine (pss_cons h1 h2).weak fun D σ H ⟨ι, m, ρ, S, E, P⟩ => ?_
  refine ⟨ι, m, ρ, S, E, ?_⟩
  unfold sSeq at P
  cases e1 : s1 ρ m with
  | nx ρ1 m1 => rw [e1] at P; exact fun ι1 H1 σ1 p1 l1 S1 E1 => ⟨ι1, m1, ρ1, S1, E1, PostS.up p1 l1 P⟩
  | rt d m1 => rw [e1] at P; exact P
  | bk ρ1 m1 => rw [e1] at P; exact P
  | ct ρ1 m1 => rw [e1] at P; exact P
  | exc x ρ1 m1 => rw [e1] at P; exact P
  | bad => rw [e1] at P; exact P
theorem rs_bad : RS X G st sBad := ps_never.weak fun D σ H ⟨ι, m, ρ, S, E, P⟩ => P
theorem rs_pass : RS X G (.Pass pos) sPass := ps_pass.weak fun D σ H ⟨ι, m, ρ, S, E, P⟩ => P ι H σ (List.prefix_refl _) (Le.refl _) S E
theorem rs_cont : RS X G (.Continue pos) sCont := ps_continue.weak fun D σ H ⟨ι, m, ρ, S, E, P⟩ => P ι H σ (List.prefix_refl _) (Le.refl _) S E
theorem rs_exp (he : RE X G e ea) (hs : swapsWith e none pos.line X.env = pure false := by rfl) : RS X G (.Expr e pos) (sExp ea) := by
  refine (ps_expr he hs).weak fun D σ H ⟨ι, m, ρ, S, E, P⟩ => ?_
  refine ⟨ι, m, ρ, S, E, PostS.of E P fun d m1 ι1 H1 v _ p1 l1 S1 r P1 => ?_⟩
  exact P1 ι1 H1 σ (List.prefix_refl _) (Le.refl _) S1 (E.mono p1 l1)
theorem rs_ret (he : RE X G e ea) : RS X G (.Return (some e) pos) (sRet ea) := by
  refine (ps_ret he).weak fun D σ H ⟨ι, m, ρ, S, E, P⟩ => ?_
  refine ⟨ι, m, ρ, S, E, PostS.of E P fun d m1 ι1 H1 v _ p1 l1 S1 r P1 => ?_⟩
  exact P1 ι1 H1 v (List.prefix_refl _) (Le.refl _) S1 r
theorem rs_if (hc : RT X G c ta) (h1 : RSs X G body s1) (h2 : RSs X G rest s2) : RS X G (.If c body rest pos) (sIf ta s1 s2) := by
  refine (ps_if hc h1 h2).weak fun D σ H ⟨ι, m, ρ, S, E, P⟩ => ?_
  refine ⟨ι, m, ρ, S, E, PostS.of E P fun d m1 ι1 H1 v _ p1 l1 S1 r P1 => ?_⟩
  subst r
  cases v with
  | true => exact ⟨ι1, m1, ρ, S1, E.mono p1 l1, P1⟩
  | false => exact ⟨ι1, m1, ρ, S1, E.mono p1 l1, P1⟩
/-! ### targets -/
theorem rg_name {i : Nat} (hN : X.N.Nodup) (hi : X.N[i]? = some x) (hx : Loc X.env.scope x) (hf : X.fn x = true ∨ X.env.scope.names.lookup x = some .local := by first | exact .inl rfl | exact .inr rfl | assumption) : RG X G (.Name x pos) (gV i) := by
  refine ⟨fun pins s σ H v u Q I r ⟨ι, m, ρ, d, S, E, rd, P⟩ => ?_⟩
  refine (pg_name hN hi hx hf).run pins s σ H v u Q I r ?_
  exact P ι H _ (List.prefix_refl _) (Le.refl _) S (E.set i rd)
theorem rgs_nil : PGs X [] (tGs X G []) := by
  refine ⟨fun pins s σ H vs us Q I r ⟨ι, m, ρ, ds, S, E, rd, P⟩ => ?_⟩
  refine pgs_nil.run pins s σ H vs us Q I r ?_
  cases ds with
  | nil => cases rd; exact ⟨rfl, P ι H _ (List.prefix_refl _) (Le.refl _) S E⟩
  | cons _ _ => exact P.elim
theorem rgs_cons {gs : List MG} (h1 : RG X G e g) (h2 : PGs X es (tGs X G gs)) (hs : (assignEach (e :: es) X.env).map (·.2) = assign e X.env :: (assignEach es X.env).map (·.2) := by rfl) : PGs X (e :: es) (tGs X G (g :: gs)) := by
  refine ⟨fun pins s σ H vs us Q I r ⟨ι, m, ρ, ds, S, E, rd, P⟩ => ?_⟩
  refine (pgs_cons h1 h2 hs).run pins s σ H vs us Q I r ?_
  cases ds with
  | nil => exact P.elim
  | cons d ds =>
    cases rd with
    | cons r1 r2 =>
      refine ⟨_, _, rfl, ι, m, ρ, d, S, E, r1, ?_⟩
      unfold gAll at P
      cases e1 : g d ρ m with
      | ok ρ1 m1 =>
        rw [e1] at P
        simp only [R.bind_ok] at P
        intro ι1 H1 σ1 p1 l1 S1 E1
        refine ⟨ι1, m1, ρ1, ds, S1, E1, RDs.mono p1 l1 _ _ r2, ?_⟩
        cases e2 : gAll gs ds ρ1 m1 with
        | ok ρ2 m2 => rw [e2] at P; exact fun ι2 H2 σ2 p2 l2 S2 E2 => P ι2 H2 σ2 (p1.trans p2) (l1.trans l2) S2 E2
        | exc _ _ => rw [e2] at P; exact P
        | bad => rw [e2] at P; exact P
      | exc _ _ => rw [e1] at P; exact P
      | bad => rw [e1] at P; exact P
theorem rg_tup {gs : List MG} {k : Nat} (hc : X.calm = true) (h : PGs X es (tGs X G gs)) (hl : es.length = gs.length := by rfl) (hn : (assignEach es X.env).length = es.length := by rfl) (hst : (assignEach es X.env).findIdx? (·.1) = none := by rfl) : RG X G (.Tuple es k pos) (Mn.gTup gs) := by
  refine ⟨fun pins s σ H v u Q I r ⟨ι, m, ρ, d, S, E, rd, P⟩ => ?_⟩
  refine (pg_tup hc h hn hst).run pins s σ H v u Q I r ?_
  unfold Mn.gTup at P
  cases d with
  | tup ds =>
    cases rd with
    | tup h1 h2 =>
      have hlen : ∀ (gs : List MG) (ds : List D) (ρ : Fr) (m : M), gs.length ≠ ds.length → (match gAll gs ds ρ m with | .ok _ _ => False | _ => True) := by
        intro gs
        induction gs with
        | nil => intro ds ρ m hne; cases ds with
          | nil => exact absurd rfl hne
          | cons _ _ => trivial
        | cons g gs ih => intro ds ρ m hne; cases ds with
          | nil => trivial
          | cons d ds =>
            unfold gAll
            cases g d ρ m with
            | ok ρ1 m1 => exact ih ds ρ1 m1 (by simpa using hne)
            | exc _ _ => trivial
            | bad => trivial
      have hl2 : gs.length = ds.length := by
        by_cases h : gs.length = ds.length
        · exact h
        · have := hlen gs ds ρ m h
          dsimp only at P
          cases e1 : gAll gs ds ρ m with
          | ok _ _ => rw [e1] at this; exact this.elim
          | exc _ _ => rw [e1] at P; exact P.elim
          | bad => rw [e1] at P; exact P.elim
      exact ⟨_, _, rfl, h1, by rw [← h2.length, ← hl2, hl], ι, m, ρ, ds, S, E, h2, P⟩
  | _ => exact P.elim
/-! ### assignments -/
theorem le_asg {σ : L2.St} {H : Hp} {D : Ends} (h : tS X G (sAsg g ea) D σ H) : tAsg (tE X G ea) (tG X G g) D σ H := by
  obtain ⟨ι, m, ρ, S, E, P⟩ := h
  refine ⟨ι, m, ρ, S, E, PostS.of E P fun d m1 ι1 H1 v _ p1 l1 S1 r P1 => ?_⟩
  refine ⟨ι1, m1, ρ, d, S1, E.mono p1 l1, r, ?_⟩
  unfold gDo at P1
  cases e1 : g d ρ m1 with
  | ok ρ1 m2 => rw [e1] at P1; exact P1
  | exc _ _ => rw [e1] at P1; exact P1
  | bad => rw [e1] at P1; exact P1
theorem rs_asg {tg : Expr} (he : RE X G e ea) (hg : RG X G tg g) (hs : swapsWithSole [tg] e pos.line X.env = pure false := by rfl) (hw : swappedStores [tg] e X.env = pure none := by rfl)
    (h1 : (assignEach [tg] X.env).map (·.2) = [assign tg X.env] := by rfl) : RS X G (.Assign [tg] e pos) (sAsg g ea) := (ps_asg he hg hs hw h1).weak fun _ _ _ => le_asg
theorem rs_set {i : Nat} (hN : X.N.Nodup) (hi : X.N[i]? = some x) (hx : Loc X.env.scope x) (he : RE X G e ea) (hs : swapsWith e (some (.Name x pos')) pos.line X.env = pure false := by rfl) (hf : X.fn x = true ∨ X.env.scope.names.lookup x = some .local := by first | exact .inl rfl | exact .inr rfl | assumption) :
    RS X G (.Assign [.Name x pos'] e pos) (sAsg (gV i) ea) := by
  refine (ps_set hN hi hx he hs hf).weak fun D σ H h => ?_
  obtain ⟨ι, m, ρ, S, E, P⟩ := h
  refine ⟨ι, m, ρ, S, E, PostS.of E P fun d m1 ι1 H1 v _ p1 l1 S1 r P1 => ?_⟩
  exact P1 ι1 H1 _ (List.prefix_refl _) (Le.refl _) S1 ((E.mono p1 l1).set i r)
/-! o[i] = v -/
def rSetX (X : Cx) (G : Tb) : TSet := fun o i v H Q => ∃ ι m x y z m', Sim G X.K ι H m ∧ RD X.K ι H x o ∧ RD X.K ι H y i ∧ RD X.K ι H z v ∧ pSetIx x y z m = some m' ∧ ∀ H', Le ι ι H H' → Sim G X.K ι H' m' → Q H'
theorem psetX (hu : X.A.units + 1 < cLine) : PSet X (rSetX X G) := by
  intro pins s σ H o i v ov iv u Q I ro ri rv ⟨ι, m, x, y, z, m', S, hx, hy, hz, e, k⟩
  unfold pSetIx at e
  cases x with
  | ref j =>
    dsimp only at e
    cases em : m[j]? with
    | none => simp [em] at e
    | some ob =>
      obtain ⟨a, rfl, ia, rob⟩ := S.obj em hx
      cases ob with
      | lst xs =>
        simp only [em] at e
        cases y with
        | int n =>
          dsimp only at e
          cases en : Mn.ixN xs.length n with
          | none => simp [en] at e
          | some q =>
            simp only [en, Option.some.injEq] at e
            subst e
            cases hy
            obtain ⟨ws, qa, hr⟩ := rob
            have l2 : Le ι ι H (upd H a (.lst (ws.set q v))) := Le.mut qa (fun _ z => nomatch z) (fun _ _ z => nomatch z)
            refine set_list pins s σ H _ _ v ov iv u Q I ro ri rv ⟨a, ws, n, q, rfl, rfl, qa, by rw [← hr.length]; exact en, ?_⟩
            exact k _ l2 (S.set ia l2 ⟨_, upd_same, RDs.mono (List.prefix_refl _) l2 _ _ (RDs.set hz q hr)⟩)
        | _ => cases e
      | dct lk kvs =>
        cases lk with
        | true => simp [em] at e
        | false =>
          simp only [em] at e
          cases ek : toKy y with
          | none => simp [ek] at e
          | some q =>
            simp only [ek] at e
            split at e
            · rename_i hl
              simp only [Option.some.injEq] at e
              subst e
              obtain ⟨rfl, ok⟩ := hy.toKy ek
              obtain ⟨ks, qa, hr⟩ := rob
              obtain rfl : ov = Value.ref a := ro
              have l2 : Le ι ι H (upd H a (.dK (putK ks (kyS q) v))) := Le.mut qa (fun _ z => nomatch z) (fun _ _ z => nomatch z)
              refine d_setItem hu I (DPut.k qa (by rw [← Paired.length hr]; exact LIM_lt hl)) ri rv fun s' I' => ⟨_, I', ?_⟩
              exact k _ l2 (S.set ia l2 ⟨_, upd_same, (hr.put ok hz).mono (List.prefix_refl _) l2⟩)
            · cases e
      | ins C fs => simp [em] at e
      | xdc fs => simp [em] at e
  | _ => cases e
theorem rs_setIx (hu : X.A.units + 1 < cLine) (ho : RE X G o eo) (hi : RE X G c ec) (hv : RE X G v ev) (hs : swapsWithSole [.Subscript o c pos'] v pos.line X.env = pure false := by rfl) (hw : swappedStores [.Subscript o c pos'] v X.env = pure none := by rfl)
    (h1 : (assignEach [.Subscript o c pos'] X.env).map (·.2) = [assign (.Subscript o c pos') X.env] := by rfl)
    (ha : ∀ z, assign (.Subscript o c pos') X.env z = (do
      let ov ← holding [z] (eval o X.env)
      let iv ← holding [z, ov] (eval c X.env)
      standAt pos'
      holding [z, ov, iv] (setItem ov iv z)
      release [z, ov, iv] []) := by intro _; rfl) : RS X G (.Assign [.Subscript o c pos'] v pos) (sSetIx eo ec ev) := by
  refine (ps_asg hv (pg_sub ho hi (psetX hu (G := G)) ha) hs hw h1).weak fun D σ H ⟨ι, m, ρ, S, E, P⟩ => ?_
  refine ⟨ι, m, ρ, S, E, PostS.of E P fun z m1 ι1 H1 zv _ p1 l1 S1 rz P1 => ?_⟩
  refine ⟨ι1, m1, ρ, S1, E.mono p1 l1, PostS.of (E.mono p1 l1) P1 fun x m2 ι2 H2 xv _ p2 l2 S2 rx P2 => ?_⟩
  refine ⟨ι2, m2, ρ, S2, (E.mono p1 l1).mono p2 l2, PostS.of ((E.mono p1 l1).mono p2 l2) P2 fun y m3 ι3 H3 yv _ p3 l3 S3 ry P3 => ?_⟩
  cases e4 : pSetIx x y z m3 with
  | none => rw [e4] at P3; exact P3.elim
  | some m4 =>
    rw [e4] at P3
    refine ⟨ι3, m3, x, y, z, m4, S3, RD.mono p3 l3 _ _ rx, ry, RD.mono (p2.trans p3) (l2.trans l3) _ _ rz, e4, fun H4 l4 S4 => ?_⟩
    exact P3 ι3 H4 σ (List.prefix_refl _) l4 S4 ((((E.mono p1 l1).mono p2 l2).mono p3 l3).mono (List.prefix_refl _) l4)
/-! o.f = v -/
theorem rs_setFld {fn : Str} {Cs : List Nat} {k : Nat} (hf : fn = G.nm k) (hC : ∀ C ∈ Cs, Cls X.K (G.cA C) ∧ NoAttr X.K (G.cA C) fn) (ho : RE X G o eo) (hv : RE X G v ev) (hs : swapsWith v (some (.Attribute o fn pos')) pos.line X.env = pure false := by rfl) :
    RS X G (.Assign [.Attribute o fn pos'] v pos) (sSetFld Cs k eo ev) := by
  refine (ps_fld ho hv hs).weak fun D σ H ⟨ι, m, ρ, S, E, P⟩ => ?_
  refine ⟨ι, m, ρ, S, E, PostS.of E P fun z m1 ι1 H1 zv _ p1 l1 S1 rz P1 => ?_⟩
  refine ⟨ι1, m1, ρ, S1, E.mono p1 l1, PostS.of (E.mono p1 l1) P1 fun x m2 ι2 H2 xv _ p2 l2 S2 rx P2 => ?_⟩
  unfold pSetFld at P2
  cases x with
  | ref i =>
    dsimp only at P2
    cases em : m2[i]? with
    | none => simp only [em] at P2; exact P2.elim
    | some ob =>
      obtain ⟨a, rfl, ia, rob⟩ := S2.obj em rx
      cases ob with
      | ins C fs =>
        simp only [em] at P2
        by_cases hc : C ∈ Cs ∧ fs.length < 100
        · rw [if_pos hc] at P2
          obtain ⟨dx, ls, q, rf⟩ := rob
          obtain ⟨c1, c2⟩ := hC C hc.1
          have l3 : Le ι2 ι2 H2 (upd H2 a (.ins (G.cA C) dx (putF fn zv ls))) := Le.mut q (fun _ z => nomatch z) (fun _ _ z => nomatch z)
          refine ⟨a, _, dx, ls, rfl, q, c1, c2, by rw [← Paired.length rf]; omega, ?_⟩
          refine P2 ι2 _ σ (List.prefix_refl _) l3 (S2.set ia l3 ⟨dx, _, upd_same, ?_⟩) (((E.mono p1 l1).mono p2 l2).mono (List.prefix_refl _) l3)
          rw [hf]
          exact ((rf.put (k := k) (RD.mono p2 l2 _ _ rz)).mono (List.prefix_refl _) (by rw [← hf]; exact l3))
        · rw [if_neg hc] at P2; exact P2.elim
      | _ => simp only [em] at P2; exact P2.elim
  | _ => exact P2.elim
end
end Mn
end

section
set_option Elab.async false
set_option linter.all false
set_option maxRecDepth 100000
set_option maxHeartbeats 2000000
namespace Mn
open PySem PySem.Spec L2 TL
/-- an iterator gives the items ds while chk stands -/
structure ItOk (X : Cx) (G : Tb) (ι : List Addr) (H0 : Hp) (ds : List D) (chk : M → Bool) (J : It) : Prop where
  walk : Walk J ds.length (fun H => ∃ ι2 m2, Le ι ι2 H0 H ∧ ι <+: ι2 ∧ Sim G X.K ι2 H m2 ∧ chk m2 = true)
    (fun i H x H' => ∀ ι2 m2, Le ι ι2 H0 H → ι <+: ι2 → Sim G X.K ι2 H m2 → chk m2 = true → Le ι2 ι2 H H' ∧ Sim G X.K ι2 H' m2 ∧ (∀ a, H a ≠ none → H' a = H a) ∧ ∃ d, ds[i]? = some d ∧ RD X.K ι2 H' d x)
def tI (X : Cx) (G : Tb) (it : MI) : TI := fun σ H R => ∃ ι m ρ, Sim G X.K ι H m ∧ Ev X.K ι H ρ σ ∧ match it ρ m with
  | .ok q m' => ∀ ι' H' J, ι <+: ι' → Le ι ι' H H' → Sim G X.K ι' H' m' → ItOk X G ι' H' q.1 q.2 J → R J H'
  | .exc x m' => ∀ ι' H' c dd, ι <+: ι' → Le ι ι' H H' → Sim G X.K ι' H' m' → RX G ι' x c dd → Wm X c dd σ H'
  | .bad => False
abbrev RI (X : Cx) (G : Tb) (tg iter : Expr) (it : MI) : Prop := PI X tg iter (tI X G it)
theorem _root_.L2.PI.weak {X : Cx} {tg e : Expr} {t t' : TI} (h : PI X tg e t) (k : ∀ σ H R, t' σ H R → t σ H R) : PI X tg e t' := ⟨fun pins s σ H R I q => h.run pins s σ H R I (k σ H R q)⟩
section
variable {K : PySem.W.Frag} {ι : List Addr} {H H' : Hp} {G : Tb}
mutual
theorem rd_of (sq : ∀ b xs, SqT K H b xs → SqT K H' b xs) (fz : ∀ b xs, Frz K H b xs → Frz K H' b xs) : ∀ (d : D) (v : V), RD K ι H d v → RD K ι H' d v
  | .non, _, h => by cases h; exact .non
  | .bl b, _, h => by cases h; exact .bl b
  | .int i, _, h => by cases h; exact .int i
  | .str s, _, h => by cases h with | str ok => exact .str ok
  | .tup ds, _, h => by cases h with | tup h1 h2 => exact .tup (sq _ _ h1) (rds_of sq fz ds _ h2)
  | .fls ds, _, h => by cases h with | fls h1 h2 => exact .fls (fz _ _ h1) (rds_of sq fz ds _ h2)
  | .ref i, _, h => by cases h with | ref h1 => exact .ref h1
  | .adr a, _, h => by cases h; exact .adr a
  | .exn a d i, _, h => by cases h with | exn _ h1 => exact .exn a h1
theorem rds_of (sq : ∀ b xs, SqT K H b xs → SqT K H' b xs) (fz : ∀ b xs, Frz K H b xs → Frz K H' b xs) : ∀ (ds : List D) (vs : List V), RDs K ι H ds vs → RDs K ι H' ds vs
  | [], _, h => by cases h; exact .nil
  | d :: ds, _, h => by cases h with | cons h1 h2 => exact .cons (rd_of sq fz d _ h1) (rds_of sq fz ds _ h2)
end
theorem rdss_of (rd : ∀ d v, RD K ι H d v → RD K ι H' d v) : ∀ {ds : List D} {vs : List V}, RDs K ι H ds vs → RDs K ι H' ds vs
  | [], _, h => by cases h; exact .nil
  | d :: ds, _, h => by cases h with | cons h1 h2 => exact .cons (rd _ _ h1) (rdss_of rd h2)
theorem rkvs_of (rd : ∀ d v, RD K ι H d v → RD K ι H' d v) {a : List (Ky × D)} {b : List (Key × V)} (h : RKvs K ι H a b) : RKvs K ι H' a b := Paired.mapP h fun _ _ z => ⟨z.1, z.2.1, rd _ _ z.2.2⟩
theorem ro_of (rd : ∀ d v, RD K ι H d v → RD K ι H' d v) {a : Addr} {o : O} (e : H' a = H a) (h : RO G K ι H a o) : RO G K ι H' a o := by
  cases o with
  | lst ds => obtain ⟨vs, q, r⟩ := h; exact ⟨vs, e.trans q, rdss_of rd r⟩
  | dct lk kvs =>
    cases lk with
    | false => obtain ⟨ks, q, r⟩ := h; exact ⟨ks, e.trans q, rkvs_of rd r⟩
    | true => obtain ⟨ks, o, q, r⟩ := h; exact ⟨ks, o, e.trans q, rkvs_of rd r⟩
  | ins C fs => obtain ⟨dx, ls, q, r⟩ := h; exact ⟨dx, ls, e.trans q, Paired.mapP r fun _ _ z => ⟨z.1, rd _ _ z.2⟩⟩
  | xdc fs => obtain ⟨ls, q, r⟩ := h; exact ⟨ls, e.trans q, Paired.mapP r fun _ _ z => ⟨z.1, rd _ _ z.2⟩⟩
end
section
variable {X : Cx} {G : Tb} {tg e e2 e3 : Expr} {ea eb ec : ME} {pos p : Pos}
/-- from the value that is walked -/
theorem tI_gen {α β : Type} {rel : Rel α β} {σ : L2.St} {H : Hp} {ι : List Addr} {T : It → Hp → Prop} {r : R α} {f : α → M → R (List D × (M → Bool))} (P : match r.bind f with
      | .ok q m' => ∀ ι' H' J, ι <+: ι' → Le ι ι' H H' → Sim G X.K ι' H' m' → ItOk X G ι' H' q.1 q.2 J → T J H'
      | .exc x m' => ∀ ι' H' c dd, ι <+: ι' → Le ι ι' H H' → Sim G X.K ι' H' m' → RX G ι' x c dd → Wm X c dd σ H'
      | .bad => False)
    {Q : β → Hp → Prop} (k : ∀ d m1 ι1 H1 v, Sim G X.K ι1 H1 m1 → rel ι1 H1 d v → (match f d m1 with
      | .ok q m' => ∀ ι' H' J, ι1 <+: ι' → Le ι1 ι' H1 H' → Sim G X.K ι' H' m' → ItOk X G ι' H' q.1 q.2 J → T J H'
      | .exc x m' => ∀ ι' H' c dd, ι1 <+: ι' → Le ι1 ι' H1 H' → Sim G X.K ι' H' m' → RX G ι' x c dd → Wm X c dd σ H'
      | .bad => False) → Q v H1) : Post X G ι H σ rel r Q := by
  cases r with
  | ok d m1 =>
    simp only [R.bind_ok] at P
    intro ι1 H1 v p1 l1 S1 r
    refine k d m1 ι1 H1 v S1 r ?_
    cases e2 : f d m1 with
    | ok q m' => rw [e2] at P; exact fun ι' H' J p2 l2 S2 io => P ι' H' J (p1.trans p2) (l1.trans l2) S2 io
    | exc x m' => rw [e2] at P; exact fun ι' H' c dd p2 l2 S2 rx => P ι' H' c dd (p1.trans p2) (l1.trans l2) S2 rx
    | bad => rw [e2] at P; exact P
  | exc x m1 => exact P
  | bad => exact P
theorem tI_of {σ : L2.St} {H : Hp} {T : It → Hp → Prop} {f : D → M → R (List D × (M → Bool))} (h : tI X G (fun ρ m => (ea ρ m).bind f) σ H T)
    {Q : VK} (k : ∀ d m1 ι1 H1 v, Sim G X.K ι1 H1 m1 → RD X.K ι1 H1 d v → (match f d m1 with
      | .ok q m' => ∀ ι' H' J, ι1 <+: ι' → Le ι1 ι' H1 H' → Sim G X.K ι' H' m' → ItOk X G ι' H' q.1 q.2 J → T J H'
      | .exc x m' => ∀ ι' H' c dd, ι1 <+: ι' → Le ι1 ι' H1 H' → Sim G X.K ι' H' m' → RX G ι' x c dd → Wm X c dd σ H'
      | .bad => False) → Q v H1) : tE X G ea σ H Q := by
  obtain ⟨ι, m, ρ, S, E, P⟩ := h
  exact ⟨ι, m, ρ, S, E, tI_gen P k⟩
theorem tI_ofA {ma : MA} {σ : L2.St} {H : Hp} {T : It → Hp → Prop} {f : List D → M → R (List D × (M → Bool))} (h : tI X G (fun ρ m => (ma ρ m).bind f) σ H T)
    {Q : List V → Hp → Prop} (k : ∀ d m1 ι1 H1 v, Sim G X.K ι1 H1 m1 → RDs X.K ι1 H1 d v → (match f d m1 with
      | .ok q m' => ∀ ι' H' J, ι1 <+: ι' → Le ι1 ι' H1 H' → Sim G X.K ι' H' m' → ItOk X G ι' H' q.1 q.2 J → T J H'
      | .exc x m' => ∀ ι' H' c dd, ι1 <+: ι' → Le ι1 ι' H1 H' → Sim G X.K ι' H' m' → RX G ι' x c dd → Wm X c dd σ H'
      | .bad => False) → Q v H1) : tA X G ma σ H Q := by
  obtain ⟨ι, m, ρ, S, E, P⟩ := h
  exact ⟨ι, m, ρ, S, E, tI_gen P k⟩
theorem ri_list (he : RE X G e ea) : RI X G tg e (Mn.iList ea) := by
  refine (pi_list he).weak fun σ H R h => ?_
  refine tI_of h fun d m1 ι1 H1 v S1 r P => ?_
  cases d with
  | ref i =>
    dsimp only at P
    cases em : m1[i]? with
    | none => rw [em] at P; exact (P : False).elim
    | some ob =>
      obtain ⟨a, rfl, ia, ro⟩ := S1.obj em r
      cases ob with
      | lst ds =>
        simp only [em] at P
        obtain ⟨vs, q, hr⟩ := ro
        refine ⟨a, rfl, ⟨vs, SqL.of q⟩, P ι1 H1 _ (List.prefix_refl _) (Le.refl _) S1 ⟨⟨fun j H hj hG => ?_, fun H hG => ?_, fun j H x H' hj hG y => ?_⟩⟩⟩
        · obtain ⟨ι2, m2, _, p2, S2, hc⟩ := hG
          obtain ⟨ws, q2, hr2⟩ := S2.ob i _ a (of_decide_eq_true hc) (pre_get p2 ia)
          have hl : j < ws.length := by rw [← hr2.length]; exact hj
          exact ⟨ws, ws[j], SqL.of q2, by simp [hl]⟩
        · obtain ⟨ι2, m2, _, p2, S2, hc⟩ := hG
          obtain ⟨ws, q2, hr2⟩ := S2.ob i _ a (of_decide_eq_true hc) (pre_get p2 ia)
          exact ⟨ws, SqL.of q2, Nat.le_of_eq hr2.length.symm⟩
        · intro ι2 m2 l2 p2 S2 hc
          obtain ⟨rfl, hx⟩ := y
          obtain ⟨ws, q2, hr2⟩ := S2.ob i _ a (of_decide_eq_true hc) (pre_get p2 ia)
          have hd : ds[j]? = some ds[j] := by simp [hj]
          obtain ⟨w, e1, rd⟩ := hr2.get hd
          have e3 := hx ws (SqL.of q2)
          rw [e1] at e3
          cases e3
          exact ⟨Le.refl _, S2, fun _ _ => rfl, _, hd, rd⟩
      | _ => rw [em] at P; exact (P : False).elim
  | _ => exact P.elim
theorem ri_tup (he : RE X G e ea) : RI X G tg e (Mn.iTup ea) := by
  refine (pi_tup he).weak fun σ H R h => ?_
  refine tI_of h fun d m1 ι1 H1 v S1 r P => ?_
  cases d with
  | tup ds =>
    cases r with
    | @tup a _ vs hs hr =>
      refine ⟨a, rfl, ⟨vs, hs⟩, P ι1 H1 _ (List.prefix_refl _) (Le.refl _) S1 ⟨⟨fun j H hj hG => ?_, fun H hG => ?_, fun j H x H' hj hG y => ?_⟩⟩⟩
      · have hl : j < vs.length := by rw [← hr.length]; exact hj
        obtain ⟨ι2, m2, l2, p2, S2, hc⟩ := hG
        exact ⟨vs, vs[j], l2.sqT hs, by simp [hl]⟩
      · obtain ⟨ι2, m2, l2, p2, S2, hc⟩ := hG
        exact ⟨vs, l2.sqT hs, Nat.le_of_eq hr.length.symm⟩
      · intro ι2 m2 l2 p2 S2 hc
        obtain ⟨rfl, hx⟩ := y
        have hd : ds[j]? = some ds[j] := by simp [hj]
        obtain ⟨w, e1, rd⟩ := (RDs.mono p2 l2 _ _ hr).get hd
        have e3 := hx vs (l2.sqT hs)
        rw [e1] at e3
        cases e3
        exact ⟨Le.refl _, S2, fun _ _ => rfl, _, hd, rd⟩
  | _ => exact P.elim
theorem ri_str (he : RE X G e ea) : RI X G tg e (Mn.iStr ea) := by
  refine (pi_str he).weak fun σ H R h => ?_
  refine tI_of h fun d m1 ι1 H1 v S1 r P => ?_
  cases d with
  | str z =>
    cases r with
    | str ok =>
      have hl : (mkS z).cps.size = z.length := by simp [mkS]
      refine ⟨mkS z, rfl, P ι1 H1 _ (List.prefix_refl _) (Le.refl _) S1 ⟨⟨fun j H hj hG => ?_, fun H hG => ?_, fun j H x H' hj hG y => ?_⟩⟩⟩
      · show j < (mkS z).cps.size
        rw [hl]; simpa using hj
      · show (mkS z).cps.size ≤ _
        rw [hl]; simp
      · intro ι2 m2 l2 p2 S2 hc
        obtain ⟨rfl, c, hx, rfl⟩ := y
        have hz : z[j]? = some c := by simpa [mkS] using hx
        refine ⟨Le.refl _, S2, fun _ _ => rfl, .str [c], by simp [hz], ?_⟩
        exact .str (s := [c]) (strOk_get ok (List.mem_of_getElem? hz))
  | _ => exact P.elim
theorem ri_keys (he : RE X G e ea) : RI X G tg e (Mn.iKeys ea) := by
  refine (pi_keys he).weak fun σ H R h => ?_
  refine tI_of h fun d m1 ι1 H1 v S1 r P => ?_
  cases d with
  | ref i =>
    dsimp only at P
    cases em : m1[i]? with
    | none => rw [em] at P; exact (P : False).elim
    | some ob =>
      obtain ⟨a, rfl, ia, ro⟩ := S1.obj em r
      cases ob with
      | dct lk kvs =>
        cases lk with
        | false => rw [em] at P; exact (P : False).elim
        | true =>
          simp only [em] at P
          obtain ⟨ks, od, q, hr⟩ := ro
          have hlen : (keysOf kvs).length = ks.length := by unfold keysOf; rw [List.length_map]; exact Paired.length hr
          refine ⟨a, od, rfl, .inl ⟨ks, q, P ι1 H1 _ (List.prefix_refl _) (Le.refl _) S1 ⟨⟨fun j H hj hG => ?_, fun H hG => ?_, fun j H x H' hj hG y => ?_⟩⟩⟩⟩
          · obtain ⟨ι2, m2, l2, p2, S2, hc⟩ := hG
            exact ⟨l2.frz _ _ _ q, by rw [← hlen]; exact hj⟩
          · obtain ⟨ι2, m2, l2, p2, S2, hc⟩ := hG
            exact ⟨l2.frz _ _ _ q, Nat.le_of_eq hlen.symm⟩
          · intro ι2 m2 l2 p2 S2 hc
            obtain ⟨rfl, k, w, hx, rfl⟩ := y
            have hk := keys_rel hr
            have hd : (keysOf kvs)[j]? = some (keysOf kvs)[j] := by simp [hj]
            obtain ⟨w', e1, rd⟩ := hk.get hd
            rw [List.getElem?_map, hx] at e1
            cases e1
            exact ⟨Le.refl _, S2, fun _ _ => rfl, _, hd, RD.mono p2 l2 _ _ rd⟩
      | _ => rw [em] at P; exact (P : False).elim
  | _ => exact P.elim
theorem one_arg {ea : ME} {σ : L2.St} {H : Hp} {Q : VK} {R : List V → Hp → Prop} (h : tE X G ea σ H Q) (k : ∀ v H, Q v H → R [v] H) : tA X G (aCons ea aNil) σ H R := by
  obtain ⟨ι, m, ρ, S, E, P⟩ := h
  refine ⟨ι, m, ρ, S, E, ?_⟩
  unfold aCons aNil
  cases e1 : ea ρ m with
  | ok d m1 =>
    rw [e1] at P
    intro ι1 H1 vs p1 l1 S1 rs
    cases rs with
    | cons r t => cases t; exact k _ _ (P ι1 H1 _ p1 l1 S1 r)
  | exc _ _ => rw [e1] at P; exact P
  | bad => rw [e1] at P; exact P
theorem rng_ok {ι : List Addr} {H0 : Hp} {lo : Int} {n : Nat} : ItOk X G ι H0 (rng lo n) (fun _ => true) (Itr lo n) := by
  have hl : (rng lo n).length = n := by simp [rng]
  refine ⟨⟨fun j H hj hG => by rw [hl] at hj; exact hj, fun H hG => by rw [hl]; exact Nat.le_refl _, fun j H x H' hj hG y => ?_⟩⟩
  intro ι2 m2 l2 p2 S2 hc
  obtain ⟨rfl, rfl⟩ := y
  rw [hl] at hj
  exact ⟨Le.refl _, S2, fun _ _ => rfl, .int (lo + (j : Int)), by simp [rng, hj], .int _⟩
theorem ri_rng1 (hg : Gl X "range") (hm : X.mg "range" = none) (he : RE X G e ea) (hs : starEach [e] X.env = [(false, eval e X.env)] := by rfl) : RI X G tg (.Call (.Name "range" p) [e] [] pos) (Mn.iRng1 ea) := by
  refine (pi_range1 hg hm (ra_cons he ra_nil hs) hs).weak fun σ H R h => ?_
  refine one_arg (tI_of (Q := fun v H1 => ∃ j : Int, v = .int j ∧ -(2 ^ 62) ≤ j ∧ j < 2 ^ 62 ∧ R (Itr 0 j.toNat) H1) h fun d m1 ι1 H1 v S1 r P => ?_) fun v H1 ⟨j, h1, h2, h3, h4⟩ => ⟨j, by rw [h1], h2, h3, h4⟩
  cases d with
  | int j =>
    dsimp only at P
    split at P
    · rename_i q m' heq
      split at heq
      · rename_i hc
        cases heq
        cases r
        exact ⟨j, rfl, by omega, by omega, P ι1 H1 _ (List.prefix_refl _) (Le.refl _) S1 rng_ok⟩
      · cases heq
    · rename_i heq
      split at heq <;> cases heq
    · exact P.elim
  | _ => exact P.elim
theorem size3 {j : Int} (h0 : 0 ≤ j) : Builtin.Range.rangeSize 0 j 3 = (((j.toNat + 2) / 3 : Nat) : Int) := by
  obtain ⟨n, rfl⟩ := Int.eq_ofNat_of_zero_le h0
  unfold Builtin.Range.rangeSize
  simp
  omega
theorem ri_rng3 {es : List Expr} {ma : MA} (hg : Gl X "range") (hm : X.mg "range" = none) (ha : RA X G [e, e2, e3] ma)
    (hs : starEach [e, e2, e3] X.env = (false, eval e X.env) :: starEach [e2, e3] X.env := by rfl)
    (hpl : (backTo pos (starEach [e2, e3] X.env)).any (·.1) = false := by rfl) : RI X G tg (.Call (.Name "range" p) [e, e2, e3] [] pos) (Mn.iRng3 ma) := by
  refine (pi_range3 hg hm ha hs hpl).weak fun σ H T h => ?_
  refine tI_ofA h fun d m1 ι1 H1 v S1 r P => ?_
  split at P
  · rename_i q m' heq
    split at heq
    · rename_i j
      split at heq
      · rename_i hc
        cases heq
        cases r with
        | cons r1 r =>
          cases r with
          | cons r2 r =>
            cases r with
            | cons r3 r =>
              cases r; cases r1; cases r2; cases r3
              refine ⟨0, j, 3, (j.toNat + 2) / 3, rfl, ⟨by decide, by decide, ?_, size3 hc.1⟩, P ι1 H1 _ (List.prefix_refl _) (Le.refl _) S1 ?_⟩
              · have e3 := size3 hc.1
                unfold Builtin.Range.small
                rw [e3]
                simp only [Builtin.Range.rangeFitsLong, Bool.and_eq_true, Bool.or_eq_true, decide_eq_true_eq, beq_iff_eq, show (3 : Int) > 0 by decide, if_true]
                omega
              · have hl : ((List.range ((j.toNat + 2) / 3)).map fun (k : Nat) => D.int ((k : Int) * 3)).length = (j.toNat + 2) / 3 := by simp
                refine ⟨⟨fun k H hj hG => by rw [hl] at hj; exact hj, fun H hG => by rw [hl]; exact Nat.le_refl _, fun k H x H' hj hG y => ?_⟩⟩
                intro ι2 m2 l2 p2 S2 hc
                obtain ⟨rfl, rfl⟩ := y
                rw [hl] at hj
                exact ⟨Le.refl _, S2, fun _ _ => rfl, .int (0 + (k : Int) * 3), by simp [hj], .int _⟩
      · cases heq
    · cases heq
  · rename_i heq
    split at heq
    · split at heq <;> cases heq
    · cases heq
  · exact P.elim
theorem numbered_at : ∀ (ds : List D) (n i : Nat) (d : D), ds[i]? = some d → (numbered n ds)[i]? = some (.tup [.int ((n + i : Nat) : Int), d])
  | [], _, _, _, h => by simp at h
  | x :: r, n, 0, d, h => by simp at h; subst h; simp [numbered]
  | x :: r, n, i + 1, d, h => by
    have := numbered_at r (n + 1) i d (by simpa using h)
    simp only [numbered, List.getElem?_cons_succ]
    rw [this]
    congr 5
    omega
theorem numbered_len : ∀ (ds : List D) (n : Nat), (numbered n ds).length = ds.length
  | [], _ => rfl
  | x :: r, n => by simp [numbered, numbered_len r]
theorem ri_enum {elts : List Expr} {kk : Nat} {tpos : Pos} (hg : Gl X "enumerate") (hm : X.mg "enumerate" = none) (he : RE X G e ea) (hs : starEach [e] X.env = [(false, eval e X.env)] := by rfl) : RI X G (.Tuple elts kk tpos) (.Call (.Name "enumerate" p) [e] [] pos) (Mn.iEnum ea) := by
  refine (pi_enum hg hm (ra_cons he ra_nil hs) hs).weak fun σ H T h => ?_
  refine one_arg (tI_of (Q := fun v H1 => ∃ a xs, v = .ref a ∧ SqL X.K H1 a xs ∧ T (Ite X.K a) H1) h fun d m1 ι1 H1 v S1 r P => ?_) fun v H1 ⟨a, xs, h1, h2, h3⟩ => ⟨a, xs, by rw [h1], h2, h3⟩
  cases d with
  | ref i =>
    dsimp only at P
    cases em : m1[i]? with
    | none => rw [em] at P; exact (P : False).elim
    | some ob =>
      obtain ⟨a, rfl, ia, ro⟩ := S1.obj em r
      cases ob with
      | lst ds =>
        simp only [em] at P
        obtain ⟨vs, q, hr⟩ := ro
        have hl0 := numbered_len ds 0
        refine ⟨a, vs, rfl, SqL.of q, P ι1 H1 _ (List.prefix_refl _) (Le.refl _) S1 ⟨⟨fun j H hj hG => ?_, fun H hG => ?_, fun j H x H' hj hG y => ?_⟩⟩⟩
        · obtain ⟨ι2, m2, _, p2, S2, hc⟩ := hG
          obtain ⟨ws, q2, hr2⟩ := S2.ob i _ a (of_decide_eq_true hc) (pre_get p2 ia)
          have hl : j < ws.length := by rw [← hr2.length, ← hl0]; exact hj
          exact ⟨ws, ws[j], SqL.of q2, by simp [hl]⟩
        · obtain ⟨ι2, m2, _, p2, S2, hc⟩ := hG
          obtain ⟨ws, q2, hr2⟩ := S2.ob i _ a (of_decide_eq_true hc) (pre_get p2 ia)
          exact ⟨ws, SqL.of q2, by show ws.length ≤ (numbered 0 ds).length; rw [hl0, hr2.length]; exact Nat.le_refl _⟩
        · intro ι2 m2 l2 p2 S2 hc
          obtain ⟨T', w, rfl, hn, rfl, hx⟩ := y
          obtain ⟨ws, q2, hr2⟩ := S2.ob i _ a (of_decide_eq_true hc) (pre_get p2 ia)
          have hj' : j < ds.length := by rw [← hl0]; exact hj
          have hd : ds[j]? = some ds[j] := by simp [hj']
          obtain ⟨w', e1, rd⟩ := hr2.get hd
          have e3 := hx ws (SqL.of q2)
          rw [e1] at e3
          obtain rfl := Option.some.inj e3
          have l3 := Le.new (ι := ι2) (ι' := ι2) (o := .tup [.int ((j : Nat) : Int), w']) hn
          refine ⟨l3, S2.fresh hn, fun b hb => upd_ne fun z => hb (z ▸ hn), _, numbered_at ds 0 j _ hd, .tup (SqT.of upd_same) (.cons ?_ (.cons (RD.mono (List.prefix_refl _) l3 _ _ rd) .nil))⟩
          rw [Nat.zero_add]
          exact .int _
      | _ => rw [em] at P; exact (P : False).elim
  | _ => exact (P : False).elim
/-! ### for -/
theorem rs_for {g : MG} {it : MI} {body : List Stmt} {s : MS} (hp : PassesOwn (model X.prog X.w) X.A X.env X.xe) (hc : X.calm = true) (hi : RI X G tg e it) (hg : RG X G tg g) (hb : RSs X G body s)
    (hs : ∀ x, foldedSetIterable e X.env x = pure x := by intro _; rfl) : RS X G (.For tg e body [] pos) (Mn.sFor g it s) := by
  refine (ps_for hp hc hi hg hb hs).weak fun D0 σ H ⟨ι, m, ρ, S, E, P⟩ => ?_
  refine ⟨ι, m, ρ, S, E, ?_⟩
  unfold Mn.sFor at P
  cases ei : it ρ m with
  | bad => rw [ei] at P; exact P
  | exc x m1 => rw [ei] at P; exact fun i2 H2 c dd p l S2 r => P i2 H2 σ c dd p l S2 (E.mono p l) r
  | ok q m1 =>
    obtain ⟨ds, chk⟩ := q
    rw [ei] at P
    simp only [R.toS_ok] at P
    intro ι1 H1 J p1 l1 S1 io
    dsimp only at io
    have goOk : ∀ {ds : List D} {ρ : Fr} {m : M} {ι : List Addr} {H : Hp}, PostS X G ι H D0 (forGo g chk s ds ρ m) → chk m = true := fun {ds ρ m ι H} h => by
      cases hk : chk m with
      | true => rfl
      | false => cases ds <;> (simp only [forGo, hk] at h; exact (h : False).elim)
    refine for_it io.walk (fun i σ2 H2 => i ≤ ds.length ∧ ∃ ι2 m2 ρ2, ι1 <+: ι2 ∧ Le ι1 ι2 H1 H2 ∧ Sim G X.K ι2 H2 m2 ∧ Ev X.K ι2 H2 ρ2 σ2 ∧ PostS X G ι2 H2 D0 (forGo g chk s (ds.drop i) ρ2 m2))
      ⟨Nat.zero_le _, ι1, m1, ρ, List.prefix_refl _, Le.refl _, S1, E.mono p1 l1, by rw [List.drop_zero]; exact PostS.up p1 l1 P⟩ ?_ ?_ ?_
    · rintro i σ2 H2 _ ⟨hi, ι2, m2, ρ2, p2, l2, S2, E2, P2⟩
      exact ⟨ι2, m2, l2, p2, S2, goOk P2⟩
    · rintro i x σ2 H2 H3 hi ⟨_, ι2, m2, ρ2, p2, l2, S2, E2, P2⟩ y
      have hk := goOk P2
      obtain ⟨l3, S3, keep, d, hd, rd⟩ := y ι2 m2 l2 p2 S2 hk
      have hdr : ds.drop i = d :: ds.drop (i + 1) := by
        rw [List.drop_eq_getElem_cons hi]
        have : ds[i] = d := by rw [List.getElem?_eq_getElem hi] at hd; exact Option.some.inj hd
        rw [this]
      rw [hdr] at P2
      simp only [forGo, hk, if_true] at P2
      refine ⟨ι2, m2, ρ2, d, S3, E2.mono (List.prefix_refl _) l3, rd, ?_⟩
      cases eg : g d ρ2 m2 with
      | bad => rw [eg] at P2; exact P2
      | exc _ _ => rw [eg] at P2; exact P2
      | ok ρ3 m3 =>
        rw [eg] at P2
        intro ι4 H4 σ4 p4 l4 S4 E4
        refine ⟨ι4, m3, ρ3, S4, E4, ?_⟩
        dsimp only at P2
        have P3 := PostS.up p4 (l3.trans l4) P2
        cases es : s ρ3 m3 with
        | nx ρ5 m5 =>
          rw [es] at P3
          exact fun ι5 H5 σ5 p5 l5 S5 E5 => ⟨hi, ι5, m5, ρ5, (p2.trans p4).trans p5, ((l2.trans l3).trans l4).trans l5, S5, E5, PostS.up p5 l5 P3⟩
        | ct ρ5 m5 =>
          rw [es] at P3
          exact fun ι5 H5 σ5 p5 l5 S5 E5 => ⟨hi, ι5, m5, ρ5, (p2.trans p4).trans p5, ((l2.trans l3).trans l4).trans l5, S5, E5, PostS.up p5 l5 P3⟩
        | bk ρ5 m5 => rw [es] at P3; exact P3
        | rt d5 m5 => rw [es] at P3; exact P3
        | exc x5 ρ5 m5 => rw [es] at P3; exact P3
        | bad => rw [es] at P3; exact P3
    · rintro σ2 H2 ⟨_, ι2, m2, ρ2, p2, l2, S2, E2, P2⟩
      have hk := goOk P2
      rw [List.drop_length] at P2
      simp only [forGo, hk, if_true] at P2
      exact P2 ι2 H2 σ2 (List.prefix_refl _) (Le.refl _) S2 E2
/-! ### the lock of a dict that is walked -/
theorem _root_.L2.PS.or {X : Cx} {st : Stmt} {t t' : TS} (h : PS X st t) (h' : PS X st t') : PS X st (fun D σ H => t D σ H ∨ t' D σ H) := ⟨fun pins s σ H D I q => q.elim (h.run pins s σ H D I) (h'.run pins s σ H D I)⟩
theorem _root_.L2.PE.or {X : Cx} {e : Expr} {t t' : TE} (h : PE X e t) (h' : PE X e t') : PE X e (fun σ H Q => t σ H Q ∨ t' σ H Q) := ⟨fun pins s σ H Q I q => q.elim (h.run pins s σ H Q I) (h'.run pins s σ H Q I)⟩
section
variable {ι ι' : List Addr} {H H' : Hp} {m m' : M} {K : PySem.W.Frag}
/-- a dict is locked -/
theorem Sim.lock {i : Nat} {a : Addr} {kvs : List (Ky × D)} {ks : List (Key × V)} {od : Obj} (S : Sim G K ι H m) (em : m[i]? = some (.dct false kvs)) (ia : ι[i]? = some a) (q : H a = some (.dK ks)) (hr : RKvs K ι H kvs ks) :
    Le ι ι H (upd H a (.frz od (.dK ks))) ∧ Sim G K ι (upd H a (.frz od (.dK ks))) (m.set i (.dct true kvs)) := by
  have l : Le ι ι H (upd H a (.frz od (.dK ks))) := Le.mut q (fun _ z => nomatch z) (fun _ _ z => nomatch z)
  exact ⟨l, S.set ia l ⟨ks, od, upd_same, hr.mono (List.prefix_refl _) l⟩⟩
/-- and open again: what was tracked ahead of the lock stands -/
theorem Sim.unlock {i : Nat} {a : Addr} {kvs : List (Ky × D)} {ks : List (Key × V)} {od : Obj} (q : H a = some (.dK ks)) (l : Le ι ι' (upd H a (.frz od (.dK ks))) H') (p : ι <+: ι') (ia : ι[i]? = some a) (S' : Sim G K ι' H' m') (em : m'[i]? = some (.dct true kvs)) :
    H' a = some (.frz od (.dK ks)) ∧ Le ι ι' H (upd H' a (.dK ks)) ∧ Sim G K ι' (upd H' a (.dK ks)) (m'.set i (.dct false kvs)) ∧
      (∀ d v, RD K ι' H' d v → RD K ι' (upd H' a (.dK ks)) d v) ∧ ∀ ρ σ, Ev K ι' H' ρ σ → Ev K ι' (upd H' a (.dK ks)) ρ σ := by
  have e1 : H' a = some (.frz od (.dK ks)) := l.frz _ _ _ upd_same
  obtain ⟨ks', od', e2, hr⟩ := S'.ob i _ a em (pre_get p ia)
  rw [e1] at e2
  cases e2
  -- tuples and frozen lists stand
  have tupK : ∀ b xs, H' b = some (.tup xs) → upd H' a (.dK ks) b = some (.tup xs) := fun b xs h => by
    rw [upd_ne (by rintro rfl; rw [e1] at h; cases h)]; exact h
  have frzK : ∀ b o u, b ≠ a → H' b = some (.frz o u) → upd H' a (.dK ks) b = some (.frz o u) := fun b o u hb h => by rw [upd_ne hb]; exact h
  have sq : ∀ b xs, SqT K H' b xs → SqT K (upd H' a (.dK ks)) b xs := fun b xs h => by
    rcases h with (h | ⟨o, h⟩) | h
    · exact .inl (.inl (tupK _ _ h))
    · exact .inl (.inr ⟨o, frzK _ _ _ (by rintro rfl; rw [e1] at h; cases h) h⟩)
    · exact .inr h
  have fz : ∀ b xs, Frz K H' b xs → Frz K (upd H' a (.dK ks)) b xs := fun b xs h => by
    rcases h with ⟨o, h⟩ | h
    · exact .inl ⟨o, frzK _ _ _ (by rintro rfl; rw [e1] at h; cases h) h⟩
    · exact .inr h
  have rd : ∀ d v, RD K ι' H' d v → RD K ι' (upd H' a (.dK ks)) d v := fun d v => rd_of sq fz d v
  have l2 : Le ι ι' H (upd H' a (.dK ks)) := by
    refine ⟨fun b xs h => ?_, fun b o u h => ?_, fun b hb hn => ?_, fun b h1 h2 => ?_⟩
    · have hb : b ≠ a := by rintro rfl; rw [q] at h; cases h
      rw [upd_ne hb]
      exact l.tup _ _ (by rw [upd_ne hb]; exact h)
    · have hb : b ≠ a := by rintro rfl; rw [q] at h; cases h
      rw [upd_ne hb]
      exact l.frz _ _ _ (by rw [upd_ne hb]; exact h)
    · have hne : b ≠ a := fun z => hb (z ▸ List.mem_of_getElem? ia)
      rw [upd_ne hne, l.frm b hb (by rw [upd_ne hne]; exact hn), upd_ne hne]
    · have hne : b ≠ a := fun z => h2 (z ▸ List.mem_of_getElem? ia)
      have := l.nw b h1 h2
      rwa [upd_ne hne] at this
  refine ⟨e1, l2, ?_, rd, fun ρ σ E => ⟨E.len, fun j d e => let ⟨v, h1, h2⟩ := E.at' j d e; ⟨v, h1, rd _ _ h2⟩⟩⟩
  have ia' := pre_get p ia
  have hi : i < ι'.length := (List.getElem?_eq_some_iff.mp ia').1
  refine ⟨by simp [S'.len], S'.nd, fun j o' b h1 h2 => ?_⟩
  by_cases hj : i = j
  · subst hj
    rw [ia'] at h2; cases h2
    rw [List.getElem?_set_self (by rw [← S'.len]; exact hi)] at h1
    cases h1
    exact ⟨ks, upd_same, rkvs_of rd hr⟩
  · rw [List.getElem?_set_ne hj] at h1
    have hb : b ≠ a := by rintro rfl; exact hj (nd_ix S'.nd ia' h2)
    exact ro_of rd (upd_ne hb) (S'.ob j o' b h1 h2)
end
end
end Mn
end

section
set_option Elab.async false
set_option linter.all false
set_option maxRecDepth 100000
set_option maxHeartbeats 2000000
namespace Mn
open PySem PySem.Spec L2 TL
section
variable {X : Cx} {G : Tb} {e : Expr} {ea ex : ME} {st : Stmt} {s : MS}
/-- what the lock's statement asks -/
theorem rs_lock (h : RS X G st s) : RS X G st (sLock ea s) := by
  refine ((ps_lock h).or h).weak fun D0 σ H ⟨ι, m, ρ, S, E, P⟩ => ?_
  unfold sLock at P
  cases e1 : ea ρ m with
  | bad => rw [e1] at P; exact (P : False).elim
  | exc _ _ => rw [e1] at P; exact (P : False).elim
  | ok d m0 =>
    rw [e1] at P
    cases d with
    | ref i =>
      dsimp only at P
      cases em : m[i]? with
      | none => rw [em] at P; exact (P : False).elim
      | some ob =>
        cases ob with
        | dct lk kvs =>
          cases lk with
          | true => rw [em] at P; exact .inr ⟨ι, m, ρ, S, E, P⟩
          | false =>
            rw [em] at P
            dsimp only at P
            obtain ⟨a, ia, ro⟩ := S.at em
            obtain ⟨ks, q, hr⟩ := ro
            refine .inl ⟨a, _, q, trivial, fun od => ?_⟩
            obtain ⟨l1, S1⟩ := S.lock (od := od) em ia q hr
            refine ⟨ι, _, ρ, S1, E.mono (List.prefix_refl _) l1, ?_⟩
            cases es : s ρ (m.set i (.dct true kvs)) with
            | bad => rw [es] at P; exact P
            | exc x ρ2 m2 => rw [es] at P; exact fun ι' H' σ' c dd p l S' E' r => P ι' H' σ' c dd p (l1.trans l) S' E' r
            | nx ρ2 m2 =>
              rw [es] at P
              dsimp only at P
              intro ι' H' σ' p l S' E'
              split at P
              · rename_i hk
                obtain ⟨g1, g2, g3, g4, g5⟩ := Sim.unlock q l p ia S' (of_decide_eq_true hk)
                exact ⟨g1, P ι' _ σ' p g2 g3 (g5 _ _ E')⟩
              · exact P.elim
            | rt d2 m2 =>
              rw [es] at P
              dsimp only at P
              intro ι' H' v p l S' r'
              split at P
              · rename_i hk
                obtain ⟨g1, g2, g3, g4, g5⟩ := Sim.unlock q l p ia S' (of_decide_eq_true hk)
                exact ⟨g1, P ι' _ v p g2 g3 (g4 _ _ r')⟩
              · exact P.elim
            | bk ρ2 m2 =>
              rw [es] at P
              dsimp only at P
              intro ι' H' σ' p l S' E'
              split at P
              · rename_i hk
                obtain ⟨g1, g2, g3, g4, g5⟩ := Sim.unlock q l p ia S' (of_decide_eq_true hk)
                exact ⟨g1, P ι' _ σ' p g2 g3 (g5 _ _ E')⟩
              · exact P.elim
            | ct ρ2 m2 =>
              rw [es] at P
              dsimp only at P
              intro ι' H' σ' p l S' E'
              split at P
              · rename_i hk
                obtain ⟨g1, g2, g3, g4, g5⟩ := Sim.unlock q l p ia S' (of_decide_eq_true hk)
                exact ⟨g1, P ι' _ σ' p g2 g3 (g5 _ _ E')⟩
              · exact P.elim
        | _ => rw [em] at P; exact (P : False).elim
    | _ => exact (P : False).elim
theorem re_lock (h : RE X G e ex) : RE X G e (eLock ea ex) := by
  refine ((pe_lock h).or h).weak fun σ H Q ⟨ι, m, ρ, S, E, P⟩ => ?_
  unfold eLock at P
  cases e1 : ea ρ m with
  | bad => rw [e1] at P; exact (P : False).elim
  | exc _ _ => rw [e1] at P; exact (P : False).elim
  | ok d m0 =>
    rw [e1] at P
    cases d with
    | ref i =>
      dsimp only at P
      cases em : m[i]? with
      | none => rw [em] at P; exact (P : False).elim
      | some ob =>
        cases ob with
        | dct lk kvs =>
          cases lk with
          | true => rw [em] at P; exact .inr ⟨ι, m, ρ, S, E, P⟩
          | false =>
            rw [em] at P
            dsimp only at P
            obtain ⟨a, ia, ro⟩ := S.at em
            obtain ⟨ks, q, hr⟩ := ro
            refine .inl ⟨a, _, q, trivial, fun od => ?_⟩
            obtain ⟨l1, S1⟩ := S.lock (od := od) em ia q hr
            refine ⟨ι, _, ρ, S1, E.mono (List.prefix_refl _) l1, ?_⟩
            cases es : ex ρ (m.set i (.dct true kvs)) with
            | bad => rw [es] at P; exact P
            | exc x m2 => rw [es] at P; exact fun ι' H' c dd p l S' r => P ι' H' c dd p (l1.trans l) S' r
            | ok d2 m2 =>
              rw [es] at P
              simp only [R.bind_ok] at P
              intro ι' H' v p l S' r'
              split at P
              · rename_i hk
                obtain ⟨g1, g2, g3, g4, g5⟩ := Sim.unlock q l p ia S' (of_decide_eq_true hk)
                exact ⟨g1, P ι' _ v p g2 g3 (g4 _ _ r')⟩
              · exact P.elim
        | _ => rw [em] at P; exact (P : False).elim
    | _ => exact (P : False).elim
end
/-! ### comprehensions -/
section
variable {X : Cx} {G : Tb}
def tE0 (X : Cx) (G : Tb) (e : ME) : TE := fun σ H Q => ∃ ι m ρ, Sim G X.K ι H m ∧ Ev X.K ι H ρ σ ∧ P0 X G ι H (rD X) (e ρ m) Q
def tT0 (X : Cx) (G : Tb) (e : MT) : TT := fun σ H Q => ∃ ι m ρ, Sim G X.K ι H m ∧ Ev X.K ι H ρ σ ∧ P0 X G ι H rB (e ρ m) Q
theorem P0.post {α β : Type} {rel : Rel α β} {r : R α} {Q : β → Hp → Prop} {ι : List Addr} {H : Hp} {σ : L2.St} (h : P0 X G ι H rel r Q) : Post X G ι H σ rel r Q := by
  cases r with
  | ok d m => exact h
  | exc x m => exact (h : False).elim
  | bad => exact h
theorem re_zero {e : Expr} {ea : ME} (h : RE X G e ea) : PE X e (tE0 X G ea) := h.weak fun σ H Q ⟨ι, m, ρ, S, E, P⟩ => ⟨ι, m, ρ, S, E, P.post⟩
theorem rt_zero {e : Expr} {ea : MT} (h : RT X G e ea) : PT X e (tT0 X G ea) := h.weak fun σ H Q ⟨ι, m, ρ, S, E, P⟩ => ⟨ι, m, ρ, S, E, P.post⟩
/-- the tests of a clause: none, or one -/
def RTs (X : Cx) (G : Tb) (ifs : List Expr) (t : MT) : Prop := PTs X ifs (tT0 X G t)
theorem _root_.L2.PTs.weak {e : List Expr} {t t' : TT} (h : PTs X e t) (k : ∀ σ H Q, t' σ H Q → t σ H Q) : PTs X e t' := ⟨fun pins s σ H Q I q => h.run pins s σ H Q I (k σ H Q q)⟩
theorem rts_nil : RTs X G [] Mn.tYes := pts_nil.weak fun σ H Q ⟨ι, m, ρ, S, E, P⟩ => P.okI true S rfl
theorem rts_one {c : Expr} {t : MT} (h : RT X G c t) : RTs X G [c] t := pts_one (rt_zero h)
theorem wipe_ev {K : PySem.W.Frag} {ι : List Addr} {H : Hp} {ρ : Fr} {σ : L2.St} {i : Nat} {d : D} {v : V} (E : Ev K ι H ρ σ) (r : RD K ι H d v) : Ev K ι H (ρ.set i (some d)) ((wipe σ [i]).set i (some v)) := by
  have e : (wipe σ [i]).set i (some v) = σ.set i (some v) := by simp [wipe]
  rw [e]
  exact E.set i r
mutual
theorem rd_pre {K : PySem.W.Frag} {ι ι' : List Addr} {H : Hp} (p : ι <+: ι') : ∀ (d : D) (v : V), RD K ι H d v → RD K ι' H d v
  | .non, _, h => by cases h; exact .non
  | .bl b, _, h => by cases h; exact .bl b
  | .int i, _, h => by cases h; exact .int i
  | .str s, _, h => by cases h with | str ok => exact .str ok
  | .tup ds, _, h => by cases h with | tup h1 h2 => exact .tup h1 (rds_pre p ds _ h2)
  | .fls ds, _, h => by cases h with | fls h1 h2 => exact .fls h1 (rds_pre p ds _ h2)
  | .ref i, _, h => by cases h with | ref h1 => exact .ref (pre_get p h1)
  | .adr a, _, h => by cases h; exact .adr a
  | .exn a d i, _, h => by cases h with | exn _ h1 => exact .exn a (pre_get p h1)
theorem rds_pre {K : PySem.W.Frag} {ι ι' : List Addr} {H : Hp} (p : ι <+: ι') : ∀ (ds : List D) (vs : List V), RDs K ι H ds vs → RDs K ι' H ds vs
  | [], _, h => by cases h; exact .nil
  | d :: ds, _, h => by cases h with | cons h1 h2 => exact .cons (rd_pre p d _ h1) (rds_pre p ds _ h2)
end
theorem Le.past {ι ι' : List Addr} {H H' : Hp} {p : Addr} {o : HO} (l : Le ι ι' H H') (hp : H p = none) : Le ι ι' H (upd H' p o) :=
  ⟨fun b xs h => by rw [upd_ne (ne_of_none h hp)]; exact l.tup _ _ h, fun b o u h => by rw [upd_ne (ne_of_none h hp)]; exact l.frz _ _ _ h, fun b hb hn => by rw [upd_ne (show b ≠ p from fun z => hn (by rw [z]; exact hp))]; exact l.frm b hb hn, l.nw⟩
/-- a list that is not ours is written -/
theorem Sim.aside {K : PySem.W.Frag} {ι : List Addr} {H : Hp} {m : M} {L : Addr} {ws zs : List V} (S : Sim G K ι H m) (nL : L ∉ ι) (hw : H L = some (.lst ws)) :
    Sim G K ι (upd H L (.lst zs)) m ∧ ∀ d v, RD K ι H d v → RD K ι (upd H L (.lst zs)) d v := by
  have rd : ∀ d v, RD K ι H d v → RD K ι (upd H L (.lst zs)) d v := fun d v => rd_of (fun b xs h => by
    rcases h with (h | ⟨o, h⟩) | h
    · exact .inl (.inl (by rw [upd_ne (by rintro rfl; rw [hw] at h; cases h)]; exact h))
    · exact .inl (.inr ⟨o, by rw [upd_ne (by rintro rfl; rw [hw] at h; cases h)]; exact h⟩)
    · exact .inr h) (fun b xs h => by
    rcases h with ⟨o, h⟩ | h
    · exact .inl ⟨o, by rw [upd_ne (by rintro rfl; rw [hw] at h; cases h)]; exact h⟩
    · exact .inr h) d v
  exact ⟨⟨S.len, S.nd, fun i o a e1 e2 => ro_of rd (upd_ne fun z => nL (z ▸ List.mem_of_getElem? e2)) (S.ob i o a e1 e2)⟩, rd⟩
theorem Sim.adopt {K : PySem.W.Frag} {ι : List Addr} {H : Hp} {m : M} {L : Addr} {ws : List V} {acc : List D} (S : Sim G K ι H m) (nL : L ∉ ι) (hw : H L = some (.lst ws)) (r : RDs K ι H acc ws) : Sim G K (ι ++ [L]) H (m ++ [.lst acc]) := by
  refine ⟨by simp [S.len], ?_, fun i o' a e1 e2 => ?_⟩
  · rw [List.nodup_append]
    refine ⟨S.nd, by simp, fun a ha b hb => ?_⟩
    rw [List.mem_singleton] at hb
    subst hb
    rintro rfl
    exact nL ha
  · have up : ∀ {a : Addr} {o : O}, RO G K ι H a o → RO G K (ι ++ [L]) H a o := fun {a o} h => by
      cases o with
      | lst ds => obtain ⟨vs, q, r⟩ := h; exact ⟨vs, q, rds_pre pre_snoc _ _ r⟩
      | dct lk kvs =>
        cases lk with
        | false => obtain ⟨ks, q, r⟩ := h; exact ⟨ks, q, Paired.mapP r fun _ _ z => ⟨z.1, z.2.1, rd_pre pre_snoc _ _ z.2.2⟩⟩
        | true => obtain ⟨ks, o, q, r⟩ := h; exact ⟨ks, o, q, Paired.mapP r fun _ _ z => ⟨z.1, z.2.1, rd_pre pre_snoc _ _ z.2.2⟩⟩
      | ins C fs => obtain ⟨dx, ls, q, r⟩ := h; exact ⟨dx, ls, q, Paired.mapP r fun _ _ z => ⟨z.1, rd_pre pre_snoc _ _ z.2⟩⟩
      | xdc fs => obtain ⟨ls, q, r⟩ := h; exact ⟨ls, q, Paired.mapP r fun _ _ z => ⟨z.1, rd_pre pre_snoc _ _ z.2⟩⟩
    by_cases hi : i < m.length
    · rw [List.getElem?_append_left hi] at e1
      rw [List.getElem?_append_left (by rw [S.len]; exact hi)] at e2
      exact up (S.ob i o' a e1 e2)
    · have e3 : i = m.length := by
        have := (List.getElem?_eq_some_iff.mp e1).1
        simp at this; omega
      subst e3
      rw [List.getElem?_concat_length] at e1
      rw [← S.len, List.getElem?_concat_length] at e2
      cases e1; cases e2
      exact up (o := .lst acc) ⟨ws, hw, r⟩
theorem le_lc {i : Nat} {it : MI} {t : MT} {el : ME} {σ : L2.St} {H : Hp} {Q : VK} (h : tE X G (eLc i it t el) σ H Q) : tLc (tI X G it) (gName i) (tT0 X G t) (tE0 X G el) [i] σ H Q := by
  obtain ⟨ι, m, ρ, S, E, P⟩ := h
  refine ⟨ι, m, ρ, S, E, ?_⟩
  unfold eLc at P
  cases ei : it ρ m with
  | bad => rw [ei] at P; exact P
  | exc x m1 => rw [ei] at P; exact P
  | ok q m1 =>
    obtain ⟨ds, chk⟩ := q
    rw [ei] at P
    simp only [R.bind_ok] at P
    intro ι1 H1 J p1 l1 S1 io L hL
    dsimp only at io
    split at P
    rotate_left
    · exact P.elim
    rename_i hlim
    cases eg : lcGo i ρ chk t el ds [] m1 with
    | bad => rw [eg] at P; exact (P : False).elim
    | exc _ _ => rw [eg] at P; exact (P : False).elim
    | ok vs mE =>
      rw [eg] at P
      dsimp only at P
      have goOk : ∀ {ds acc : List D} {m m' : M} {vs : List D}, lcGo i ρ chk t el ds acc m = .ok vs m' → chk m = true := fun {ds acc m m' vs} h => by
        cases hk : chk m with
        | true => rfl
        | false => cases ds <;> simp [lcGo, hk] at h
      refine lc_it (σ := σ) io.walk (fun k H2 => k ≤ ds.length ∧ ∃ ι2 m2 acc ws, ι1 <+: ι2 ∧ Le ι1 ι2 H1 H2 ∧ Sim G X.K ι2 H2 m2 ∧ L ∉ ι2 ∧ H2 L = some (.lst ws) ∧ RDs X.K ι2 H2 acc ws ∧ acc.length ≤ k ∧ lcGo i ρ chk t el (ds.drop k) acc m2 = .ok vs mE) ?_ ?_ ?_ ?_
      · have l2 := Le.new (ι := ι1) (ι' := ι1) (o := .lst []) hL
        exact ⟨Nat.zero_le _, ι1, m1, [], [], List.prefix_refl _, l2, S1.fresh hL, S1.out hL, upd_same, .nil, Nat.le_refl _, by rw [List.drop_zero]; exact eg⟩
      · rintro k H2 _ ⟨_, ι2, m2, acc, ws, p2, l2, S2, _, _, _, _, go⟩
        exact ⟨ι2, m2, l2, p2, S2, goOk go⟩
      · rintro k x H2 H3 hk ⟨_, ι2, m2, acc, ws, p2, l2, S2, nL, hw, rw', hacc, go⟩ y
        have hc := goOk go
        obtain ⟨l3, S3, keep, d, hd, rd⟩ := y ι2 m2 l2 p2 S2 hc
        have hdr : ds.drop k = d :: ds.drop (k + 1) := by
          rw [List.drop_eq_getElem_cons hk]
          have : ds[k] = d := by rw [List.getElem?_eq_getElem hk] at hd; exact Option.some.inj hd
          rw [this]
        rw [hdr] at go
        simp only [lcGo, hc, if_true] at go
        have E3 : Ev X.K ι2 H3 ρ σ := E.mono ((p1.trans p2)) ((l1.trans l2).trans l3)
        have hw3 : H3 L = some (.lst ws) := by rw [keep L (by rw [hw]; simp)]; exact hw
        refine ⟨by simp [wipe], ι2, m2, ρ.set i (some d), S3, wipe_ev E3 rd, ?_⟩
        cases et : t (ρ.set i (some d)) m2 with
        | bad => rw [et] at go; cases go
        | exc _ _ => rw [et] at go; cases go
        | ok b m3 =>
          rw [et] at go
          simp only [R.bind_ok] at go
          intro ι4 H4 b' p4 l4 S4 hb
          subst hb
          -- the list that is made stands
          have hw4 : H4 L = some (.lst ws) := by rw [l4.frm L nL (by rw [hw3]; simp)]; exact hw3
          have nL4 : L ∉ ι4 := fun z => by have := l4.nw L z nL; rw [hw3] at this; cases this
          have rw4 := RDs.mono p4 (l3.trans l4) _ _ rw'
          cases b' with
          | false =>
            simp only [Bool.false_eq_true, if_false] at go ⊢
            exact ⟨hk, ι4, m3, acc, ws, p2.trans p4, (l2.trans l3).trans l4, S4, nL4, hw4, rw4, by omega, go⟩
          | true =>
            simp only [if_true] at go ⊢
            refine ⟨ι4, m3, ρ.set i (some d), S4, (wipe_ev E3 rd).mono p4 l4, ?_⟩
            cases ee : el (ρ.set i (some d)) m3 with
            | bad => rw [ee] at go; cases go
            | exc _ _ => rw [ee] at go; cases go
            | ok v m5 =>
              rw [ee] at go
              simp only [R.bind_ok] at go
              intro ι5 H5 y p5 l5 S5 ry
              have hw5 : H5 L = some (.lst ws) := by rw [l5.frm L nL4 (by rw [hw4]; simp)]; exact hw4
              have nL5 : L ∉ ι5 := fun z => by have := l5.nw L z nL4; rw [hw4] at this; cases this
              obtain ⟨S6, rd6⟩ := S5.aside (zs := ws ++ [y]) nL5 hw5
              refine ⟨ws, hw5, ?_, hk, ι5, m5, acc ++ [v], ws ++ [y], (p2.trans p4).trans p5, (((l2.trans l3).trans l4).trans l5).past hL, S6, nL5, upd_same, rdss_of rd6 ((RDs.mono p5 l5 _ _ rw4).app (.cons ry .nil)), by simp; omega, go⟩
              have hlw := rw'.length
              have hL' : LIM = 1000000 := rfl
              have hsz := sizeLine_eq
              omega
      · rintro H2 ⟨_, ι2, m2, acc, ws, p2, l2, S2, nL, hw, rw', hacc, go⟩
        rw [List.drop_length] at go
        have hc := goOk go
        simp only [lcGo, hc, if_true] at go
        obtain ⟨rfl, rfl⟩ : vs = acc ∧ mE = m2 := by cases go; exact ⟨rfl, rfl⟩
        have hL2 : (ι2 ++ [L])[mE.length]? = some L := by rw [← S2.len, List.getElem?_concat_length]
        have l3 : Le ι1 (ι2 ++ [L]) H1 H2 := ⟨l2.tup, l2.frz, l2.frm, fun a h1 h2 => by
          rcases List.mem_append.mp h1 with h | h
          · exact l2.nw a h h2
          · rw [List.mem_singleton.mp h]; exact hL⟩
        refine P (ι2 ++ [L]) H2 (.ref L) ((p1.trans p2).trans pre_snoc) (l1.trans l3) (S2.adopt nL hw rw') (.ref hL2)
/-- [e for x in iter if t], x in slot i -/
theorem re_lc {x : Str} {pg2 : Pos} {elt iter : Expr} {ifs : List Expr} {scope : Scope} {i : Nat} {pos : Pos} {it : MI} {t : MT} {el : ME} (hc : X.calm = true) (hN : X.N.Nodup) (hi : RI X G (.Name x pg2) iter it) (ok : BlkOk X.N X.env.scope scope [(x, i)])
    (hg : ∀ (s : Shared) (H : Hp) (C : Addr) (cl : List (Str × Addr)) (fp : List Addr), PG (X.blk s H scope (compEnvC scope cl C X.env) fp) (.Name x pg2) (gName i))
    (ht : ∀ (s : Shared) (H : Hp) (C : Addr) (cl : List (Str × Addr)) (fp : List Addr), RTs (X.blk s H scope (compEnvC scope cl C X.env) fp) G ifs t)
    (he : ∀ (s : Shared) (H : Hp) (C : Addr) (cl : List (Str × Addr)) (fp : List Addr), RE (X.blk s H scope (compEnvC scope cl C X.env) fp) G elt el) (hs : ∀ x, foldedSetIterable iter X.env x = pure x := by intro _; rfl) :
    RE X G (.ListComp elt [⟨.Name x pg2, iter, ifs, 0⟩] scope pos) (eLc i it t el) :=
  (pe_lc (own := [(x, i)]) (g := gName i) (tt := tT0 X G t) (te := tE0 X G el) hc hN hi ok hg ht (fun s H C cl fp => re_zero (he s H C cl fp)) hs).weak fun _ _ _ => le_lc
/-- y = [e for x in iter if t] on one line -/
theorem rs_setLc {x y : Str} {py pg2 : Pos} {elt iter : Expr} {ifs : List Expr} {scope : Scope} {i j : Nat} {pos spos : Pos} {it : MI} {t : MT} {el : ME} (hc : X.calm = true) (hN : X.N.Nodup) (hy : X.N[j]? = some y) (hyl : X.env.scope.names.lookup y = some .local)
    (hsw : swapsWith (.ListComp elt [⟨.Name x pg2, iter, ifs, 0⟩] scope pos) (some (.Name y py)) spos.line X.env = pure true) (hi : RI X G (.Name x pg2) iter it) (ok : BlkOk X.N X.env.scope scope [(x, i)])
    (hg : ∀ (s : Shared) (H : Hp) (C : Addr) (cl : List (Str × Addr)) (fp : List Addr), PG (X.blk s H scope (compEnvC scope cl C X.env) fp) (.Name x pg2) (gName i))
    (ht : ∀ (s : Shared) (H : Hp) (C : Addr) (cl : List (Str × Addr)) (fp : List Addr), RTs (X.blk s H scope (compEnvC scope cl C X.env) fp) G ifs t)
    (he : ∀ (s : Shared) (H : Hp) (C : Addr) (cl : List (Str × Addr)) (fp : List Addr), RE (X.blk s H scope (compEnvC scope cl C X.env) fp) G elt el) (hs : ∀ x, foldedSetIterable iter X.env x = pure x := by intro _; rfl) :
    RS X G (.Assign [.Name y py] (.ListComp elt [⟨.Name x pg2, iter, ifs, 0⟩] scope pos) spos) (sAsg (gV j) (eLc i it t el)) := by
  refine (ps_setLc (i := j) (own := [(x, i)]) (g := gName i) (tt := tT0 X G t) (te := tE0 X G el) hc hN hy hyl hsw hi ok hg ht (fun s H C cl fp => re_zero (he s H C cl fp)) hs).weak fun D0 σ H h => ?_
  refine le_lc ?_
  obtain ⟨ι, m, ρ, S, E, P⟩ := h
  refine ⟨ι, m, ρ, S, E, PostS.of E P fun d m1 ι1 H1 v _ p1 l1 S1 r P1 => ?_⟩
  exact P1 ι1 H1 _ (List.prefix_refl _) (Le.refl _) S1 ((E.mono p1 l1).set j r)
end
/-! ### defs -/
section
variable {P : Program} {w : World} {K : PySem.W.Frag} {mg : Str → Option Value} {base : Heap}
theorem spOf_len {G : Tb} {f : MF} {n : Nat} (hf : ∀ ds m, ds.length ≠ n → f ds m = .bad) : ∀ vs H Q E, spOf G K f vs H Q E → vs.length = n := by
  intro vs H Q E ⟨ι, m, ds, S, r, h⟩
  by_cases e : ds.length = n
  · rw [← r.length]; exact e
  · rw [hf ds m e] at h; exact h.elim
theorem mkFn_len {n k : Nat} {s : MS} : ∀ ds m, ds.length ≠ n → mkFn n k s ds m = .bad := fun ds m h => by unfold mkFn; rw [if_neg h]
theorem Ends.same {D : Ends} : D = D := rfl
/-- a def does what its body does -/
theorem fs_of {G : Tb} {x qual : Str} {st : Stmt} {f : Addr} {fd : FuncData} {N ps : List Str} {k : Nat} {s : MS} (F : Fun K x qual st f fd) (S : FnScope N ps (defScope st))
    (hbody : ∀ (cdv : Value) (A : Around) (outer : List Env) (s0 : Shared) (H : Hp) (E : XK), Room k (A.deeper (PyProof.Rows.envOfC qual (defScope st) s0.heap.objs.size f cdv)) →
      RSs (cxOf (L2.CX P w) P w K mg base N qual (defScope st) f cdv A outer s0 H E) G (defBody st) s) : FnOk P w K mg base (L2.CX P w) (k + 1) f fd ps (spOf G K (mkFn ps.length N.length s)) := by
  refine F.okX S (spOf_len mkFn_len) fun cdv A outer s0 H vs Q E hr hsp => ?_
  refine ⟨_, hbody cdv A outer s0 H E hr, ?_⟩
  obtain ⟨ι, m, ds, Si, r, P0⟩ := hsp
  have hl : ds.length = ps.length := by
    by_cases e : ds.length = ps.length
    · exact e
    · rw [mkFn_len ds m e] at P0; exact P0.elim
  unfold mkFn at P0
  rw [if_pos hl] at P0
  refine ⟨ι, m, _, Si, Ev.start N r (by rw [hl]), ?_⟩
  have tk : Takes (cxOf (L2.CX P w) P w K mg base N qual (defScope st) f cdv A outer s0 H E) (fun cls d _ H => E cls d H) := takes_of rfl rfl rfl rfl
  cases es : s (ds.map some ++ List.replicate (N.length - ps.length) none) m with
  | nx ρ' m' => rw [es] at P0; exact fun ι' H' σ' p l S' E' => P0 ι' H' .non p l S' .non
  | rt d m' => rw [es] at P0; exact P0
  | bk ρ' m' => rw [es] at P0; exact (P0 : False).elim
  | ct ρ' m' => rw [es] at P0; exact (P0 : False).elim
  | exc x ρ' m' =>
    rw [es] at P0
    intro ι' H' σ' c dd p l S' E' rx u s' xe
    refine tk u s' ?_
    obtain ⟨a, B, sI, pins, σ, H2, cls, d, e1, e2, e3, e4, e5, e6, e7, e8, h1, h2, h3, h4⟩ := xe
    subst h1; subst h2; subst h3; subst h4
    exact ⟨a, B, sI, pins, _, _, _, _, e1, e2, e3, e4, e5, e6, e7, e8, P0 ι' _ _ _ p l S' rx⟩
  | bad => rw [es] at P0; exact P0
end
end Mn
end

section
set_option Elab.async false
set_option linter.all false
set_option maxRecDepth 100000
set_option maxHeartbeats 2000000
namespace Mn
open PySem PySem.Spec L2 TL
section
variable {X : Cx} {G : Tb} {e : Expr} {ea : ME} {pos p : Pos} {x : Str}
theorem re_gstr {s : Tx} (hg : Gl X x) (hm : ∃ t, X.mg x = some (.str (mkS s) t)) (ok : strOkT s = true) (hd : (x == ("__debug__" : Str)) = false := by decide) : RE X G (.Name x pos) (eC (.str s)) :=
  re_const (pe_glob (v := .str (mkS s)) hg hm.choose_spec ⟨_, rfl⟩ hd) fun _ _ => .str ok
theorem re_gint {n : Int} (hg : Gl X x) (hm : ∃ t, X.mg x = some (.int n t)) (hd : (x == ("__debug__" : Str)) = false := by decide) : RE X G (.Name x pos) (eC (.int n)) :=
  re_const (pe_glob (v := .int n) hg hm.choose_spec ⟨_, rfl⟩ hd) fun _ _ => .int n
/-- a dict of the module's top, from texts to ints -/
def TabAt (K : PySem.W.Frag) (w : World) (mg : Str → Option Value) (x : Str) (tab : List (Tx × Int)) : Prop :=
  ∃ d es n, mg x = some (.ref d) ∧ KDict K w d es n ∧ ∀ s v, tabGet tab s = some v → ∃ t, PySem.W.nsIn K d (mkS s) = some (some (.int v t))
theorem re_tab {tab : List (Tx × Int)} (hg : Gl X x) (hm : TabAt X.K X.w X.mg x tab) (he : RE X G e ea) (hd : (x == ("__debug__" : Str)) = false := by decide) (hs : PlainIx e := by exact fun _ _ => rfl) : RE X G (.Subscript (.Name x p) e pos) (eTab tab ea) := by
  obtain ⟨d, es, n, h1, D0, h2⟩ := hm
  have ix : IxR X (fun x y H Q => ∃ (z : Str) (u0 : Value) (v0 : V), x = .ref d ∧ y = .str z ∧ PySem.W.nsIn X.K d z = some (some u0) ∧ RelV v0 u0 ∧ Q v0 H) := by
    intro value slice pins s σ H x y v u Q I rx ry h hs
    have hT := kd_type D0 I
    have hx : v = .ref d := by obtain ⟨z, u0, v0, rfl, _⟩ := id h; exact rx
    subst hx
    unfold PyProof.Rows.subscriptTail
    refine wpAny_bind ?_
    rw [getitemInPython_of_ne hT.not_modules]
    refine wpAny_bind (wpAny_specialOf hT PySem.F.slot_dict_getitem.lookup ?_)
    have fin : wpAny (model X.prog X.w) X.A (subscripted slice false (.ref d) u) (fun r s₃ => wpAny (model X.prog X.w) X.A (letTemporaryGo value (.ref d) r >>= fun _ => pure r) (EP X pins σ Q) X.xe s₃) X.xe s := by
      rw [hs]
      exact wpAny_operating (thn (op_item_kd D0 pins s σ H x y _ u Q I rx ry h) fun w' s3 h3 => wpAny_bind (wpAny_letTemporaryGo (wpAny_pure h3)))
    first
      | exact wpAny_pure (wpAny_bind fin)
      | exact wpAny_bind (wpAny_pure (wpAny_bind fin))
      | exact wpAny_bind fin
  refine (pe_ix ix (pe_glob (v := .ref d) hg h1 rfl hd) he hs).weak fun σ H Q ⟨ι, m, ρ, S, E, P⟩ => ?_
  refine ⟨ι, m, ρ, S, E, P.bind fun y m1 ι1 H1 v _ p1 l1 S1 ry P1 => ?_⟩
  have P2 := P1.calm
  unfold pTab at P2
  cases y with
  | str s =>
    dsimp only at P2
    cases et : tabGet tab s with
    | none => simp only [et] at P2; exact P2.elim
    | some k =>
      simp only [et] at P2
      cases ry
      obtain ⟨t, h3⟩ := h2 s k et
      exact ⟨mkS s, _, .int k, rfl, rfl, h3, ⟨_, rfl⟩, P2.okD S1 (.int _)⟩
  | _ => exact P2.elim
end
/-! ### the names of attributes -/
def nmL : List Str := ["one", "other", "needs", "sections", "points", "links", "signals", "layout", "row", "counts", "signal", "target", "begin", "found", "locked", "train", "wait", "routes", "lies", "laid", "trains", "rows", "bars"]
def nmF (k : Nat) : Str := (nmL[k]?).getD ⟨#[0, k]⟩
theorem nm_out {k : Nat} (h : nmL.length ≤ k) : nmF k = ⟨#[0, k]⟩ := by unfold nmF; rw [List.getElem?_eq_none h]; rfl
theorem nm_head : ∀ k, k < nmL.length → (nmF k).cps[0]? ≠ some 0 := by decide +kernel
theorem nmL_nodup : nmL.Nodup := by decide +kernel
theorem nmF_inj : ∀ i j, nmF i = nmF j → i = j := by
  intro i j h
  by_cases hi : i < nmL.length
  · by_cases hj : j < nmL.length
    · unfold nmF at h
      rw [List.getElem?_eq_getElem hi, List.getElem?_eq_getElem hj] at h
      exact (List.getElem_inj nmL_nodup).mp h
    · have := nm_head i hi
      rw [h, nm_out (Nat.le_of_not_lt hj)] at this
      exact absurd rfl this
  · by_cases hj : j < nmL.length
    · have := nm_head j hj
      rw [← h, nm_out (Nat.le_of_not_lt hi)] at this
      exact absurd rfl this
    · rw [nm_out (Nat.le_of_not_lt hi), nm_out (Nat.le_of_not_lt hj)] at h
      injection h with h
      simpa using h
theorem nm_ne {x : Str} (h : x ∉ nmL ∧ x.cps[0]? ≠ some 0) : ∀ k, x ≠ nmF k := by
  intro k e
  by_cases hk : k < nmL.length
  · apply h.1
    rw [e]
    unfold nmF
    rw [List.getElem?_eq_getElem hk]
    exact List.getElem_mem hk
  · apply h.2
    rw [e, nm_out (Nat.le_of_not_lt hk)]
    rfl
def GT (cA : Nat → Addr) : Tb := ⟨nmF, cA, nmF_inj⟩
theorem units65 {A : Around} {k : Nat} (hr : Room k A) : A.units + 65 < cLine := by have := hr.un; omega
theorem units1 {A : Around} {k : Nat} (hr : Room k A) : A.units + 1 < cLine := by have := hr.un; omega
theorem owns {P : Program} {w : World} {K : PySem.W.Frag} {mg : Str → Option Value} {base : Heap} {N : List Str} {qual : Str} {sc : Scope} {f : Addr} {cd : Value} {A : Around} {outer : List Env} {s : Shared} {H : Hp} {E : XK} :
    PassesOwn (model (cxOf (L2.CX P w) P w K mg base N qual sc f cd A outer s H E).prog (cxOf (L2.CX P w) P w K mg base N qual sc f cd A outer s H E).w) (cxOf (L2.CX P w) P w K mg base N qual sc f cd A outer s H E).A (cxOf (L2.CX P w) P w K mg base N qual sc f cd A outer s H E).env (cxOf (L2.CX P w) P w K mg base N qual sc f cd A outer s H E).xe := passes_of rfl
end Mn
end

section
set_option linter.all false
namespace Mn
/-! ### errors -/
def sRaise (c : Nat) : MS := fun ρ m => .exc ⟨c, none⟩ ρ m
/-- raise C(e), which keeps e as its field k; ln: e is a list of which the length is asked -/
def sRaiseF (c k : Nat) (ln : Bool) (e : ME) : MS := fun ρ m => (e ρ m).toS ρ fun d m1 => if ln then (match pLen d m1 with
  | .ok _ _ => .exc ⟨c, some m1.length⟩ ρ (m1 ++ [.xdc [(k, d)]])
  | _ => .bad) else .exc ⟨c, some m1.length⟩ ρ (m1 ++ [.xdc [(k, d)]])
/-- the held error, at a, its dict at d -/
def hV (x : Xn) (a d : Nat) : D := match x.dx with
  | none => .adr a
  | some i => .exn a d i
/-- the name of slot i is gone -/
def sGone (i : Nat) (r : SR) : SR := match r with
  | .nx ρ m => .nx (ρ.set i none) m
  | .rt d m => .rt d m
  | .bk ρ m => .bk (ρ.set i none) m
  | .ct ρ m => .ct (ρ.set i none) m
  | _ => .bad
/-- an error of one of the classes xs, without a dict; of one of ys, with one -/
def okB (xs ys : List Nat) (y : Xn) : Bool := match y.dx with
  | none => decide (y.c ∈ xs)
  | some _ => decide (y.c ∈ ys)
/-- nothing is let out -/
def sNo (r : SR) : SR := match r with
  | .exc _ _ _ => .bad
  | r => r
/-- clauses: except C: h (no name), except C as e (slot i): h; first that takes it -/
inductive Cl where
  | pl (cs : List Nat) (h : MS)
  | nm (cs : List Nat) (i : Nat) (h : Xn → D → MS)
def handle (x : Xn) (ρ : Fr) (m : M) : List Cl → SR
  | [] => .exc x ρ m
  | .pl cs h :: r => if x.c ∈ cs then sNo (h ρ m) else handle x ρ m r
  | .nm cs i h :: r => if x.c ∈ cs then sGone i (h x (hV x 0 0) (ρ.set i (some (hV x 0 0))) m) else handle x ρ m r
def sTry (ok : Xn → Bool) (body : MS) (cl : List Cl) : MS := fun ρ m => match body ρ m with
  | .exc x ρ1 m1 => if ok x = true then handle x ρ1 m1 cl else .bad
  | r => r
def dxOk (v : D) (m : M) : Bool := match v with
  | .exn _ _ i => match m[i]? with
    | some (.xdc _) => true
    | _ => false
  | _ => true
/-- isinstance(e, ..), e the held error v: it is known -/
def pHeld (b : Bool) (v : D) (d : D) (m : M) : R D := if d = v ∧ dxOk v m = true then .ok (.bl b) m else .bad
/-- e.f, e the held error v -/
def xfOf (k : Nat) (v : D) (m : M) : R D := match v with
  | .exn _ _ i => match m[i]? with
    | some (.xdc fs) => match getF fs k with
      | some w => .ok w m
      | none => .bad
    | _ => .bad
  | _ => .bad
def pXf (k : Nat) (v : D) (d : D) (m : M) : R D := if d = v then xfOf k v m else .bad
end Mn
end

section
set_option Elab.async false
set_option linter.all false
set_option maxRecDepth 100000
set_option maxHeartbeats 2000000
namespace Mn
open PySem PySem.Spec L2 TL
abbrev SuT := Addr → Value → Option Addr → TS
def goneE (i : Nat) (D : Ends) : Ends := { nx := fun p q => D.nx (p.set i none) q, rt := D.rt, bk := fun p q => D.bk (p.set i none) q, ct := fun p q => D.ct (p.set i none) q }
/-- what a suite is asked: with a name at slot i, without one -/
def askS (o : Option Nat) (ts : SuT) (a : Addr) (cl : Value) (d : Option Addr) (D : Ends) (σ : L2.St) (H : Hp) : Prop := match o with
  | none => ts a cl d D σ H
  | some i => ts a cl d (goneE i D) (σ.set i (some (.ref a))) H
abbrev ClT := Value × Option Nat × SuT
def wCl (K : PySem.W.Frag) (Wo : WX) (D : Ends) : List ClT → WX
  | [] => Wo
  | c :: r => fun cl d σ H => ∃ b, PySem.W.exmOne K cl c.1 = some b ∧ (b = true → ∀ a, H a = none → askS c.2.1 c.2.2 a cl d D σ H) ∧ (b = false → wCl K Wo D r cl d σ H)
inductive ClOk (X : Cx) : List ExceptHandler → List ClT → Prop
  | nil : ClOk X [] []
  | pl {x : Str} {c : Value} {ts : SuT} {b : Stmt} {su : List Stmt} {np p2 : Pos} {hs : List ExceptHandler} {l : List ClT} (hc : Names X x c)
      (hsu : ∀ (a : Addr) (oe : Obj) (cl : Value) (d : Option Addr) (pn : List (Addr × Obj)), Zc cl d oe → (∃ vs, oe.data = .fields vs) → PSs (X.suite a ((a, oe) :: pn)) (b :: su) (ts a cl d)) (r : ClOk X hs l) :
      ClOk X (.ExceptHandler (some (.Name x np)) none (b :: su) p2 :: hs) ((c, none, ts) :: l)
  | nm {x n : Str} {i : Nat} {c : Value} {ts : SuT} {b : Stmt} {su : List Stmt} {np p2 : Pos} {hs : List ExceptHandler} {l : List ClT} (hc : Names X x c) (hi : X.N[i]? = some n) (hn : X.env.kindOf n = some .local)
      (hsu : ∀ (a : Addr) (oe : Obj) (cl : Value) (d : Option Addr) (pn : List (Addr × Obj)), Zc cl d oe → (∃ vs, oe.data = .fields vs) → PSs (X.suite a ((a, oe) :: pn)) (b :: su) (ts a cl d)) (r : ClOk X hs l) :
      ClOk X (.ExceptHandler (some (.Name x np)) (some n) (b :: su) p2 :: hs) ((c, some i, ts) :: l)
section
variable {X : Cx} {body : List Stmt} {h0 : ExceptHandler} {hds : List ExceptHandler} {cl : List ClT} {pos : Pos} {tb : WX → TS} {Wo : WX}
/-- try: body, with clauses of both kinds -/
theorem ps_try_cl (hN : X.N.Nodup) (st : X.stack = X.env :: X.outer) (fr : X.env.frame = some X.env.locals) (tk : Takes X Wo)
    (hb : ∀ (W : WX) (pn : List (Addr × Obj)) (xe : Value → Shared → Prop), Takes (X.tr pn xe) W → PassesOwn (model X.prog X.w) X.A X.env xe → PSs (X.tr pn xe) body (tb W))
    (hh : ClOk X (h0 :: hds) cl) : PS X (.Try body (h0 :: hds) [] [] pos) (fun D σ H => tb (wCl X.K Wo D cl) D σ H) := by
  refine ⟨fun pins s σ H D I h => ?_⟩
  have ok := I.ok
  have frames : X.A.frames = some (X.env :: X.outer) := ok.frames.trans (by rw [st])
  refine wpAny_Try_except (wpAny_mono ((hb (wCl X.K Wo D cl) (X.pn ++ pins) _ (fun u s' xx => ?ctc) PassesOwn.looking).run [] s σ H D (I.toTry _) h) (fun f s1 hsp => ?done) (fun _ _ he => he))
  case done =>
    cases f with
    | next => obtain ⟨p', q', J', z⟩ := hsp; exact wpAny_execs_nil ⟨p', q', Inv.ofTry J' ok, z⟩
    | brk => obtain ⟨p', q', J', z⟩ := hsp; exact ⟨p', q', Inv.ofTry J' ok, z⟩
    | cont => obtain ⟨p', q', J', z⟩ := hsp; exact ⟨p', q', Inv.ofTry J' ok, z⟩
    | ret u => obtain ⟨v', p', q', J', r, z⟩ := hsp; exact ⟨v', p', q', Inv.ofTry J' ok, r, z⟩
  case ctc =>
    obtain ⟨a, B, sI, pq, σ1, H1, cv, d, rfl, K1, nb, up, sky, na, os, ag, w⟩ := xx
    have J1 : Inv X pins σ1 H1 sI := Inv.ofTry K1 ok
    have sky1 : Sky B (X.env :: X.outer) a (Zc cv d) X.env.locals s'.heap := st ▸ sky
    refine Sky.land Zc.steady frames fr sky1 fun h3 L3 up3 => ?_
    have J3 : Inv X pins σ1 H1 { s' with heap := h3 } := Inv.landed J1 nb L3.1 (up.trans up3) os ag
    obtain ⟨o3, f3, g3, z3, d3⟩ := L3.there
    have off : a ∉ frs (X.env :: X.outer) := fun hm => by
      obtain ⟨_, o', e', k⟩ := Heap.FunFrames.mem L3.2.2.1 hm
      rw [g3] at e'; cases e'
      exact k _ d3
    have nL : a ≠ X.env.locals := fun z => off (List.mem_filterMap.mpr ⟨X.env, List.mem_cons_self, by rw [fr, z]⟩)
    have nF : a ∉ X.fs := fun hm => by
      obtain ⟨y, hy, q⟩ := List.mem_filterMap.mp hm
      exact off (List.mem_filterMap.mpr ⟨y, List.mem_cons_of_mem _ hy, q⟩)
    have S3 := Inv.suite J3 g3 d3 na nL nF
    have go : ∀ {hs : List ExceptHandler} {l : List ClT}, ClOk X hs l → wCl X.K Wo D l cv d σ1 H1 → wpAny (model X.prog X.w) X.A (handleBy (.ref a) X.env hs) (SP X pins D) X.xe { s' with heap := h3 } := by
      intro hs l k
      have seen : ∀ {x : Str} {c : Value} {np : Pos} {Q : Value → Shared → Prop} {E : Value → Shared → Prop}, Names X x c → Q c { s' with heap := h3 } →
          wpAny (model X.prog X.w) (X.A.mark (some (.ref a))) (eval (.Name x np) X.env) Q E { s' with heap := h3 } := fun {x c np Q E} z q => by
        rcases z with ⟨z1, z2, z3 | ⟨z3, z4, z5⟩⟩
        · exact ld_glob (X := X.suite a ((a, o3) :: (X.pn ++ pins))) S3 z1 z3 q z2
        · exact ld_blt (X := X.suite a ((a, o3) :: (X.pn ++ pins))) S3 z1 z3 z4 q z5 z2
      have kind : PySem.W.Looks (model X.prog X.w) h3 (typeOf (.ref a)) cv := fun _ _ _ _ k q => wpAny_typeOf_ref (k _ _ g3) (by rw [z3.1]; exact q)
      induction k with
      | nil =>
        intro w
        refine wpAny_handleBy_nil ?_
        obtain ⟨k1, k2, k3, oe, vs, T, oT, ts', he, hz, hd, hT, hr⟩ := id L3
        unfold PySem.passOn
        refine wpAny_bind (wpAny_field he hd hT ?_)
        rw [if_neg (by simp)]
        have last : wpAny (model X.prog X.w) X.A (setFlight (.ref a) X.env.frame) (fun _ t => wpAny (model X.prog X.w) X.A (throw (.ref a) : Sem Flow) (SP X pins D) X.xe t) X.xe { s' with heap := h3 } := by
          rw [fr]
          refine HandSPX.setFlight_upZ L3 fun h4 r4 up4 => wpAny_throw (tk _ _ ⟨a, B, sI, pins, σ1, H1, cv, d, rfl, J1, nb, (up.trans up3).trans up4, .inr (.inr (by rw [st]; exact r4)), na, os, ag, w⟩)
        first
          | exact wpAny_bind last
          | exact wpAny_bind (wpAny_pure (wpAny_bind last))
      | @pl x c ts b su np p2 hs l hc hsu r ih =>
        intro ⟨t, e1, yes, no⟩
        refine wpAny_handleBy_cons (codeAny_handlers_test (seen hc ((PySem.W.exm_one (M := model X.prog X.w) J3.kIn kind e1).here ?_))) (by intro q; cases q)
        cases t with
        | false => exact ih (no rfl)
        | true =>
          refine codeAny_handlers_suite (HandSPX.lands_againZ L3 fun h4 L4 up4 => ?_)
          have J4 : Inv X pins σ1 H1 { s' with heap := h4 } := Inv.landed J1 nb L4.1 ((up.trans up3).trans up4) os ag
          obtain ⟨o4, f4, g4, z4, d4⟩ := L4.there
          refine wpAny_mono ((hsu a o4 cv d (X.pn ++ pins) z4 ⟨_, d4⟩).run [] _ _ H1 _ (Inv.suite J4 g4 d4 na nL nF) (yes rfl a na)) (fun f s6 z => ?_) (fun _ _ q => q.elim)
          cases f with
          | next => obtain ⟨p', q', K, z⟩ := z; exact ⟨_, _, Inv.unsuite K ok, z⟩
          | brk => obtain ⟨p', q', K, z⟩ := z; exact ⟨_, _, Inv.unsuite K ok, z⟩
          | cont => obtain ⟨p', q', K, z⟩ := z; exact ⟨_, _, Inv.unsuite K ok, z⟩
          | ret u => obtain ⟨v', p', q', K, r, z⟩ := z; exact ⟨_, _, _, Inv.unsuite K ok, r, z⟩
      | @nm x n i c ts b su np p2 hs l hc hi hn hsu r ih =>
        intro ⟨t, e1, yes, no⟩
        refine wpAny_handleBy_cons (codeAny_handlers_test (seen hc ((PySem.W.exm_one (M := model X.prog X.w) J3.kIn kind e1).here ?_))) (by intro q; cases q)
        cases t with
        | false => exact ih (no rfl)
        | true =>
          refine codeAny_handlers_suite_as (HandSPX.lands_againZ L3 fun h4 L4 up4 => ?_)
          have J4 : Inv X pins σ1 H1 { s' with heap := h4 } := Inv.landed J1 nb L4.1 ((up.trans up3).trans up4) os ag
          obtain ⟨o4, f4, g4, z4, d4⟩ := L4.there
          refine store_ok (X := X.suite a ((a, o4) :: (X.pn ++ pins))) (v := .ref a) (Inv.suite J4 g4 d4 na nL nF) hN hi (.inl hn) rfl (fun s5 S5 => ?_) (.inr hn)
          have out : ∀ {σ6 : L2.St} {H6 : Hp} {s6 : Shared} {Q : Shared → Prop}, Inv (X.suite a ((a, o4) :: (X.pn ++ pins))) [] σ6 H6 s6 → (∀ s7, Inv X pins (σ6.set i none) H6 s7 → Q s7) →
              wpAny (model X.prog X.w) X.A (do bindName X.env n .none; unbindBehindTheSuite X.env n p2) (fun _ s7 => Q s7) X.xe s6 := fun K q => gone_ok (Inv.unsuite K ok) hN hi hn q
          refine wpAny_mono ((hsu a o4 cv d (X.pn ++ pins) z4 ⟨_, d4⟩).run [] s5 _ H1 _ S5 (yes rfl a na)) (fun f s6 z => ?_) (fun _ _ q => q.elim)
          cases f with
          | next => obtain ⟨p', q', K, z⟩ := z; exact out K fun s7 K7 => ⟨_, _, K7, z⟩
          | brk => obtain ⟨p', q', K, z⟩ := z; exact out K fun s7 K7 => ⟨_, _, K7, z⟩
          | cont => obtain ⟨p', q', K, z⟩ := z; exact out K fun s7 K7 => ⟨_, _, K7, z⟩
          | ret u => obtain ⟨v', p', q', K, r, z⟩ := z; exact out K fun s7 K7 => ⟨_, _, _, K7, r, z⟩
    exact go hh w
end
section
variable {X : Cx} {G : Tb} {body : List Stmt} {pos : Pos}
theorem Ev.gone {K : PySem.W.Frag} {ι : List Addr} {H : Hp} {ρ : Fr} {σ : L2.St} (h : Ev K ι H ρ σ) (i : Nat) : Ev K ι H (ρ.set i none) (σ.set i none) := by
  refine ⟨by simp [h.len], fun j d e => ?_⟩
  by_cases hij : i = j
  · subst hij
    by_cases hl : i < ρ.length
    · rw [List.getElem?_set_self hl] at e; cases e
    · rw [List.getElem?_eq_none (by simpa using hl)] at e; cases e
  · rw [List.getElem?_set_ne hij] at e ⊢
    exact h.at' j d e
/-- what a suite leaves, W of what it lets out -/
def PostW (X : Cx) (G : Tb) (W : WX) (ι : List Addr) (H : Hp) (D : Ends) (r : SR) : Prop := match r with
  | .nx ρ' m' => ∀ ι' H' σ', ι <+: ι' → Le ι ι' H H' → Sim G X.K ι' H' m' → Ev X.K ι' H' ρ' σ' → D.nx σ' H'
  | .rt d m' => ∀ ι' H' v, ι <+: ι' → Le ι ι' H H' → Sim G X.K ι' H' m' → RD X.K ι' H' d v → D.rt v H'
  | .bk ρ' m' => ∀ ι' H' σ', ι <+: ι' → Le ι ι' H H' → Sim G X.K ι' H' m' → Ev X.K ι' H' ρ' σ' → D.bk σ' H'
  | .ct ρ' m' => ∀ ι' H' σ', ι <+: ι' → Le ι ι' H H' → Sim G X.K ι' H' m' → Ev X.K ι' H' ρ' σ' → D.ct σ' H'
  | .exc x ρ' m' => ∀ ι' H' σ' c dd, ι <+: ι' → Le ι ι' H H' → Sim G X.K ι' H' m' → Ev X.K ι' H' ρ' σ' → RX G ι' x c dd → W c dd σ' H'
  | .bad => False
theorem PostW.up {W : WX} {ι ι1 : List Addr} {H H1 : Hp} {D : Ends} {r : SR} (p : ι <+: ι1) (l : Le ι ι1 H H1) (h : PostW X G W ι H D r) : PostW X G W ι1 H1 D r := by
  cases r with
  | nx ρ m => exact fun i2 H2 σ2 p2 l2 => h i2 H2 σ2 (p.trans p2) (l.trans l2)
  | rt d m => exact fun i2 H2 v p2 l2 => h i2 H2 v (p.trans p2) (l.trans l2)
  | bk ρ m => exact fun i2 H2 σ2 p2 l2 => h i2 H2 σ2 (p.trans p2) (l.trans l2)
  | ct ρ m => exact fun i2 H2 σ2 p2 l2 => h i2 H2 σ2 (p.trans p2) (l.trans l2)
  | exc x ρ m => exact fun i2 H2 σ2 c dd p2 l2 => h i2 H2 σ2 c dd (p.trans p2) (l.trans l2)
  | bad => exact h
abbrev W0 : WX := fun _ _ _ _ => False
theorem postW_no {W : WX} {ι : List Addr} {H : Hp} {D : Ends} {r : SR} (h : PostW X G W ι H D (sNo r)) : PostW X G W0 ι H D r := by
  cases r with
  | exc x ρ m => exact (h : False).elim
  | nx ρ m => exact h
  | rt d m => exact h
  | bk ρ m => exact h
  | ct ρ m => exact h
  | bad => exact h
theorem postW_gone {W : WX} {ι : List Addr} {H : Hp} {D : Ends} {r : SR} {i : Nat} (h : PostW X G W ι H D (sGone i r)) : PostW X G W0 ι H (goneE i D) r := by
  cases r with
  | exc x ρ m => exact (h : False).elim
  | nx ρ m => exact fun i2 H2 σ2 p2 l2 S2 E2 => h i2 H2 _ p2 l2 S2 (E2.gone i)
  | rt d m => exact h
  | bk ρ m => exact fun i2 H2 σ2 p2 l2 S2 E2 => h i2 H2 _ p2 l2 S2 (E2.gone i)
  | ct ρ m => exact fun i2 H2 σ2 p2 l2 S2 E2 => h i2 H2 _ p2 l2 S2 (E2.gone i)
  | bad => exact h
/-- clauses and what they do -/
inductive RCl (X : Cx) (G : Tb) (ok : Xn → Bool) : List ExceptHandler → List Cl → Prop
  | nil : RCl X G ok [] []
  | pl {x : Str} {cv : Value} {cs : List Nat} {h : MS} {b : Stmt} {su : List Stmt} {np p2 : Pos} {hs : List ExceptHandler} {l : List Cl} (hc : Names X x cv)
      (hex : ∀ y : Xn, ok y = true → PySem.W.exmOne X.K (.ref (G.cA y.c)) cv = some (decide (y.c ∈ cs)))
      (hsu : ∀ (a : Addr) (oe : Obj) (pn : List (Addr × Obj)), RSs (X.suite a ((a, oe) :: pn)) G (b :: su) h) (r : RCl X G ok hs l) : RCl X G ok (.ExceptHandler (some (.Name x np)) none (b :: su) p2 :: hs) (.pl cs h :: l)
  | nm {x n : Str} {i : Nat} {cv : Value} {cs : List Nat} {h : Xn → D → MS} {b : Stmt} {su : List Stmt} {np p2 : Pos} {hs : List ExceptHandler} {l : List Cl} (hc : Names X x cv) (hi : X.N[i]? = some n) (hn : X.env.kindOf n = some .local)
      (hex : ∀ y : Xn, ok y = true → PySem.W.exmOne X.K (.ref (G.cA y.c)) cv = some (decide (y.c ∈ cs)))
      (hsu : ∀ (a : Addr) (oe : Obj) (d : Option Addr) (pn : List (Addr × Obj)) (y : Xn), ok y = true → Zc (.ref (G.cA y.c)) d oe → d.isSome = y.dx.isSome → (∃ vs, oe.data = .fields vs) → RSs (X.suite a ((a, oe) :: pn)) G (b :: su) (h y (hV y a (d.getD 0))))
      (hu : ∀ (y : Xn) (a d : Nat) (ρ : Fr) (m : M), sGone i (h y (hV y a d) (ρ.set i (some (hV y a d))) m) = sGone i (h y (hV y 0 0) (ρ.set i (some (hV y 0 0))) m))
      (r : RCl X G ok hs l) : RCl X G ok (.ExceptHandler (some (.Name x np)) (some n) (b :: su) p2 :: hs) (.nm cs i h :: l)
theorem RX.some_iff {ι : List Addr} {x : Xn} {c : Value} {dd : Option Addr} (r : RX G ι x c dd) : dd.isSome = x.dx.isSome := by
  obtain ⟨_, r⟩ := r
  cases e : x.dx with
  | none => rw [e] at r; rw [show dd = none from r]
  | some i => rw [e] at r; obtain ⟨d, h, _⟩ := r; rw [h]; rfl
theorem RX.hv {K : PySem.W.Frag} {H : Hp} {ι : List Addr} {x : Xn} {c : Value} {dd : Option Addr} (r : RX G ι x c dd) (a : Addr) : RD K ι H (hV x a (dd.getD 0)) (.ref a) := by
  obtain ⟨_, r⟩ := r
  unfold hV
  cases e : x.dx with
  | none => exact .adr a
  | some i => rw [e] at r; obtain ⟨d, rfl, h⟩ := r; exact .exn a h
theorem RCl.cl {ok : Xn → Bool} {hs : List ExceptHandler} {l : List Cl} (h : RCl X G ok hs l) : ∃ L : List ClT, ClOk X hs L ∧ ∀ (D : Ends) (y : Xn) (ι : List Addr) (H : Hp) (σ : L2.St) (ρ : Fr) (m : M) (c : Value) (dd : Option Addr),
    ok y = true → Sim G X.K ι H m → Ev X.K ι H ρ σ → RX G ι y c dd → PostW X G (Wm X) ι H D (handle y ρ m l) → wCl X.K (Wm X) D L c dd σ H := by
  induction h with
  | nil => exact ⟨[], .nil, fun D y ι H σ ρ m c dd hy S E r P => P ι H σ c dd (List.prefix_refl _) (Le.refl _) S E r⟩
  | @pl x cv cs h b su np p2 hs l hc hex hsu r ih =>
    obtain ⟨L, hL, k⟩ := ih
    refine ⟨(cv, none, fun a cls d D σ H => ∃ ι m ρ, Sim G X.K ι H m ∧ Ev X.K ι H ρ σ ∧ PostW X G W0 ι H D (h ρ m)) :: L, .pl hc (fun a oe cl d pn hz hd => ?_) hL, fun D y ι H σ ρ m c dd hy S E rx P => ?_⟩
    · refine (hsu a oe pn).weak fun D σ H ⟨ι, m, ρ, S, E, P⟩ => ⟨ι, m, ρ, S, E, ?_⟩
      cases er : h ρ m with
      | exc y ρ' m' => rw [er] at P; exact fun i2 H2 σ2 c dd p2 l2 S2 E2 r2 => (P i2 H2 σ2 c dd p2 l2 S2 E2 r2 : False).elim
      | nx ρ' m' => rw [er] at P; exact P
      | rt d m' => rw [er] at P; exact P
      | bk ρ' m' => rw [er] at P; exact P
      | ct ρ' m' => rw [er] at P; exact P
      | bad => rw [er] at P; exact P
    · have ec := rx.1
      subst ec
      unfold handle at P
      refine ⟨_, hex y hy, fun hb a na => ?_, fun hb => ?_⟩
      · rw [if_pos (of_decide_eq_true hb)] at P
        exact ⟨ι, m, ρ, S, E, postW_no P⟩
      · rw [if_neg (of_decide_eq_false hb)] at P
        exact k D y ι H σ ρ m _ dd hy S E rx P
  | @nm x n i cv cs h b su np p2 hs l hc hi hn hex hsu hu r ih =>
    obtain ⟨L, hL, k⟩ := ih
    refine ⟨(cv, some i, fun a cls d D σ H => ∃ y ι m ρ, ok y = true ∧ RX G ι y cls d ∧ Sim G X.K ι H m ∧ Ev X.K ι H ρ σ ∧ PostW X G W0 ι H D (h y (hV y a (d.getD 0)) ρ m)) :: L, .nm hc hi hn (fun a oe cl d pn hz hd => ?_) hL, fun D y ι H σ ρ m c dd hy S E rx P => ?_⟩
    · refine ⟨fun pins s σ H D I ⟨y, ι, m, ρ, hy, rx, S, E, P⟩ => ?_⟩
      have ec := rx.1
      subst ec
      refine (hsu a oe d pn y hy hz rx.some_iff hd).run pins s σ H D I ⟨ι, m, ρ, S, E, ?_⟩
      cases er : h y (hV y a (d.getD 0)) ρ m with
      | exc y ρ' m' => rw [er] at P; exact fun i2 H2 σ2 c dd p2 l2 S2 E2 r2 => (P i2 H2 σ2 c dd p2 l2 S2 E2 r2 : False).elim
      | nx ρ' m' => rw [er] at P; exact P
      | rt d m' => rw [er] at P; exact P
      | bk ρ' m' => rw [er] at P; exact P
      | ct ρ' m' => rw [er] at P; exact P
      | bad => rw [er] at P; exact P
    · have ec := rx.1
      subst ec
      unfold handle at P
      refine ⟨_, hex y hy, fun hb a na => ?_, fun hb => ?_⟩
      · rw [if_pos (of_decide_eq_true hb), ← hu y a (dd.getD 0)] at P
        exact ⟨y, ι, m, _, hy, rx, S, E.set i (rx.hv a), postW_gone P⟩
      · rw [if_neg (of_decide_eq_false hb)] at P
        exact k D y ι H σ ρ m _ dd hy S E rx P
theorem rs_try {ok : Xn → Bool} {mb : MS} {h0 : ExceptHandler} {hds : List ExceptHandler} {l : List Cl} (hN : X.N.Nodup) (st : X.stack = X.env :: X.outer) (fr : X.env.frame = some X.env.locals)
    (hb : ∀ (pn : List (Addr × Obj)) (xe : Value → Shared → Prop), RSs (X.tr pn xe) G body mb) (hh : RCl X G ok (h0 :: hds) l) :
    RS X G (.Try body (h0 :: hds) [] [] pos) (sTry ok mb l) := by
  obtain ⟨L, hL, k⟩ := hh.cl
  refine (ps_try_cl (Wo := Wm X) hN st fr takes_Wm (tb := fun W D σ H => ∃ ι m ρ, Sim G X.K ι H m ∧ Ev X.K ι H ρ σ ∧ PostW X G W ι H D (mb ρ m)) ?_ hL).weak ?_
  · intro W pn xe tk _
    refine (hb pn xe).weak fun D σ H ⟨ι, m, ρ, S, E, P⟩ => ⟨ι, m, ρ, S, E, ?_⟩
    cases er : mb ρ m with
    | nx ρ' m' => rw [er] at P; exact P
    | rt d m' => rw [er] at P; exact P
    | bk ρ' m' => rw [er] at P; exact P
    | ct ρ' m' => rw [er] at P; exact P
    | bad => rw [er] at P; exact P
    | exc y ρ' m' =>
      rw [er] at P
      intro ι' H' σ' c dd p l S' E' r u s' xx
      have w := P ι' H' σ' c dd p l S' E' r
      obtain ⟨a, B, sI, pins, σ2, H2, cls, d, e1, e2, e3, e4, e5, e6, e7, e8, q1, q2, q3, q4⟩ := xx
      subst q1 q2 q3 q4
      exact tk u s' ⟨a, B, sI, pins, _, _, _, _, e1, e2, e3, e4, e5, e6, e7, e8, w⟩
  · intro D σ H ⟨ι, m, ρ, S, E, P⟩
    refine ⟨ι, m, ρ, S, E, ?_⟩
    unfold sTry at P
    cases er : mb ρ m with
    | nx ρ' m' => rw [er] at P; exact P
    | rt d m' => rw [er] at P; exact P
    | bk ρ' m' => rw [er] at P; exact P
    | ct ρ' m' => rw [er] at P; exact P
    | bad => rw [er] at P; exact P
    | exc y ρ1 m1 =>
      rw [er] at P
      dsimp only at P
      by_cases hy : ok y = true
      · rw [if_pos hy] at P
        exact fun ι' H' σ' c dd p l S' E' r => k D y ι' H' σ' ρ1 m1 c dd hy S' E' r (P.up p l)
      · rw [if_neg hy] at P; exact P.elim
end
end Mn
end

section
set_option Elab.async false
set_option linter.all false
set_option maxRecDepth 100000
set_option maxHeartbeats 2000000
namespace L2
open PySem PySem.Spec PyProof.Rows
theorem KV.merged {kvs : List (Key × V)} {vs : List (Key × Value)} (r : KV kvs vs) : ∀ {more : List (Key × V)} {ws : List (Key × Value)}, KV more ws → KV (more.foldl (fun acc kv => putK acc kv.1 kv.2) kvs) (PySem.merged vs ws) := by
  intro more
  induction more generalizing kvs vs with
  | nil => intro ws h; cases h; exact r
  | cons x t ih =>
    intro ws h
    cases h with
    | @cons _ y _ t' rxy rt =>
      have h1 : x.1 = y.1 := rxy.1
      have := ih (kvs := putK kvs x.1 x.2) (vs := stored vs y.1 y.2) (by rw [← h1]; exact r.put x.1 rxy.2) rt
      exact this
theorem merged_len {more : List (Key × V)} : ∀ {kvs : List (Key × V)}, (more.foldl (fun acc kv => putK acc kv.1 kv.2) kvs).length ≤ kvs.length + more.length := by
  induction more with
  | nil => intro kvs; simp
  | cons x t ih =>
    intro kvs
    have h1 := ih (kvs := putK kvs x.1 x.2)
    have h2 := length_putK kvs x.1 x.2
    simp only [List.foldl_cons, List.length_cons]
    omega
section
variable {X : Cx} {pins : List (Addr × Obj)} {σ : St} {H : Hp} {s : Shared} {a b : Addr} {kvs more : List (Key × V)} {A : Around} {E : Value → Shared → Prop}
theorem d_update {Q : Value → Shared → Prop} (I : Inv X pins σ H s) (e : H a = some (.dK kvs)) (e2 : Rd H b (.dK more)) (hab : a ≠ b) (hl : kvs.length + more.length ≤ sizeLine)
    (h : ∀ s', Inv X pins σ (upd H a (.dK (more.foldl (fun acc kv => putK acc kv.1 kv.2) kvs))) s' → Q .none s') : wpAny (model X.prog X.w) A (call (.builtin "dict.update") [.ref a, .ref b]) Q E s := by
  obtain ⟨z, hd, vs, rel, dd⟩ := dk_of I.hok e
  obtain ⟨z2, hd2, ws, rel2, dd2⟩ := dk_rd I.hok e2
  have l1 : kvs.length = vs.length := rel.length
  have l2 : more.length = ws.length := rel2.length
  refine call_meetsIn PySem.F.slot_dict_update dd.typeIs PySem.F.entry_dict_update (PySem.F.args_dict_update_2 _ _) (meets_dict_update (mixKind X.prog X.w) a b hab hd2)
    ⟨vs, ws, dd, dd2, by omega, fun h' dd' _ hs => h _ ?_⟩
  have he : ∃ q, h'.get? a = some q := let ⟨q, _, _, hq, _⟩ := dd'; ⟨q, hq⟩
  exact d_write I (by rw [e]; exact True.intro) hs he (dk_new (Nat.le_trans merged_len hl) hd (rel.merged rel2) dd')
end
end L2
namespace Mn
open PySem PySem.Spec L2 TL
section
variable {X : Cx} {G : Tb}
theorem RKvs.merged {K : PySem.W.Frag} {ι : List Addr} {H : Hp} {kvs : List (Ky × D)} {ks : List (Key × V)} (h : RKvs K ι H kvs ks) : ∀ {more : List (Ky × D)} {ls : List (Key × V)}, RKvs K ι H more ls →
    RKvs K ι H (more.foldl (fun acc kv => putKv acc kv.1 kv.2) kvs) (ls.foldl (fun acc kv => putK acc kv.1 kv.2) ks) := by
  intro more
  induction more generalizing kvs ks with
  | nil => intro ls q; cases q; exact h
  | cons x t ih =>
    intro ls q
    cases q with
    | @cons _ y _ t' rxy rt =>
      have h1 := rxy.1
      have := ih (kvs := putKv kvs x.1 x.2) (ks := putK ks y.1 y.2) (by rw [h1]; exact h.put rxy.2.1 rxy.2.2) rt
      exact this
theorem mUpdate : MtR X "dict.update" (rm1 X G pUpdate) := by
  intro pins s σ H x xs v us Q I rx rs ⟨ι, m, dx, dy, y, e, S, hx, hy, P⟩
  subst e
  unfold pUpdate at P
  cases dx with
  | ref i =>
    cases dy with
    | ref j =>
      dsimp only at P
      cases em : m[i]? with
      | none => simp only [em] at P; exact P.elim
      | some ob =>
        cases em2 : m[j]? with
        | none => cases ob <;> simp only [em, em2] at P <;> first | exact P.elim | (rename_i lk _; cases lk <;> exact P.elim)
        | some ob2 =>
          obtain ⟨a, rfl, ia, ro⟩ := S.obj em hx
          obtain ⟨b, rfl, ib, ro2⟩ := S.obj em2 hy
          cases ob with
          | dct lk kvs =>
            cases lk with
            | true => simp only [em, em2] at P; exact P.elim
            | false =>
              cases ob2 with
              | dct lk2 ls =>
                simp only [em, em2] at P
                split at P
                · rename_i hc
                  obtain ⟨ks, q, hr⟩ := ro
                  have r2 : ∃ ls', Rd H b (.dK ls') ∧ RKvs X.K ι H ls ls' := by
                    cases lk2 with
                    | false => obtain ⟨ks2, q2, hr2⟩ := ro2; exact ⟨ks2, .inl q2, hr2⟩
                    | true => obtain ⟨ks2, o2, q2, hr2⟩ := ro2; exact ⟨ks2, .inr ⟨o2, q2⟩, hr2⟩
                  obtain ⟨ls', q2, hr2⟩ := r2
                  obtain ⟨u, rfl, ru⟩ := Vals.one rs
                  obtain rfl : v = Value.ref a := rx
                  obtain rfl : u = Value.ref b := ru
                  have hab : a ≠ b := fun z => hc.1 (nd_ix S.nd ia (by rw [z]; exact ib))
                  have l2 : Le ι ι H (upd H a (.dK (ls'.foldl (fun acc kv => putK acc kv.1 kv.2) ks))) := Le.mut q (fun _ z => nomatch z) (fun _ _ z => nomatch z)
                  refine d_update I q q2 hab ?_ fun s3 I3 => ⟨.non, _, I3, rfl, P ι _ .non (List.prefix_refl _) l2 (S.set ia l2 ⟨_, upd_same, (hr.merged hr2).mono (List.prefix_refl _) l2⟩) .non⟩
                  rw [← Paired.length hr, ← Paired.length hr2]; exact LIM_le hc.2
                · exact P.elim
              | _ => simp only [em, em2] at P; exact P.elim
          | _ => simp only [em, em2] at P; exact P.elim
    | _ => exact P.elim
  | _ => exact P.elim
end
section
variable {X : Cx} {G : Tb} {a : Expr} {ea : ME} {pos p : Pos}
theorem re_isList {p2 : Pos} (hg : Gl X "isinstance") (hm : X.mg "isinstance" = none) (hg2 : Gl X "list") (hm2 : X.mg "list" = none) (ha : RE X G a ea) (hv : bootBuiltins "isinstance" = some (.builtin "isinstance") := by decide +kernel) (hv2 : bootBuiltins "list" = some (.type "list") := by decide +kernel)
    (h1 : starEach [a, .Name "list" p2] X.env = (false, eval a X.env) :: starEach [.Name "list" p2] X.env := by rfl) (h2 : starEach [.Name "list" p2] X.env = (false, eval (.Name "list" p2) X.env) :: starEach [] X.env := by rfl)
    (hpl : (backTo pos (starEach [.Name "list" p2] X.env)).any (·.1) = false := by rfl) :
    RE X G (.Call (.Name "isinstance" p) [a, .Name "list" p2] [] pos) (eUn pIsList ea) := by
  refine (pe_callB call_isi hg hm hv (pa_cons ha (pa_cons (pe_bltn (v := .ty "list") hg2 hm2 hv2 rfl) pa_nil h2) h1) (by decide) (by decide) h1 hpl).weak fun σ H Q ⟨ι, m, ρ, S, E, P⟩ => ?_
  refine ⟨ι, m, ρ, S, E, P.bind fun x m1 ι1 H1 v _ p1 l1 S1 rx P1 => ?_⟩
  cases x with
  | ref i =>
    unfold pIsList at P1
    dsimp only at P1
    cases em : m1[i]? with
    | none => simp only [em] at P1; exact P1.elim
    | some ob =>
      cases ob with
      | lst ds =>
        simp only [em] at P1
        obtain ⟨a', rfl, ia, vs, q, hr⟩ := S1.obj em rx
        exact ⟨_, _, _, _, true, rfl, .ty "list", .base (.lst q), kit_ty (by decide +kernel), P1.okI _ S1 (.bl _)⟩
      | _ => simp only [em] at P1; exact P1.elim
  | _ => exact P1.elim
end
end Mn
end

section
set_option linter.all false
namespace Mn
theorem nr {α : Sort u} {a b : α} (h : a = b) : a = b := h
/-! ### evaluation without binders: each form says which part it waits for -/
def op2 (f : D → D → M → R D) (x : D) (r : R D) : R D := r.bind fun y m2 => (f x y m2).calm
def op1 (f : D → D → M → R D) (b : ME) (ρ : Fr) (r : R D) : R D := r.bind fun x m1 => op2 f x (b ρ m1)
@[simp] theorem eOp_eq {f a b ρ m} : eOp f a b ρ m = op1 f b ρ (a ρ m) := nr rfl
@[simp] theorem op1_ok {f b ρ x m} : op1 f b ρ (.ok x m) = op2 f x (b ρ m) := nr rfl
@[simp] theorem op2_ok {f x y m} : op2 f x (.ok y m) = (f x y m).calm := nr rfl
def un1 (f : D → M → R D) (r : R D) : R D := r.bind fun x m1 => (f x m1).calm
@[simp] theorem eUn_eq {f a ρ m} : eUn f a ρ m = un1 f (a ρ m) := nr rfl
@[simp] theorem un1_ok {f x m} : un1 f (.ok x m) = (f x m).calm := nr rfl
@[simp] theorem eC_eq {d ρ m} : eC d ρ m = .ok d m := nr rfl
def vr (o : Option (Option D)) (m : M) : R D := match o with
  | some (some d) => .ok d m
  | _ => .bad
@[simp] theorem eV_eq {i ρ m} : eV i ρ m = vr ρ[i]? m := nr rfl
@[simp] theorem vr_ok {d m} : vr (some (some d)) m = .ok d m := nr rfl
def ac2 (x : D) (r : R (List D)) : R (List D) := r.bind fun xs m2 => .ok (x :: xs) m2
def ac1 (a : MA) (ρ : Fr) (r : R D) : R (List D) := r.bind fun x m1 => ac2 x (a ρ m1)
@[simp] theorem aNil_eq {ρ m} : aNil ρ m = .ok [] m := nr rfl
@[simp] theorem aCons_eq {e a ρ m} : aCons e a ρ m = ac1 a ρ (e ρ m) := nr rfl
@[simp] theorem ac1_ok {a ρ x m} : ac1 a ρ (.ok x m) = ac2 x (a ρ m) := nr rfl
@[simp] theorem ac2_ok {x xs m} : ac2 x (.ok xs m) = .ok (x :: xs) m := nr rfl
def fn1 (f : MF) (r : R (List D)) : R D := r.bind f
@[simp] theorem eFn_eq {f a ρ m} : eFn f a ρ m = fn1 f (a ρ m) := nr rfl
@[simp] theorem fn1_ok {f xs m} : fn1 f (.ok xs m) = f xs m := nr rfl
def me2 (f : MF) (x : D) (r : R (List D)) : R D := r.bind fun xs m2 => f (x :: xs) m2
def me1 (C : Nat) (f : MF) (a : MA) (ρ : Fr) (r : R D) : R D := r.bind fun x m1 => if isIns C x m1 then me2 f x (a ρ m1) else .bad
@[simp] theorem eMeth_eq {C f o a ρ m} : eMeth C f o a ρ m = me1 C f a ρ (o ρ m) := nr rfl
@[simp] theorem me1_ok {C f a ρ x m} : me1 C f a ρ (.ok x m) = if isIns C x m then me2 f x (a ρ m) else .bad := nr rfl
@[simp] theorem me2_ok {f x xs m} : me2 f x (.ok xs m) = f (x :: xs) m := nr rfl
def insOb (C : Nat) (o : Option O) : Bool := match o with
  | some (.ins C' _) => C' == C
  | _ => false
@[simp] theorem isIns_ref {C a m} : isIns C (.ref a) m = insOb C m[a]? := nr rfl
@[simp] theorem insOb_ok {C C' fs} : insOb C (some (.ins C' fs)) = (C' == C) := nr rfl
def nw2 (a : Nat) (r : R D) : R D := r.bind fun v m2 => if v = .non then .ok (.ref a) m2 else .bad
def nw1 (C : Nat) (f : MF) (r : R (List D)) : R D := r.bind fun xs m1 => nw2 m1.length (f (.ref m1.length :: xs) (m1 ++ [.ins C []]))
@[simp] theorem eNew_eq {C f a ρ m} : eNew C f a ρ m = nw1 C f (a ρ m) := nr rfl
@[simp] theorem nw1_ok {C f xs m} : nw1 C f (.ok xs m) = nw2 m.length (f (.ref m.length :: xs) (m ++ [.ins C []])) := nr rfl
@[simp] theorem nw2_ok {a m} : nw2 a (.ok .non m) = .ok (.ref a) m := nr rfl
def tu1 (r : R (List D)) : R D := r.bind fun xs m1 => if xs.length ≤ LIM then .ok (.tup xs) m1 else .bad
@[simp] theorem eTup_eq {a ρ m} : eTup a ρ m = tu1 (a ρ m) := nr rfl
theorem tu1_ok {xs m} (h : xs.length ≤ 1000) : tu1 (.ok xs m) = .ok (.tup xs) m := by
  have : xs.length ≤ LIM := Nat.le_trans h (by decide)
  simp [tu1, this]
@[simp] theorem tu1_2 {a b m} : tu1 (.ok [a, b] m) = .ok (.tup [a, b]) m := tu1_ok (by simp)
@[simp] theorem tu1_3 {a b c m} : tu1 (.ok [a, b, c] m) = .ok (.tup [a, b, c]) m := tu1_ok (by simp)
@[simp] theorem tu1_4 {a b c d m} : tu1 (.ok [a, b, c, d] m) = .ok (.tup [a, b, c, d]) m := tu1_ok (by simp)
def ls1 (r : R (List D)) : R D := r.bind fun xs m1 => if xs.length ≤ LIM then .ok (.ref m1.length) (m1 ++ [.lst xs]) else .bad
@[simp] theorem eLst_eq {a ρ m} : eLst a ρ m = ls1 (a ρ m) := nr rfl
theorem ls1_ok {xs m} (h : xs.length ≤ 1000) : ls1 (.ok xs m) = .ok (.ref m.length) (m ++ [.lst xs]) := by
  have : xs.length ≤ LIM := Nat.le_trans h (by decide)
  simp [ls1, this]
@[simp] theorem ls1_0 {m} : ls1 (.ok [] m) = .ok (.ref m.length) (m ++ [.lst []]) := ls1_ok (by simp)
@[simp] theorem ls1_1 {a m} : ls1 (.ok [a] m) = .ok (.ref m.length) (m ++ [.lst [a]]) := ls1_ok (by simp)
@[simp] theorem ls1_2 {a b m} : ls1 (.ok [a, b] m) = .ok (.ref m.length) (m ++ [.lst [a, b]]) := ls1_ok (by simp)
@[simp] theorem ls1_3 {a b c m} : ls1 (.ok [a, b, c] m) = .ok (.ref m.length) (m ++ [.lst [a, b, c]]) := ls1_ok (by simp)
@[simp] theorem ls1_4 {a b c d m} : ls1 (.ok [a, b, c, d] m) = .ok (.ref m.length) (m ++ [.lst [a, b, c, d]]) := ls1_ok (by simp)
@[simp] theorem eD0_eq {ρ m} : eD0 ρ m = .ok (.ref m.length) (m ++ [.dct false []]) := nr rfl
def vK (o : Option D) (m : M) : R D := match o with
  | some v => .ok v m
  | none => .bad
@[simp] theorem vK_ok {v m} : vK (some v) m = .ok v m := nr rfl
def fldOb (Cs : List Nat) (k : Nat) (o : Option O) (m : M) : R D := match o with
  | some (.ins C fs) => if C ∈ Cs then vK (getF fs k) m else .bad
  | _ => .bad
@[simp] theorem eFld_eq {Cs k a ρ m} : eFld Cs k a ρ m = un1 (pFld Cs k) (a ρ m) := nr rfl
@[simp] theorem pFld_ref {Cs k a m} : pFld Cs k (.ref a) m = fldOb Cs k m[a]? m := by
  unfold pFld fldOb vK
  first
    | (dsimp only; done)
    | (dsimp only
       rcases m[a]? with _ | o
       · rfl
       · cases o <;> rfl)
@[simp] theorem fldOb_ok {Cs k C fs m} : fldOb Cs k (some (.ins C fs)) m = if C ∈ Cs then vK (getF fs k) m else .bad := nr rfl
@[simp] theorem getF_cons {k k' : Nat} {v : D} {r} : getF ((k', v) :: r) k = if k' = k then some v else getF r k := nr rfl
@[simp] theorem putFd_nil {k v} : putFd [] k v = [(k, v)] := nr rfl
@[simp] theorem putFd_cons {k k' : Nat} {v v' : D} {r} : putFd ((k', v') :: r) k v = if k' = k then (k', v) :: r else (k', v') :: putFd r k v := nr rfl
/-! operators -/
@[simp] theorem pAdd_int {i j m} : pAdd (.int i) (.int j) m = .ok (.int (i + j)) m := nr rfl
@[simp] theorem pSub_int {i j m} : pSub (.int i) (.int j) m = .ok (.int (i - j)) m := nr rfl
@[simp] theorem pLt_int {i j m} : pLt (.int i) (.int j) m = .ok (.bl (decide (i < j))) m := nr rfl
@[simp] theorem pGt_int {i j m} : pGt (.int i) (.int j) m = .ok (.bl (decide (j < i))) m := nr rfl
@[simp] theorem pLe_int {i j m} : pLe (.int i) (.int j) m = .ok (.bl (decide (i ≤ j))) m := nr rfl
@[simp] theorem pGe_int {i j m} : pGe (.int i) (.int j) m = .ok (.bl (decide (j ≤ i))) m := nr rfl
@[simp] theorem pGt_str {i j m} : pGt (.str i) (.str j) m = .ok (.bl (decide (j < i))) m := nr rfl
@[simp] theorem pNeg_int {i m} : pNeg (.int i) m = .ok (.int (-i)) m := nr rfl
theorem pAdd_str {a b : Tx} {m} (h : a.length + b.length ≤ LIM) : pAdd (.str a) (.str b) m = .ok (.str (a ++ b)) m := by
  show (if _ then _ else _) = _
  rw [if_pos h]
theorem pMul_l {i j : Int} {m} (h : -(2 ^ 64) < i ∧ i < 2 ^ 64) : pMul (.int i) (.int j) m = .ok (.int (i * j)) m := by
  show (if _ then _ else _) = _
  rw [if_pos (.inl h)]
theorem pMul_r {i j : Int} {m} (h : -(2 ^ 64) < j ∧ j < 2 ^ 64) : pMul (.int i) (.int j) m = .ok (.int (i * j)) m := by
  show (if _ then _ else _) = _
  rw [if_pos (.inr h)]
theorem pMod_ok {i j : Int} {m} (h : j ≠ 0) : pMod (.int i) (.int j) m = .ok (.int (i.fmod j)) m := by
  show (if _ then _ else _) = _
  rw [if_pos h]
theorem pDiv_ok {i j : Int} {m} (h : j ≠ 0) (h2 : j.natAbs < 1073741824) : pDiv (.int i) (.int j) m = .ok (.int (i.fdiv j)) m := by
  show (if _ then _ else _) = _
  rw [if_pos ⟨h, h2⟩]
def catOb (o o' : Option O) (m : M) : R D := match o, o' with
  | some (.lst xs), some (.lst ys) => if xs.length + ys.length ≤ LIM then .ok (.ref m.length) (m ++ [.lst (xs ++ ys)]) else .bad
  | _, _ => .bad
@[simp] theorem pAdd_ref {a b m} : pAdd (.ref a) (.ref b) m = catOb m[a]? m[b]? m := nr rfl
theorem catOb_ok {xs ys m} (h : xs.length + ys.length ≤ LIM) : catOb (some (.lst xs)) (some (.lst ys)) m = .ok (.ref m.length) (m ++ [.lst (xs ++ ys)]) := by
  show (if _ then _ else _) = _
  rw [if_pos h]
def bK (o : Option Bool) (m : M) : R D := match o with
  | some b => .ok (.bl b) m
  | none => .bad
def bN (o : Option Bool) (m : M) : R D := match o with
  | some b => .ok (.bl (!b)) m
  | none => .bad
@[simp] theorem bK_ok {b m} : bK (some b) m = .ok (.bl b) m := nr rfl
@[simp] theorem bN_ok {b m} : bN (some b) m = .ok (.bl (!b)) m := nr rfl
@[simp] theorem pEq_eq {x y m} : pEq x y m = bK (eqO m x y) m := nr rfl
@[simp] theorem pNe_eq {x y m} : pNe x y m = bN (eqO m x y) m := nr rfl
@[simp] theorem pIn_eq {x y m} : pIn x y m = bK (inO m x y) m := nr rfl
@[simp] theorem pNotIn_eq {x y m} : pNotIn x y m = bN (inO m x y) m := nr rfl
@[simp] theorem pIsN_eq {x m} : pIsN x m = .ok (.bl (decide (x = .non))) m := nr rfl
@[simp] theorem pNotN_eq {x m} : pNotN x m = .ok (.bl (!decide (x = .non))) m := nr rfl
@[simp] theorem eqO_str {m a b} : eqO m (.str a) (.str b) = some (decide (a = b)) := by simp [eqO, tree, DEP, okEq, T.noBl]
@[simp] theorem eqO_int {m a b} : eqO m (.int a) (.int b) = some (decide (a = b)) := by simp [eqO, tree, DEP, okEq, T.noBl]
/-! places -/
def ixOb (o : Option O) (i : D) (m : M) : R D := match o with
  | some (.lst xs) => match i with
    | .int k => vK (atI xs k) m
    | _ => .bad
  | some (.dct _ kvs) => vK ((toKy i).bind (getKv kvs)) m
  | _ => .bad
@[simp] theorem pIx_ref {a i m} : pIx (.ref a) i m = ixOb m[a]? i m := by
  unfold pIx ixOb vK
  dsimp only
  cases m[a]? with
  | none => rfl
  | some o =>
    cases o with
    | lst xs => cases i <;> rfl
    | dct lk kvs => dsimp only; cases toKy i <;> rfl
    | ins C fs => rfl
    | xdc fs => rfl
@[simp] theorem ixOb_lst {xs k m} : ixOb (some (.lst xs)) (.int k) m = vK (atI xs k) m := nr rfl
@[simp] theorem ixOb_dct {lk kvs i m} : ixOb (some (.dct lk kvs)) i m = vK ((toKy i).bind (getKv kvs)) m := nr rfl
@[simp] theorem toKy_str {s} : toKy (.str s) = some (.inr s) := nr rfl
@[simp] theorem toKy_int {s} : toKy (.int s) = some (.inl s) := nr rfl
@[simp] theorem pIx_tup {xs k m} : pIx (.tup xs) (.int k) m = vK (atI xs k) m := by
  unfold pIx vK; first | (dsimp only; done) | (dsimp only; split <;> simp_all)
@[simp] theorem pIx_fls {xs k m} : pIx (.fls xs) (.int k) m = vK (atI xs k) m := by
  unfold pIx vK; first | (dsimp only; done) | (dsimp only; split <;> simp_all)
@[simp] theorem getKv_nil {k} : getKv [] k = none := nr rfl
@[simp] theorem getKv_cons {k k' : Ky} {v : D} {r} : getKv ((k', v) :: r) k = if k' = k then some v else getKv r k := nr rfl
theorem atI_nat {α : Type} {xs : List α} {k : Nat} : atI xs (k : Int) = xs[k]? := by
  unfold atI ixN
  rw [if_pos (by omega)]
  by_cases h : k < xs.length
  · rw [if_pos (by omega)]; simp
  · rw [if_neg (by omega), List.getElem?_eq_none (by omega)]; rfl
@[simp] theorem atI_0 {α : Type} {x : α} {r} : atI (x :: r) 0 = some x := by
  have := @atI_nat α (x :: r) 0
  simpa using this
@[simp] theorem atI_1 {α : Type} {x y : α} {r} : atI (x :: y :: r) 1 = some y := by
  have := @atI_nat α (x :: y :: r) 1
  simpa using this
@[simp] theorem atI_2 {α : Type} {x y z : α} {r} : atI (x :: y :: z :: r) 2 = some z := by
  have := @atI_nat α (x :: y :: z :: r) 2
  simpa using this
@[simp] theorem atI_3 {α : Type} {x y z u : α} {r} : atI (x :: y :: z :: u :: r) 3 = some u := by
  have := @atI_nat α (x :: y :: z :: u :: r) 3
  simpa using this
def lenOb (o : Option O) (m : M) : R D := match o with
  | some (.lst xs) => .ok (.int xs.length) m
  | some (.dct false kvs) => .ok (.int kvs.length) m
  | _ => .bad
@[simp] theorem pLen_ref {a m} : pLen (.ref a) m = lenOb m[a]? m := nr rfl
@[simp] theorem lenOb_lst {xs m} : lenOb (some (.lst xs)) m = .ok (.int xs.length) m := nr rfl
@[simp] theorem lenOb_dct {xs m} : lenOb (some (.dct false xs)) m = .ok (.int xs.length) m := nr rfl
@[simp] theorem pLen_fls {xs m} : pLen (.fls xs) m = .ok (.int xs.length) m := nr rfl
theorem pLen_str {s m} (h : s.length ≤ LIM) : pLen (.str s) m = .ok (.int s.length) m := by
  show (if _ then _ else _) = _
  rw [if_pos h]
theorem pStr_nat {n : Nat} {m} (h : n < 1000) : pStr (.int (n : Int)) m = .ok (.str (numT n)) m := by
  have h2 : (0 : Int) ≤ n ∧ (n : Int) < 10000000000 := ⟨by omega, by omega⟩
  simp only [pStr, h2, and_self, if_true, Int.toNat_natCast]
/-! methods -/
def m2 (f : D → D → M → R D) (x : D) (r : R D) : R D := r.bind fun y m2 => (f x y m2).calm
def m1 (T : Nat) (f : D → D → M → R D) (a : ME) (ρ : Fr) (r : R D) : R D := r.bind fun x m1 => if isTy T x m1 then m2 f x (a ρ m1) else .bad
@[simp] theorem eM1_eq {T f o a ρ m} : eM1 T f o a ρ m = m1 T f a ρ (o ρ m) := nr rfl
@[simp] theorem m1_ok {T f a ρ x m} : m1 T f a ρ (.ok x m) = if isTy T x m then m2 f x (a ρ m) else .bad := nr rfl
@[simp] theorem m2_ok {f x y m} : m2 f x (.ok y m) = (f x y m).calm := nr rfl
def tyOb (T : Nat) (o : Option O) : Bool := match o with
  | some (.lst _) => T == 0
  | some (.dct false _) => T == 1
  | _ => false
@[simp] theorem isTy_ref {T a m} : isTy T (.ref a) m = tyOb T m[a]? := nr rfl
@[simp] theorem isTy_str {T s m} : isTy T (.str s) m = (T == 2) := nr rfl
@[simp] theorem tyOb_lst {T xs} : tyOb T (some (.lst xs)) = (T == 0) := nr rfl
@[simp] theorem tyOb_dct {T xs} : tyOb T (some (.dct false xs)) = (T == 1) := nr rfl
def appOb (o : Option O) (a : Nat) (v : D) (m : M) : R D := match o with
  | some (.lst xs) => if xs.length < LIM then .ok .non (m.set a (.lst (xs ++ [v]))) else .bad
  | _ => .bad
@[simp] theorem pAppend_ref {a v m} : pAppend (.ref a) v m = appOb m[a]? a v m := nr rfl
theorem appOb_ok {xs a v m} (h : xs.length < LIM) : appOb (some (.lst xs)) a v m = .ok .non (m.set a (.lst (xs ++ [v]))) := by
  show (if _ then _ else _) = _
  rw [if_pos h]
def popOb (o : Option O) (a k : Nat) (m : M) : R D := match o with
  | some (.lst xs) => match xs[k]? with
    | some v => .ok v (m.set a (.lst (xs.eraseIdx k)))
    | none => .bad
  | _ => .bad
theorem pPopL_nat {a k : Nat} {m} : pPopL (.ref a) (.int (k : Int)) m = popOb m[a]? a k m := by
  unfold pPopL popOb
  dsimp only
  cases m[a]? with
  | none => rfl
  | some o =>
    cases o with
    | lst xs => simp <;> rfl
    | _ => rfl
theorem popOb_ok {xs : List D} {a k m v} (h : xs[k]? = some v) : popOb (some (.lst xs)) a k m = .ok v (m.set a (.lst (xs.eraseIdx k))) := by
  unfold popOb; simp only [h]
/-! tests -/
def tv1 (r : R D) : R Bool := r.bind fun x m1 => match x with
  | .bl b => .ok b m1
  | _ => .bad
@[simp] theorem tV_eq {a ρ m} : tV a ρ m = tv1 (a ρ m) := nr rfl
@[simp] theorem tv1_ok {b m} : tv1 (.ok (.bl b) m) = .ok b m := nr rfl
def tn1 (r : R Bool) : R Bool := r.bind fun x m1 => .ok (!x) m1
@[simp] theorem tNot_eq {a ρ m} : tNot a ρ m = tn1 (a ρ m) := nr rfl
@[simp] theorem tn1_ok {b m} : tn1 (.ok b m) = .ok (!b) m := nr rfl
def ta1 (b : MT) (ρ : Fr) (r : R Bool) : R Bool := r.bind fun x m1 => if x then b ρ m1 else .ok false m1
@[simp] theorem tAnd_eq {a b ρ m} : tAnd a b ρ m = ta1 b ρ (a ρ m) := nr rfl
@[simp] theorem ta1_ok {b ρ x m} : ta1 b ρ (.ok x m) = if x then b ρ m else .ok false m := nr rfl
def to1 (b : MT) (ρ : Fr) (r : R Bool) : R Bool := r.bind fun x m1 => if x then .ok true m1 else b ρ m1
@[simp] theorem tOr_eq {a b ρ m} : tOr a b ρ m = to1 b ρ (a ρ m) := nr rfl
@[simp] theorem to1_ok {b ρ x m} : to1 b ρ (.ok x m) = if x then .ok true m else b ρ m := nr rfl
@[simp] theorem tYes_eq {ρ m} : tYes ρ m = .ok true m := nr rfl
def ea1 (b : ME) (ρ : Fr) (r : R D) : R D := r.bind fun x m1 => match x with
  | .bl true => b ρ m1
  | .bl false => .ok (.bl false) m1
  | _ => .bad
@[simp] theorem eAnd_eq {a b ρ m} : eAnd a b ρ m = ea1 b ρ (a ρ m) := nr rfl
@[simp] theorem ea1_ok {b ρ x m} : ea1 b ρ (.ok (.bl x) m) = if x then b ρ m else .ok (.bl false) m := by cases x <;> rfl
def eo1 (b : ME) (ρ : Fr) (r : R D) : R D := r.bind fun x m1 => match x with
  | .bl true => .ok (.bl true) m1
  | .bl false => b ρ m1
  | _ => .bad
@[simp] theorem eOr_eq {a b ρ m} : eOr a b ρ m = eo1 b ρ (a ρ m) := nr rfl
@[simp] theorem eo1_ok {b ρ x m} : eo1 b ρ (.ok (.bl x) m) = if x then .ok (.bl true) m else b ρ m := by cases x <;> rfl
def en1 (r : R D) : R D := r.bind fun x m1 => match x with
  | .bl b => .ok (.bl (!b)) m1
  | _ => .bad
@[simp] theorem eNot_eq {a ρ m} : eNot a ρ m = en1 (a ρ m) := nr rfl
@[simp] theorem en1_ok {x m} : en1 (.ok (.bl x) m) = .ok (.bl (!x)) m := nr rfl
def ei1 (a b : ME) (ρ : Fr) (r : R Bool) : R D := r.bind fun x m1 => if x then a ρ m1 else b ρ m1
@[simp] theorem eIf_eq {t a b ρ m} : eIf t a b ρ m = ei1 a b ρ (t ρ m) := nr rfl
@[simp] theorem ei1_ok {a b ρ x m} : ei1 a b ρ (.ok x m) = if x then a ρ m else b ρ m := nr rfl
def ch3 (g : D → D → M → R D) (y : D) (r : R D) : R D := r.bind fun z m4 => (g y z m4).calm
def ch2 (g : D → D → M → R D) (c : ME) (ρ : Fr) (y : D) (r : R D) : R D := r.bind fun k m3 => match k with
  | .bl true => ch3 g y (c ρ m3)
  | .bl false => .ok (.bl false) m3
  | _ => .bad
def ch1 (f g : D → D → M → R D) (c : ME) (ρ : Fr) (x : D) (r : R D) : R D := r.bind fun y m2 => ch2 g c ρ y (f x y m2).calm
def ch0 (f g : D → D → M → R D) (b c : ME) (ρ : Fr) (r : R D) : R D := r.bind fun x m1 => ch1 f g c ρ x (b ρ m1)
@[simp] theorem eChain_eq {f g a b c ρ m} : eChain f g a b c ρ m = ch0 f g b c ρ (a ρ m) := nr rfl
@[simp] theorem ch0_ok {f g b c ρ x m} : ch0 f g b c ρ (.ok x m) = ch1 f g c ρ x (b ρ m) := nr rfl
@[simp] theorem ch1_ok {f g c ρ x y m} : ch1 f g c ρ x (.ok y m) = ch2 g c ρ y (f x y m).calm := nr rfl
@[simp] theorem ch2_ok {g c ρ y k m} : ch2 g c ρ y (.ok (.bl k) m) = if k then ch3 g y (c ρ m) else .ok (.bl false) m := by cases k <;> rfl
@[simp] theorem ch3_ok {g y z m} : ch3 g y (.ok z m) = (g y z m).calm := nr rfl
/-! statements -/
def sq1 (b : MS) (r : SR) : SR := match r with
  | .nx ρ1 m1 => b ρ1 m1
  | r => r
@[simp] theorem sSeq_eq {a b ρ m} : sSeq a b ρ m = sq1 b (a ρ m) := by
  unfold sSeq sq1; cases a ρ m <;> rfl
@[simp] theorem sq1_nx {b ρ m} : sq1 b (.nx ρ m) = b ρ m := nr rfl
@[simp] theorem sq1_rt {b d m} : sq1 b (.rt d m) = .rt d m := nr rfl
@[simp] theorem sq1_ct {b ρ m} : sq1 b (.ct ρ m) = .ct ρ m := nr rfl
@[simp] theorem sq1_bad {b} : sq1 b .bad = .bad := nr rfl
@[simp] theorem sq1_exc {b x ρ m} : sq1 b (.exc x ρ m) = .exc x ρ m := nr rfl
@[simp] theorem sPass_eq {ρ m} : sPass ρ m = .nx ρ m := nr rfl
@[simp] theorem sCont_eq {ρ m} : sCont ρ m = .ct ρ m := nr rfl
@[simp] theorem sBad_eq {ρ m} : sBad ρ m = .bad := nr rfl
def ex1 (ρ : Fr) (r : R D) : SR := r.toS ρ fun _ m1 => .nx ρ m1
@[simp] theorem sExp_eq {e ρ m} : sExp e ρ m = ex1 ρ (e ρ m) := nr rfl
@[simp] theorem ex1_ok {ρ d m} : ex1 ρ (.ok d m) = .nx ρ m := nr rfl
def rt1 (ρ : Fr) (r : R D) : SR := r.toS ρ fun d m1 => .rt d m1
@[simp] theorem sRet_eq {e ρ m} : sRet e ρ m = rt1 ρ (e ρ m) := nr rfl
@[simp] theorem rt1_ok {ρ d m} : rt1 ρ (.ok d m) = .rt d m := nr rfl
def as1 (g : MG) (ρ : Fr) (r : R D) : SR := r.toS ρ fun d m1 => gDo g d ρ m1
@[simp] theorem sAsg_eq {g e ρ m} : sAsg g e ρ m = as1 g ρ (e ρ m) := nr rfl
@[simp] theorem as1_ok {g ρ d m} : as1 g ρ (.ok d m) = gDo g d ρ m := nr rfl
@[simp] theorem gDo_V {i d ρ m} : gDo (gV i) d ρ m = .nx (ρ.set i (some d)) m := nr rfl
@[simp] theorem gDo_T2 {i j a b ρ m} : gDo (gTup [gV i, gV j]) (.tup [a, b]) ρ m = .nx ((ρ.set i (some a)).set j (some b)) m := nr rfl
@[simp] theorem gDo_T3 {i j k a b c ρ m} : gDo (gTup [gV i, gV j, gV k]) (.tup [a, b, c]) ρ m = .nx (((ρ.set i (some a)).set j (some b)).set k (some c)) m := nr rfl
def if1 (a b : MS) (ρ : Fr) (r : R Bool) : SR := r.toS ρ fun c m1 => if c then a ρ m1 else b ρ m1
@[simp] theorem sIf_eq {t a b ρ m} : sIf t a b ρ m = if1 a b ρ (t ρ m) := nr rfl
@[simp] theorem if1_ok {a b ρ c m} : if1 a b ρ (.ok c m) = if c then a ρ m else b ρ m := nr rfl
def si3 (ρ : Fr) (z x : D) (r : R D) : SR := r.toS ρ fun y m3 => ofO ρ (pSetIx x y z m3)
def si2 (i : ME) (ρ : Fr) (z : D) (r : R D) : SR := r.toS ρ fun x m2 => si3 ρ z x (i ρ m2)
def si1 (o i : ME) (ρ : Fr) (r : R D) : SR := r.toS ρ fun z m1 => si2 i ρ z (o ρ m1)
@[simp] theorem sSetIx_eq {o i v ρ m} : sSetIx o i v ρ m = si1 o i ρ (v ρ m) := nr rfl
@[simp] theorem si1_ok {o i ρ z m} : si1 o i ρ (.ok z m) = si2 i ρ z (o ρ m) := nr rfl
@[simp] theorem si2_ok {i ρ z x m} : si2 i ρ z (.ok x m) = si3 ρ z x (i ρ m) := nr rfl
@[simp] theorem si3_ok {ρ z x y m} : si3 ρ z x (.ok y m) = ofO ρ (pSetIx x y z m) := nr rfl
@[simp] theorem ofO_ok {ρ m} : ofO ρ (some m) = .nx ρ m := nr rfl
def setOb (o : Option O) (a : Nat) (i v : D) (m : M) : Option M := match o with
  | some (.lst xs) => match i with
    | .int k => match ixN xs.length k with
      | some j => some (m.set a (.lst (xs.set j v)))
      | none => none
    | _ => none
  | some (.dct false kvs) => match toKy i with
    | some k => if kvs.length < LIM then some (m.set a (.dct false (putKv kvs k v))) else none
    | none => none
  | _ => none
@[simp] theorem pSetIx_ref {a i v m} : pSetIx (.ref a) i v m = setOb m[a]? a i v m := nr rfl
theorem setOb_lst {xs : List D} {a : Nat} {k : Nat} {v m} (h : k < xs.length) : setOb (some (.lst xs)) a (.int (k : Int)) v m = some (m.set a (.lst (xs.set k v))) := by
  have : ixN xs.length (k : Int) = some k := by unfold ixN; rw [if_pos (by omega), if_pos (by omega)]; simp
  simp [setOb, this]
theorem setOb_dct {kvs a s v m} (h : kvs.length < LIM) : setOb (some (.dct false kvs)) a (.str s) v m = some (m.set a (.dct false (putKv kvs (.inr s) v))) := by
  show (if _ then _ else _) = _
  rw [if_pos h]
theorem setOb_dctI {kvs a i v m} (h : kvs.length < LIM) : setOb (some (.dct false kvs)) a (.int i) v m = some (m.set a (.dct false (putKv kvs (.inl i) v))) := by
  show (if _ then _ else _) = _
  rw [if_pos h]
def sf2 (Cs : List Nat) (k : Nat) (ρ : Fr) (z : D) (r : R D) : SR := r.toS ρ fun x m2 => ofO ρ (pSetFld Cs k x z m2)
def sf1 (Cs : List Nat) (k : Nat) (o : ME) (ρ : Fr) (r : R D) : SR := r.toS ρ fun z m1 => sf2 Cs k ρ z (o ρ m1)
@[simp] theorem sSetFld_eq {Cs k o v ρ m} : sSetFld Cs k o v ρ m = sf1 Cs k o ρ (v ρ m) := nr rfl
@[simp] theorem sf1_ok {Cs k o ρ z m} : sf1 Cs k o ρ (.ok z m) = sf2 Cs k ρ z (o ρ m) := nr rfl
@[simp] theorem sf2_ok {Cs k ρ z x m} : sf2 Cs k ρ z (.ok x m) = ofO ρ (pSetFld Cs k x z m) := nr rfl
def sfOb (Cs : List Nat) (k a : Nat) (v : D) (o : Option O) (m : M) : Option M := match o with
  | some (.ins C fs) => if C ∈ Cs ∧ fs.length < 100 then some (m.set a (.ins C (putFd fs k v))) else none
  | _ => none
@[simp] theorem pSetFld_ref {Cs k a v m} : pSetFld Cs k (.ref a) v m = sfOb Cs k a v m[a]? m := nr rfl
@[simp] theorem sfOb_ok {Cs k a v C fs m} : sfOb Cs k a v (some (.ins C fs)) m = if C ∈ Cs ∧ fs.length < 100 then some (m.set a (.ins C (putFd fs k v))) else none := nr rfl
def fo1 (g : MG) (body : MS) (ρ : Fr) (r : R (List D × (M → Bool))) : SR := r.toS ρ fun p m1 => forGo g p.2 body p.1 ρ m1
@[simp] theorem sFor_eq {g it body ρ m} : sFor g it body ρ m = fo1 g body ρ (it ρ m) := nr rfl
@[simp] theorem fo1_ok {g body ρ p m} : fo1 g body ρ (.ok p m) = forGo g p.2 body p.1 ρ m := nr rfl
def fnK (r : SR) : R D := match r with
  | .nx _ m1 => .ok .non m1
  | .rt d m1 => .ok d m1
  | .exc x _ m1 => .exc x m1
  | _ => .bad
theorem mkFn_eq {n k s ds m} (h : ds.length = n) : mkFn n k s ds m = fnK (s (ds.map some ++ List.replicate (k - n) none) m) := by
  unfold mkFn; rw [if_pos h]; unfold fnK; cases s _ m <;> rfl
@[simp] theorem mkFn_1 {k s a m} : mkFn 1 k s [a] m = fnK (s (some a :: List.replicate (k - 1) none) m) := mkFn_eq rfl
@[simp] theorem mkFn_2 {k s a b m} : mkFn 2 k s [a, b] m = fnK (s (some a :: some b :: List.replicate (k - 2) none) m) := mkFn_eq rfl
@[simp] theorem mkFn_3 {k s a b c m} : mkFn 3 k s [a, b, c] m = fnK (s (some a :: some b :: some c :: List.replicate (k - 3) none) m) := mkFn_eq rfl
@[simp] theorem mkFn_4 {k s a b c d m} : mkFn 4 k s [a, b, c, d] m = fnK (s (some a :: some b :: some c :: some d :: List.replicate (k - 4) none) m) := mkFn_eq rfl
@[simp] theorem fnK_nx {ρ m} : fnK (.nx ρ m) = .ok .non m := nr rfl
@[simp] theorem fnK_rt {d m} : fnK (.rt d m) = .ok d m := nr rfl
/-! what is walked -/
def il1 (o : Option O) (a : Nat) (m : M) : R (List D × (M → Bool)) := match o with
  | some (.lst xs) => .ok (xs, fun m => isObj m a (.lst xs)) m
  | _ => .bad
def it1 (f : D → M → R (List D × (M → Bool))) (r : R D) : R (List D × (M → Bool)) := r.bind f
@[simp] theorem iList_eq {e ρ m} : iList e ρ m = it1 (fun x m1 => match x with
  | .ref a => il1 m1[a]? a m1
  | _ => .bad) (e ρ m) := nr rfl
@[simp] theorem it1_ok {f d m} : it1 f (.ok d m) = f d m := nr rfl
@[simp] theorem il1_ok {xs a m} : il1 (some (.lst xs)) a m = .ok (xs, fun m => isObj m a (.lst xs)) m := nr rfl
theorem isObj_ok {m a o} (h : m[a]? = some o) : isObj m a o = true := by simp [isObj, h]
end Mn
end

section
set_option Elab.async false
set_option linter.all false
set_option maxRecDepth 100000
set_option maxHeartbeats 2000000
namespace Mn
open PySem PySem.Spec L2 TL
/-- what the text's error classes must be -/
structure ExOk (K : PySem.W.Frag) (mg : Str → Option Value) (C : Addr) (x : Str) : Prop where
  kp : PySem.W.keepIn K (.ref C) = true
  sb : PySem.W.subIn K (.ref C) (.type "BaseException") = some true
  ty : PySem.W.typeIn K (.ref C) = some (.type "type")
  gl : mg x = some (.ref C)
  hd : PySem.W.hasDictIn K C = true
/-- one without an __init__ of its own -/
abbrev Ex0 (K : PySem.W.Frag) (C : Addr) : Prop := PySem.W.excIn K C [.type "ValueError", .type "Exception", .type "BaseException", .type "object"] "ValueError.__new__" = true
section
variable {X : Cx} {G : Tb} {pos p p2 p3 pos' np : Pos} {x n : Str} {body suite : List Stmt} {b₀ : Stmt}
theorem rs_raise0 {ci j : Nat} {m : Str} (T : ExOk X.K X.mg (G.cA ci) x) (q : Ex0 X.K (G.cA ci)) (hg : Gl X x) (hc : X.calm = true := by rfl) (hdb : (x == ("__debug__" : Str)) = false := by decide) :
    RS X G (.Raise (some (.Call (.Name x p) [.Constant (.str m) j p2] [] p3)) none pos) (sRaise ci) :=
  (ps_raise hc takes_Wm (pmk_own PySem.F.excBase_ValueError q T.gl T.kp (raises_own T.sb T.ty) hg hdb)).weak fun D σ H ⟨ι, m, ρ, S, E, P⟩ => P ι H σ _ none (List.prefix_refl _) (Le.refl _) S E ⟨rfl, rfl⟩
theorem names_of {ci : Nat} (T : ExOk X.K X.mg (G.cA ci) x) (hg : Gl X x) (hdb : (x == ("__debug__" : Str)) = false := by decide) : Names X x (.ref (G.cA ci)) := ⟨hg, hdb, .inl T.gl⟩
/-- which of the classes xs are sorts of the class ci: those of cs -/
def SubsOf (K : PySem.W.Frag) (cA : Nat → Addr) (ci : Nat) (xs cs : List Nat) : Prop := ∀ c ∈ xs, PySem.W.subIn K (.ref (cA c)) (.ref (cA ci)) = some (decide (c ∈ cs))
theorem okB_c {xs ys zs : List Nat} {y : Xn} (h : okB xs ys y = true) (hz : ∀ c, c ∈ xs ∨ c ∈ ys → c ∈ zs := by decide) : y.c ∈ zs := by
  unfold okB at h
  cases e : y.dx with
  | none => rw [e] at h; exact hz _ (.inl (of_decide_eq_true h))
  | some i => rw [e] at h; exact hz _ (.inr (of_decide_eq_true h))
theorem exm_of {ci : Nat} {xs ys zs cs : List Nat} (T : ExOk X.K X.mg (G.cA ci) x) (h : SubsOf X.K G.cA ci zs cs) (hz : ∀ c, c ∈ xs ∨ c ∈ ys → c ∈ zs) : ∀ y : Xn, okB xs ys y = true → PySem.W.exmOne X.K (.ref (G.cA y.c)) (.ref (G.cA ci)) = some (decide (y.c ∈ cs)) :=
  fun y hy => PySem.W.exm_ref T.sb T.hd T.ty (h y.c (okB_c hy hz))
end
section
variable {X : Cx} {G : Tb} {a : Expr} {ea : ME} {pos p : Pos} {A : Str} {x0 D CA : Addr} {oe : Obj} {d : Option Addr} {pn : List (Addr × Obj)} {y : Xn} {b : Bool} {p2 : Pos}
/-- the held error's dict is there -/
def Dxs (d : Option Addr) (H : Hp) : Prop := ∀ dd, d = some dd → ∃ ls, H dd = some (.xd ls)
theorem held_dx {ι : List Addr} {H : Hp} {m : M} {v : V} (S : Sim G X.K ι H m) (hd : d.isSome = y.dx.isSome) (r : RD X.K ι H (hV y x0 (d.getD 0)) v) (h : dxOk (hV y x0 (d.getD 0)) m = true) : v = .ref x0 ∧ Dxs d H := by
  unfold hV at r h
  cases e : y.dx with
  | none =>
    rw [e] at r h hd
    cases d with
    | some dd => cases hd
    | none => cases r; exact ⟨rfl, fun _ z => nomatch z⟩
  | some i =>
    rw [e] at r h hd
    cases d with
    | none => cases hd
    | some dd =>
      cases r with
      | exn _ hi =>
        refine ⟨rfl, fun d' z => ?_⟩
        cases z
        dsimp only [dxOk, Option.getD] at h hi
        cases em : m[i]? with
        | none => rw [em] at h; cases h
        | some ob =>
          rw [em] at h
          cases ob with
          | xdc fs => obtain ⟨ls, q, _⟩ := S.ob i _ _ em hi; exact ⟨ls, q⟩
          | _ => cases h
theorem inst_of {pins : List (Addr × Obj)} {σ : L2.St} {H : Hp} {s : Shared} (I : Inv (X.suite x0 ((x0, oe) :: pn)) pins σ H s) (hz : Zc (.ref D) d oe) (hf : ∃ vs, oe.data = .fields vs) (h : Dxs d H) : ∃ od, PySem.W.InstAt s.heap x0 oe D od := by
  obtain ⟨hget, _⟩ := I.pin (x0, oe) (List.mem_append_left _ List.mem_cons_self)
  obtain ⟨vs, hv⟩ := hf
  cases d with
  | none => exact ⟨none, hget, hz.1, by unfold PySem.W.notCls; rw [hv] <;> rfl, by rw [hz.2]; trivial⟩
  | some dd =>
    obtain ⟨ls, q⟩ := h dd rfl
    obtain ⟨mA, hns, _⟩ := (show ObjOk X.prog X.w H s.heap dd (.xd ls) from I.hok dd _ q)
    obtain ⟨od, ho, _⟩ := lookIn_ns hns
    exact ⟨some od, hget, hz.1, by unfold PySem.W.notCls; rw [hv] <;> rfl, by rw [hz.2]; exact ho⟩
theorem kitx_of (C : ExcC X.K D) {od : Option Obj} : PySem.W.KitX X.K (.ref x0) (.ref D) (fun h => PySem.W.InstAt h x0 oe D od) :=
  PySem.W.kitx_exc (by obtain ⟨cd, hc, _⟩ := PySem.W.any_some C.hd; rw [hc]; rfl) C.hg C.hk C.hs C.ha C.hn C.ht C.hm
def rIsX (K : PySem.W.Frag) (D a : Addr) (d : Option Addr) : List V → Hp → VK → Prop := fun xs H Q => ∃ (c : V) (cv : Value) (b : Bool), xs = [.ref a, c] ∧ (∀ u, RelV c u → u = cv) ∧ Dxs d H ∧ PySem.W.kitOne K (.ref D) cv = some b ∧ Q (.bl b) H
theorem call_isX (C : ExcC X.K D) (hz : Zc (.ref D) d oe) (hf : ∃ vs, oe.data = .fields vs) : CallR (X.suite x0 ((x0, oe) :: pn)) (.builtin "isinstance") (rIsX X.K D x0 d) := by
  intro pins s σ H xs us Q I r h
  obtain ⟨c, cv, b, rfl, hcv, hx, e, q⟩ := h
  obtain ⟨u1, u2, rfl, r1, r2⟩ := vals2 r
  cases (show u1 = Value.ref x0 from r1)
  have ec := hcv _ r2
  subst ec
  obtain ⟨od, J⟩ := inst_of I hz hf hx
  exact PySem.W.kia_one (kitx_of C) I.kIn J e (fun z => nomatch z) fun tk => ⟨.bl b, H, I.tok tk, rfl, q⟩
theorem re_isHeld (C : ExcC X.K D) (hz : Zc (.ref D) d oe) (hd : d.isSome = y.dx.isSome) (hf : ∃ vs, oe.data = .fields vs)
    (hg : Gl (X.suite x0 ((x0, oe) :: pn)) "isinstance") (hm : X.mg "isinstance" = none) (hg2 : Gl (X.suite x0 ((x0, oe) :: pn)) A) (hm2 : X.mg A = some (.ref CA)) (hk : PySem.W.kitOne X.K (.ref D) (.ref CA) = some b)
    (ha : RE (X.suite x0 ((x0, oe) :: pn)) G a ea) (hdb : (A == ("__debug__" : Str)) = false := by decide) (hv : bootBuiltins "isinstance" = some (.builtin "isinstance") := by decide +kernel)
    (h1 : starEach [a, .Name A p2] X.env = (false, eval a X.env) :: starEach [.Name A p2] X.env := by rfl) (h2 : starEach [.Name A p2] X.env = (false, eval (.Name A p2) X.env) :: starEach [] X.env := by rfl)
    (hpl : (backTo pos (starEach [.Name A p2] X.env)).any (·.1) = false := by rfl) :
    RE (X.suite x0 ((x0, oe) :: pn)) G (.Call (.Name "isinstance" p) [a, .Name A p2] [] pos) (eUn (pHeld b (hV y x0 (d.getD 0))) ea) := by
  refine (pe_callB (call_isX C hz hf) hg hm hv (pa_cons ha (pa_cons (pe_glob (v := .ref CA) hg2 hm2 rfl hdb) pa_nil h2) h1) (by decide) (by decide) h1 hpl).weak fun σ H Q ⟨ι, m, ρ, S, E, P⟩ => ?_
  refine ⟨ι, m, ρ, S, E, P.bind fun x m1 ι1 H1 v _ p1 l1 S1 rx P1 => ?_⟩
  unfold pHeld at P1
  split at P1
  · rename_i hx
    obtain ⟨rfl, hx⟩ := hx
    obtain ⟨rfl, k⟩ := held_dx S1 hd rx hx
    exact ⟨_, _, b, rfl, fun u r => r, k, hk, P1.okI _ S1 (.bl _)⟩
  · exact P1.elim
/-- isinstance(e, T), T of the language -/
theorem re_isHeldB {T : String} (C : ExcC X.K D) (hz : Zc (.ref D) d oe) (hd : d.isSome = y.dx.isSome) (hf : ∃ vs, oe.data = .fields vs)
    (hg : Gl (X.suite x0 ((x0, oe) :: pn)) "isinstance") (hm : X.mg "isinstance" = none) (hg2 : Gl (X.suite x0 ((x0, oe) :: pn)) A) (hm2 : X.mg A = none) (hk : PySem.W.kitOne X.K (.ref D) (.type T) = some b)
    (ha : RE (X.suite x0 ((x0, oe) :: pn)) G a ea) (hv2 : bootBuiltins A = some (.type T) := by decide +kernel) (hv : bootBuiltins "isinstance" = some (.builtin "isinstance") := by decide +kernel)
    (h1 : starEach [a, .Name A p2] X.env = (false, eval a X.env) :: starEach [.Name A p2] X.env := by rfl) (h2 : starEach [.Name A p2] X.env = (false, eval (.Name A p2) X.env) :: starEach [] X.env := by rfl)
    (hpl : (backTo pos (starEach [.Name A p2] X.env)).any (·.1) = false := by rfl) (hn : A ≠ "__name__" := by decide) (hdb : (A == ("__debug__" : Str)) = false := by decide) :
    RE (X.suite x0 ((x0, oe) :: pn)) G (.Call (.Name "isinstance" p) [a, .Name A p2] [] pos) (eUn (pHeld b (hV y x0 (d.getD 0))) ea) := by
  refine (pe_callB (call_isX C hz hf) hg hm hv (pa_cons ha (pa_cons (pe_bltn (v := .ty T) hg2 hm2 hv2 rfl (hn := hn) (hd := hdb)) pa_nil h2) h1) (by decide) (by decide) h1 hpl).weak fun σ H Q ⟨ι, m, ρ, S, E, P⟩ => ?_
  refine ⟨ι, m, ρ, S, E, P.bind fun x m1 ι1 H1 v _ p1 l1 S1 rx P1 => ?_⟩
  unfold pHeld at P1
  split at P1
  · rename_i hx
    obtain ⟨rfl, hx⟩ := hx
    obtain ⟨rfl, k⟩ := held_dx S1 hd rx hx
    exact ⟨_, _, b, rfl, fun u r => r, k, hk, P1.okI _ S1 (.bl _)⟩
  · exact P1.elim
/-- isinstance(e, (c1, c2, ..)) -/
def rIsXT (K : PySem.W.Frag) (D a : Addr) (d : Option Addr) : List V → Hp → VK → Prop := fun xs H Q => ∃ (tp : Addr) (cs : List V) (us : List Value) (b : Bool), xs = [.ref a, .ref tp] ∧ H tp = some (.tup cs) ∧ Paired ClsV cs us ∧ Dxs d H ∧ PySem.W.kitAny K (.ref D) us = some b ∧ Q (.bl b) H
theorem call_isXT (C : ExcC X.K D) (hz : Zc (.ref D) d oe) (hf : ∃ vs, oe.data = .fields vs) : CallR (X.suite x0 ((x0, oe) :: pn)) (.builtin "isinstance") (rIsXT X.K D x0 d) := by
  intro pins s σ H xs us Q I r h
  obtain ⟨tp, cs, ws, b, rfl, hT, k, hx, e, q⟩ := h
  obtain ⟨u1, u2, rfl, r1, r2⟩ := vals2 r
  cases (show u1 = Value.ref x0 from r1)
  cases (show u2 = Value.ref tp from r2)
  obtain ⟨_, its, rv, o, h1, h2, n, h3⟩ := (show ObjOk X.prog X.w H s.heap tp (.tup cs) from I.hok tp _ hT)
  have e3 := ClsV.all k rv
  subst e3
  obtain ⟨oc, od, dt, sl⟩ := o
  simp only at h2 h3
  subst h2 h3
  obtain ⟨od, J⟩ := inst_of I hz hf hx
  exact PySem.W.kia_tup (kitx_of C) I.kIn J h1 e (fun z => nomatch z) fun tk => ⟨.bl b, H, I.tok tk, rfl, q⟩
def kA (cs : List V) : TA := fun _ H Q => Q cs H
theorem pa_kn {Y : Cx} : PA Y [] (kA []) := pa_nil
theorem pa_kc {Y : Cx} {es : List Expr} {cs : List V} {CA : Addr} {p2 : Pos} (hg : Gl Y A) (hm : Y.mg A = some (.ref CA)) (hr : PA Y es (kA cs)) (hd : (A == ("__debug__" : Str)) = false := by decide)
    (hs : starEach (.Name A p2 :: es) Y.env = (false, eval (.Name A p2) Y.env) :: starEach es Y.env := by rfl) : PA Y (.Name A p2 :: es) (kA (.ref CA :: cs)) :=
  pa_cons (pe_glob (v := .ref CA) hg hm rfl hd) hr hs
theorem re_isHeldT {es : List Expr} {k : Nat} {cs : List V} {us : List Value} (C : ExcC X.K D) (hz : Zc (.ref D) d oe) (hd : d.isSome = y.dx.isSome) (hf : ∃ vs, oe.data = .fields vs)
    (hg : Gl (X.suite x0 ((x0, oe) :: pn)) "isinstance") (hm : X.mg "isinstance" = none) (hes : PA (X.suite x0 ((x0, oe) :: pn)) es (kA cs)) (hcs : Paired ClsV cs us) (hl : cs.length ≤ 100) (hk : PySem.W.kitAny X.K (.ref D) us = some b)
    (ha : RE (X.suite x0 ((x0, oe) :: pn)) G a ea) (hv : bootBuiltins "isinstance" = some (.builtin "isinstance") := by decide +kernel)
    (h1 : starEach [a, .Tuple es k p2] X.env = (false, eval a X.env) :: starEach [.Tuple es k p2] X.env := by rfl) (h2 : starEach [.Tuple es k p2] X.env = (false, eval (.Tuple es k p2) X.env) :: starEach [] X.env := by rfl)
    (hpl : (backTo pos (starEach [.Tuple es k p2] X.env)).any (·.1) = false := by rfl) :
    RE (X.suite x0 ((x0, oe) :: pn)) G (.Call (.Name "isinstance" p) [a, .Tuple es k p2] [] pos) (eUn (pHeld b (hV y x0 (d.getD 0))) ea) := by
  refine (pe_callB (call_isXT C hz hf) hg hm hv (pa_cons ha (pa_cons (pe_tup hes) pa_nil h2) h1) (by decide) (by decide) h1 hpl).weak fun σ H Q ⟨ι, m, ρ, S, E, P⟩ => ?_
  refine ⟨ι, m, ρ, S, E, P.bind fun x m1 ι1 H1 v _ p1 l1 S1 rx P1 => ?_⟩
  unfold pHeld at P1
  split at P1
  · rename_i hx
    obtain ⟨rfl, hx⟩ := hx
    obtain ⟨rfl, kk⟩ := held_dx S1 hd rx hx
    refine ⟨by rw [sizeLine_eq]; omega, fun q hq => ?_⟩
    refine ⟨q, cs, us, b, rfl, upd_same, hcs, fun dd z => ?_, hk, P1 ι1 _ (.bl b) (List.prefix_refl _) (Le.new hq) (S1.fresh hq) (.bl b)⟩
    obtain ⟨ls, e⟩ := kk dd z
    exact ⟨ls, by rw [upd_ne (ne_of_none e hq)]; exact e⟩
  · exact P1.elim
/-- e.f, e the held error -/
theorem re_xf {fn : Str} {k : Nat} (hfn : fn = G.nm k) (T : XfC X.K D) (hno : PySem.W.findIn X.K (.ref D) fn = some none) (hz : Zc (.ref D) d oe) (hd : d.isSome = y.dx.isSome) (hf : ∃ vs, oe.data = .fields vs) (ha : RE (X.suite x0 ((x0, oe) :: pn)) G a ea)
    (hb : attributeBase a fn X.env (eval a X.env) = eval a X.env := by rfl) : RE (X.suite x0 ((x0, oe) :: pn)) G (.Attribute a fn pos) (eUn (pXf k (hV y x0 (d.getD 0))) ea) := by
  refine (pe_xf T hno hz hf ha hb).weak fun σ H Q ⟨ι, m, ρ, S, E, P⟩ => ?_
  refine ⟨ι, m, ρ, S, E, P.bind fun x m1 ι1 H1 v ex p1 l1 S1 rx P1 => ?_⟩
  unfold pXf at P1
  split at P1
  · rename_i hx
    subst hx
    unfold hV at rx P1
    cases e : y.dx with
    | none => rw [e] at P1; exact P1.elim
    | some i =>
      rw [e] at rx P1 hd
      cases d with
      | none => cases hd
      | some dd =>
        cases rx with
        | exn _ hi =>
          dsimp only [xfOf] at P1
          cases em : m1[i]? with
          | none => simp only [em] at P1; exact P1.elim
          | some ob =>
            cases ob with
            | xdc fs =>
              simp only [em] at P1
              obtain ⟨ls, q, rf⟩ := S1.ob i _ _ em hi
              cases eg : getF fs k with
              | none => simp only [eg] at P1; exact P1.elim
              | some z =>
                simp only [eg] at P1
                obtain ⟨w, e1, rd⟩ := rf.get eg
                exact ⟨rfl, rfl, dd, ls, w, rfl, q, by rw [hfn]; exact e1, P1.okI w S1 rd⟩
            | _ => simp only [em] at P1; exact P1.elim
  · exact P1.elim
end
end Mn
end

section
set_option Elab.async false
set_option linter.all false
set_option maxRecDepth 100000
set_option maxHeartbeats 2000000
namespace Mn
open PySem PySem.Spec L2 TL
section
variable {P : Program} {w : World} {K : PySem.W.Frag} {mg : Str → Option Value} {base : Heap}
/-- a def of which nothing is asked -/
theorem fn_bad {G : Tb} {k : Nat} {f : Addr} {fd : FuncData} {ps : List Str} : FnOk P w K mg base (L2.CX P w) k f fd ps (spOf G K fun _ _ => .bad) := by
  refine ⟨fun vs H Q E ⟨_, _, _, _, _, h⟩ => h.elim, fun A outer s H args us vs Q E _ _ _ _ ⟨_, _, _, _, _, h⟩ => h.elim⟩
end
/-! the handlers' outcome does not hang on where the error lies -/
section
variable {y : Xn} {a d : Nat} {m : M} {k : Nat} {ρ : Fr} {x : Option (Option D)} {f : D → M → R D} {g : MG} {b : MT} {e : ME} {ss tt : MS} {z : D}
def dxO (y : Xn) (m : M) : Bool := dxOk (hV y 0 0) m
def xfO (k : Nat) (y : Xn) (m : M) : R D := xfOf k (hV y 0 0) m
@[simp] theorem dxOk_hV : dxOk (hV y a d) m = dxO y m := by unfold dxO hV; cases y.dx <;> rfl
@[simp] theorem xfOf_hV : xfOf k (hV y a d) m = xfO k y m := by unfold xfO hV; cases y.dx <;> rfl
@[simp] theorem vr_none : vr none m = .bad := rfl
@[simp] theorem un1_bad : un1 f .bad = .bad := rfl
@[simp] theorem as1_bad : as1 g ρ .bad = .bad := rfl
@[simp] theorem tv1_bad : tv1 .bad = .bad := rfl
@[simp] theorem tn1_bad : tn1 .bad = .bad := rfl
@[simp] theorem to1_bad : to1 b ρ .bad = .bad := rfl
@[simp] theorem ta1_bad : ta1 b ρ .bad = .bad := rfl
@[simp] theorem ea1_bad : ea1 e ρ .bad = .bad := rfl
@[simp] theorem eo1_bad : eo1 e ρ .bad = .bad := rfl
@[simp] theorem en1_bad : en1 .bad = .bad := rfl
@[simp] theorem rt1_bad : rt1 ρ .bad = .bad := rfl
@[simp] theorem if1_bad : if1 ss tt ρ .bad = .bad := rfl
@[simp] theorem ac1_bad {r : MA} : ac1 r ρ .bad = .bad := rfl
@[simp] theorem ac2_bad : ac2 z .bad = .bad := rfl
@[simp] theorem tu1_bad : tu1 .bad = .bad := rfl
@[simp] theorem ls1_bad : ls1 .bad = .bad := rfl
end
end Mn
end

section
set_option linter.all false
namespace Mn
def cs_one : List Nat := [0]
@[simp] theorem cs_one_0 : 0 ∈ cs_one := by decide
def cs_other : List Nat := [0]
@[simp] theorem cs_other_0 : 0 ∈ cs_other := by decide
def cs_needs : List Nat := [0, 3]
@[simp] theorem cs_needs_0 : 0 ∈ cs_needs := by decide
@[simp] theorem cs_needs_3 : 3 ∈ cs_needs := by decide
def cs_sections : List Nat := [1, 3]
@[simp] theorem cs_sections_1 : 1 ∈ cs_sections := by decide
@[simp] theorem cs_sections_3 : 3 ∈ cs_sections := by decide
def cs_points : List Nat := [1]
@[simp] theorem cs_points_1 : 1 ∈ cs_points := by decide
def cs_links : List Nat := [1]
@[simp] theorem cs_links_1 : 1 ∈ cs_links := by decide
def cs_signals : List Nat := [1]
@[simp] theorem cs_signals_1 : 1 ∈ cs_signals := by decide
def cs_layout : List Nat := [2, 4, 6]
@[simp] theorem cs_layout_2 : 2 ∈ cs_layout := by decide
@[simp] theorem cs_layout_4 : 4 ∈ cs_layout := by decide
@[simp] theorem cs_layout_6 : 6 ∈ cs_layout := by decide
def cs_row : List Nat := [2]
@[simp] theorem cs_row_2 : 2 ∈ cs_row := by decide
def cs_counts : List Nat := [2]
@[simp] theorem cs_counts_2 : 2 ∈ cs_counts := by decide
def cs_signal : List Nat := [3, 4]
@[simp] theorem cs_signal_3 : 3 ∈ cs_signal := by decide
@[simp] theorem cs_signal_4 : 4 ∈ cs_signal := by decide
def cs_target : List Nat := [3]
@[simp] theorem cs_target_3 : 3 ∈ cs_target := by decide
def cs_begin : List Nat := [4]
@[simp] theorem cs_begin_4 : 4 ∈ cs_begin := by decide
def cs_found : List Nat := [4]
@[simp] theorem cs_found_4 : 4 ∈ cs_found := by decide
def cs_locked : List Nat := [5]
@[simp] theorem cs_locked_5 : 5 ∈ cs_locked := by decide
def cs_train : List Nat := [5]
@[simp] theorem cs_train_5 : 5 ∈ cs_train := by decide
def cs_wait : List Nat := [5]
@[simp] theorem cs_wait_5 : 5 ∈ cs_wait := by decide
def cs_routes : List Nat := [6]
@[simp] theorem cs_routes_6 : 6 ∈ cs_routes := by decide
def cs_lies : List Nat := [6]
@[simp] theorem cs_lies_6 : 6 ∈ cs_lies := by decide
def cs_laid : List Nat := [6]
@[simp] theorem cs_laid_6 : 6 ∈ cs_laid := by decide
def cs_trains : List Nat := [6]
@[simp] theorem cs_trains_6 : 6 ∈ cs_trains := by decide
def cs_rows : List Nat := [6]
@[simp] theorem cs_rows_6 : 6 ∈ cs_rows := by decide
/-- Link.__init__(self, one, other, needs): 0 self 1 one 2 other 3 needs -/
def m_Link_init___body : MS := (sSeq (sSetFld cs_one 0 (eV 0) (eV 1))
    (sSeq (sSetFld cs_other 1 (eV 0) (eV 2))
    (sSetFld cs_needs 2 (eV 0) (eV 3))))
def m_Link_init__ : MF := mkFn 4 4 m_Link_init___body
/-- Layout.__init__(self): 0 self -/
def m_Layout_init___body : MS := (sSeq (sSetFld cs_sections 3 (eV 0) (eLst aNil))
    (sSeq (sSetFld cs_points 4 (eV 0) eD0)
    (sSeq (sSetFld cs_links 5 (eV 0) (eLst aNil))
    (sSetFld cs_signals 6 (eV 0) eD0))))
def m_Layout_init__ : MF := mkFn 1 1 m_Layout_init___body
/-- Layout.links_at(self, end): 0 self 1 end 2 link -/
def m_Layout_links_at_body : MS := (sRet (eLc 2 (iList (eFld cs_links 5 (eV 0))) (tV (eOp pIn (eV 1) (eTup (aCons (eFld cs_one 0 (eV 2)) (aCons (eFld cs_other 1 (eV 2)) aNil))))) (eV 2)))
def m_Layout_links_at : MF := mkFn 2 3 m_Layout_links_at_body
/-- Layout.signal_at(self, end): 0 self 1 end 2 name -/
def m_Layout_signal_at_body : MS := (sSeq (sLock (eFld cs_signals 6 (eV 0)) (sFor (gV 2) (iKeys (eFld cs_signals 6 (eV 0))) (sIf (tV (eOp pEq (eOp pIx (eFld cs_signals 6 (eV 0)) (eV 2)) (eV 1))) (sRet (eV 2)) sPass)))
    (sRet (eC .non)))
def m_Layout_signal_at : MF := mkFn 2 3 m_Layout_signal_at_body
/-- end_text(end): 0 end -/
def m_end_text_body : MS := (sRet (eOp pAdd (eOp pAdd (eOp pIx (eV 0) (eC (.int 0))) (eC (.str [46]))) (eUn pStr (eOp pIx (eV 0) (eC (.int 1))))))
def m_end_text : MF := mkFn 1 1 m_end_text_body
/-- needs_text(needs): 0 needs 1 point -/
def m_needs_text_body : MS := (sSeq (sIf (tV (eOp pEq (eV 0) eD0)) (sRet (eC (.str []))) sPass)
    (sRet (eOp pAdd (eC (.str [32, 119, 104, 101, 110, 32])) (eM1 2 pJoin (eC (.str [32, 97, 110, 100, 32])) (eLc 1 (iList (eUn pSorted (eUn pList (eV 0)))) tYes (eOp pAdd (eOp pAdd (eV 1) (eC (.str [32]))) (eOp pIx (eV 0) (eV 1))))))))
def m_needs_text : MF := mkFn 1 2 m_needs_text_body
/-- Reader.must(self, good): 0 self 1 good -/
def m_Reader_must_body : MS := (sIf (tNot (tV (eV 1))) sBad sPass)
def m_Reader_must : MF := mkFn 2 2 m_Reader_must_body
/-- _law_taken(_law_row, _law_many): 0 _law_row 1 _law_many 2 _law_found 3 _law_cell -/
def m_law_taken_body : MS := (sSeq (sIf (tV (eOp pGt (eOp pIx (eV 0) (eC (.int 3))) (eC (.int 0)))) (sSeq (sAsg (gV 2) (eOp pMod (eOp pIx (eV 0) (eC (.int 3))) (eV 1)))
    (sSeq (sSetIx (eV 0) (eC (.int 3)) (eOp pDiv (eOp pIx (eV 0) (eC (.int 3))) (eV 1)))
    (sRet (eV 2)))) sPass)
    (sSeq (sSetIx (eV 0) (eC (.int 1)) (eOp pAdd (eOp pIx (eV 0) (eC (.int 1))) (eC (.int 1))))
    (sSeq (sIf (tV (eOp pGt (eOp pIx (eV 0) (eC (.int 1))) (eUn pLen (eOp pIx (eV 0) (eC (.int 0)))))) (sSeq (sSetIx (eV 0) (eC (.int 2)) (eOp pMod (eOp pAdd (eOp pMul (eOp pIx (eV 0) (eC (.int 2))) (eC (.int 48271))) (eC (.int 11))) (eC (.int 2147483647))))
    (sRet (eOp pMod (eOp pDiv (eOp pIx (eV 0) (eC (.int 2))) (eC (.int 7))) (eV 1)))) sPass)
    (sSeq (sAsg (gV 3) (eOp pIx (eOp pIx (eV 0) (eC (.int 0))) (eOp pSub (eOp pIx (eV 0) (eC (.int 1))) (eC (.int 1)))))
    (sSeq (sSetIx (eV 0) (eC (.int 2)) (eOp pMod (eOp pAdd (eOp pAdd (eOp pMul (eOp pIx (eV 0) (eC (.int 2))) (eC (.int 48271))) (eV 3)) (eC (.int 11))) (eC (.int 2147483647))))
    (sSeq (sIf (tV (eOp pGe (eV 3) (eOp pPow (eC (.int 10)) (eC (.int 18))))) (sSetIx (eV 0) (eC (.int 3)) (eOp pDiv (eV 3) (eV 1))) sPass)
    (sRet (eOp pMod (eV 3) (eV 1)))))))))
def m_law_taken : MF := mkFn 2 4 m_law_taken_body
/-- _law_end_text(_law_end): 0 _law_end -/
def m_law_end_text_body : MS := (sRet (eOp pAdd (eOp pAdd (eOp pIx (eV 0) (eC (.int 0))) (eC (.str [46]))) (eUn pStr (eOp pIx (eV 0) (eC (.int 1))))))
def m_law_end_text : MF := mkFn 1 1 m_law_end_text_body
/-- layout_text(layout): 0 layout 1 rows 2 name 3 link -/
def m_layout_text_body : MS := (sSeq (sAsg (gV 1) (eLc 2 (iList (eFld cs_sections 3 (eV 0))) tYes (eOp pAdd (eC (.str [115, 101, 99, 116, 105, 111, 110, 32])) (eV 2))))
    (sSeq (sLock (eFld cs_points 4 (eV 0)) (sFor (gV 2) (iKeys (eFld cs_points 4 (eV 0))) (sExp (eM1 0 pAppend (eV 1) (eOp pAdd (eOp pAdd (eOp pAdd (eC (.str [112, 111, 105, 110, 116, 32])) (eV 2)) (eC (.str [32, 105, 110, 32]))) (eOp pIx (eFld cs_points 4 (eV 0)) (eV 2)))))))
    (sSeq (sFor (gV 3) (iList (eFld cs_links 5 (eV 0))) (sExp (eM1 0 pAppend (eV 1) (eOp pAdd (eOp pAdd (eOp pAdd (eOp pAdd (eC (.str [108, 105, 110, 107, 32])) (eFn m_end_text (aCons (eFld cs_one 0 (eV 3)) aNil))) (eC (.str [32]))) (eFn m_end_text (aCons (eFld cs_other 1 (eV 3)) aNil))) (eFn m_needs_text (aCons (eFld cs_needs 2 (eV 3)) aNil))))))
    (sSeq (sLock (eFld cs_signals 6 (eV 0)) (sFor (gV 2) (iKeys (eFld cs_signals 6 (eV 0))) (sExp (eM1 0 pAppend (eV 1) (eOp pAdd (eOp pAdd (eOp pAdd (eC (.str [115, 105, 103, 110, 97, 108, 32])) (eV 2)) (eC (.str [32, 97, 116, 32]))) (eFn m_end_text (aCons (eOp pIx (eFld cs_signals 6 (eV 0)) (eV 2)) aNil)))))))
    (sRet (eM1 2 pJoin (eC (.str [10])) (eV 1)))))))
def m_layout_text : MF := mkFn 1 4 m_layout_text_body
/-- Reader.fresh(self, name): 0 self 1 name 2 sign -/
def m_Reader_fresh_body : MS := (sSeq (sExp (eMeth 2 m_Reader_must (eV 0) (aCons (eAnd (eChain pLe pLe (eC (.int 1)) (eUn pLen (eV 1)) (eC (.int 6))) (eOp pEq (eLc 2 (iStr (eV 1)) (tV (eOp pNotIn (eV 2) (eC (.str [97, 98, 99, 100, 101, 102, 103, 104, 105, 106, 107, 108, 109, 110, 111, 112, 113, 114, 115, 116, 117, 118, 119, 120, 121, 122, 48, 49, 50, 51, 52, 53, 54, 55, 56, 57])))) (eV 2)) (eLst aNil))) aNil)))
    (sSeq (sExp (eMeth 2 m_Reader_must (eV 0) (aCons (eAnd (eOp pNotIn (eV 1) (eFld cs_sections 3 (eFld cs_layout 7 (eV 0)))) (eOp pNotIn (eV 1) (eFld cs_points 4 (eFld cs_layout 7 (eV 0))))) aNil)))
    (sSeq (sExp (eMeth 2 m_Reader_must (eV 0) (aCons (eOp pNotIn (eV 1) (eFld cs_signals 6 (eFld cs_layout 7 (eV 0)))) aNil)))
    (sRet (eV 1)))))
def m_Reader_fresh : MF := mkFn 2 3 m_Reader_fresh_body
/-- Reader.end(self, text): 0 self 1 text 2 section 3 dot 4 side -/
def m_Reader_end_body : MS := (sSeq (sAsg (gTup [(gV 2), (gV 3), (gV 4)]) (eM1 2 pPartition (eV 1) (eC (.str [46]))))
    (sSeq (sExp (eMeth 2 m_Reader_must (eV 0) (aCons (eAnd (eOp pEq (eV 3) (eC (.str [46]))) (eAnd (eOp pIn (eV 4) (eTup (aCons (eC (.str [48])) (aCons (eC (.str [49])) aNil)))) (eOp pIn (eV 2) (eFld cs_sections 3 (eFld cs_layout 7 (eV 0)))))) aNil)))
    (sRet (eTup (aCons (eV 2) (aCons (eUn pInt (eV 4)) aNil))))))
def m_Reader_end : MF := mkFn 2 5 m_Reader_end_body
/-- Reader.lies_of(self, words, sections): 0 self 1 words 2 sections 3 found 4 at 5 point -/
def m_Reader_lies_of_body : MS := (sSeq (sAsg (gV 3) eD0)
    (sSeq (sExp (eMeth 2 m_Reader_must (eV 0) (aCons (eOr (eOp pEq (eV 1) (eLst aNil)) (eAnd (eOp pEq (eOp pIx (eV 1) (eC (.int 0))) (eC (.str [119, 104, 101, 110]))) (eOp pEq (eOp pMod (eUn pLen (eV 1)) (eC (.int 3))) (eC (.int 0))))) aNil)))
    (sSeq (sFor (gV 4) (iRng3 (aCons (eC (.int 0)) (aCons (eUn pLen (eV 1)) (aCons (eC (.int 3)) aNil)))) (sSeq (sExp (eMeth 2 m_Reader_must (eV 0) (aCons (eOr (eOp pEq (eV 4) (eC (.int 0))) (eOp pEq (eOp pIx (eV 1) (eV 4)) (eC (.str [97, 110, 100])))) aNil)))
    (sSeq (sAsg (gV 5) (eOp pIx (eV 1) (eOp pAdd (eV 4) (eC (.int 1)))))
    (sSeq (sExp (eMeth 2 m_Reader_must (eV 0) (aCons (eAnd (eOp pIn (eV 5) (eFld cs_points 4 (eFld cs_layout 7 (eV 0)))) (eAnd (eOp pNotIn (eV 5) (eV 3)) (eOp pIn (eOp pIx (eV 1) (eOp pAdd (eV 4) (eC (.int 2)))) (eTup (aCons (eC (.str [110])) (aCons (eC (.str [114])) aNil)))))) aNil)))
    (sSeq (sExp (eMeth 2 m_Reader_must (eV 0) (aCons (eOp pIn (eOp pIx (eFld cs_points 4 (eFld cs_layout 7 (eV 0))) (eV 5)) (eV 2)) aNil)))
    (sSeq (sExp (eMeth 2 m_Reader_must (eV 0) (aCons (eOr (eOp pEq (eV 3) eD0) (eOp pGt (eV 5) (eOp pIx (eUn pSorted (eUn pList (eV 3))) (eUn pNeg (eC (.int 1)))))) aNil)))
    (sSetIx (eV 3) (eV 5) (eOp pIx (eV 1) (eOp pAdd (eV 4) (eC (.int 2)))))))))))
    (sRet (eV 3)))))
def m_Reader_lies_of : MF := mkFn 3 6 m_Reader_lies_of_body
/-- _law_spread(_law_row, _law_st, _law_one, _law_others): 0 _law_row 1 _law_st 2 _law_one 3 _law_others 4 _law_p 5 _law_a 6 _law_b 7 _law_way 8 _law_more 9 _law_end 10 _law_q 11 _law_c -/
def m_law_spread_body : MS := (sSeq (sAsg (gV 4) (eOp pAdd (eC (.str [112])) (eUn pStr (eOp pMod (eOp pAdd (eOp pIx (eV 1) (eC (.str [116, 117, 114, 110]))) (eOp pMul (eC (.int 3)) (eUn pLen (eOp pIx (eV 1) (eC (.str [112, 111, 105, 110, 116, 115])))))) (eC (.int 10))))))
    (sSeq (sSetIx (eOp pIx (eV 1) (eC (.str [112, 111, 105, 110, 116, 115]))) (eV 4) (eOp pIx (eV 2) (eC (.int 0))))
    (sSeq (sAsg (gV 5) (eM1 0 pPopL (eV 3) (eFn m_law_taken (aCons (eV 0) (aCons (eUn pLen (eV 3)) aNil)))))
    (sSeq (sAsg (gV 6) (eM1 0 pPopL (eV 3) (eFn m_law_taken (aCons (eV 0) (aCons (eUn pLen (eV 3)) aNil)))))
    (sSeq (sExp (eM1 0 pAppend (eOp pIx (eV 1) (eC (.str [108, 105, 110, 107, 115]))) (eTup (aCons (eV 2) (aCons (eV 5) (aCons (eDct (aCons (eV 4) (aCons (eC (.str [110])) aNil))) aNil))))))
    (sSeq (sAsg (gV 7) (eFn m_law_taken (aCons (eV 0) (aCons (eC (.int 4)) aNil))))
    (sSeq (sAsg (gV 8) (eLc 9 (iList (eV 3)) (tOr (tV (eOp pNe (eOp pIx (eV 9) (eC (.int 0))) (eOp pIx (eV 6) (eC (.int 0))))) (tV (eOp pEq (eV 7) (eC (.int 3))))) (eV 9)))
    (sSeq (sIf (tOr (tV (eOp pEq (eV 8) (eLst aNil))) (tV (eOp pLt (eV 7) (eC (.int 2))))) (sSeq (sExp (eM1 0 pAppend (eOp pIx (eV 1) (eC (.str [108, 105, 110, 107, 115]))) (eTup (aCons (eV 2) (aCons (eV 6) (aCons (eDct (aCons (eV 4) (aCons (eC (.str [114])) aNil))) aNil))))))
    (sRet (eLst (aCons (eV 5) (aCons (eV 6) aNil))))) sPass)
    (sSeq (sAsg (gV 10) (eOp pAdd (eC (.str [112])) (eUn pStr (eOp pMod (eOp pAdd (eOp pIx (eV 1) (eC (.str [116, 117, 114, 110]))) (eOp pMul (eC (.int 3)) (eUn pLen (eOp pIx (eV 1) (eC (.str [112, 111, 105, 110, 116, 115])))))) (eC (.int 10))))))
    (sSeq (sAsg (gV 11) (eOp pIx (eV 8) (eFn m_law_taken (aCons (eV 0) (aCons (eUn pLen (eV 8)) aNil)))))
    (sSeq (sSetIx (eOp pIx (eV 1) (eC (.str [112, 111, 105, 110, 116, 115]))) (eV 10) (eOp pIx (eLst (aCons (eOp pIx (eV 6) (eC (.int 0))) (aCons (eOp pIx (eV 2) (eC (.int 0))) aNil))) (eOp pSub (eV 7) (eC (.int 2)))))
    (sSeq (sExp (eM1 0 pAppend (eOp pIx (eV 1) (eC (.str [108, 105, 110, 107, 115]))) (eTup (aCons (eV 2) (aCons (eV 6) (aCons (eDct (aCons (eV 4) (aCons (eC (.str [114])) (aCons (eV 10) (aCons (eC (.str [110])) aNil))))) aNil))))))
    (sSeq (sExp (eM1 0 pAppend (eOp pIx (eV 1) (eC (.str [108, 105, 110, 107, 115]))) (eTup (aCons (eOp pIx (eLst (aCons (eV 11) (aCons (eV 2) aNil))) (eOp pSub (eV 7) (eC (.int 2)))) (aCons (eOp pIx (eLst (aCons (eV 6) (aCons (eV 11) aNil))) (eOp pSub (eV 7) (eC (.int 2)))) (aCons (eOp pIx (eLst (aCons (eDct (aCons (eV 10) (aCons (eC (.str [114])) aNil))) (aCons (eDct (aCons (eV 4) (aCons (eC (.str [114])) (aCons (eV 10) (aCons (eC (.str [114])) aNil))))) aNil))) (eOp pSub (eV 7) (eC (.int 2)))) aNil))))))
    (sRet (eLst (aCons (eV 5) (aCons (eV 6) (aCons (eV 11) aNil))))))))))))))))))
def m_law_spread : MF := mkFn 4 12 m_law_spread_body
/-- _law_tracks(_law_row): 0 _law_row 1 _law_turn 2 _law_st 3 _law_k 4 _law_names 5 _law_j -/
def m_law_tracks_body : MS := (sSeq (sAsg (gV 1) (eFn m_law_taken (aCons (eV 0) (aCons (eC (.int 16)) aNil))))
    (sSeq (sAsg (gV 2) (eDct (aCons (eC (.str [115, 101, 99, 116, 105, 111, 110, 115])) (aCons (eLst aNil) (aCons (eC (.str [112, 111, 105, 110, 116, 115])) (aCons eD0 (aCons (eC (.str [108, 105, 110, 107, 115])) (aCons (eLst aNil) (aCons (eC (.str [115, 105, 103, 110, 97, 108, 115])) (aCons eD0 (aCons (eC (.str [116, 117, 114, 110])) (aCons (eV 1) aNil))))))))))))
    (sSeq (sFor (gV 3) (iRng1 (eOp pAdd (eC (.int 2)) (eFn m_law_taken (aCons (eV 0) (aCons (eC (.int 5)) aNil))))) (sSeq (sAsg (gV 4) (eLc 5 (iRng1 (eOp pAdd (eC (.int 2)) (eFn m_law_taken (aCons (eV 0) (aCons (eC (.int 4)) aNil))))) tYes (eOp pAdd (eOp pIx (eC (.str [97, 98, 99, 100, 101])) (eV 5)) (eUn pStr (eOp pMod (eOp pAdd (eV 1) (eOp pMul (eC (.int 3)) (eV 3))) (eC (.int 8)))))))
    (sSeq (sSetIx (eV 2) (eC (.str [115, 101, 99, 116, 105, 111, 110, 115])) (eOp pAdd (eOp pIx (eV 2) (eC (.str [115, 101, 99, 116, 105, 111, 110, 115]))) (eV 4)))
    (sSeq (sSetIx (eOp pIx (eV 2) (eC (.str [115, 105, 103, 110, 97, 108, 115]))) (eOp pAdd (eC (.str [122])) (eUn pStr (eOp pMod (eOp pAdd (eV 1) (eOp pMul (eC (.int 5)) (eV 3))) (eC (.int 16))))) (eTup (aCons (eOp pIx (eV 4) (eC (.int 0))) (aCons (eC (.int 1)) aNil))))
    (sFor (gV 5) (iRng1 (eOp pSub (eUn pLen (eV 4)) (eC (.int 1)))) (sExp (eM1 0 pAppend (eOp pIx (eV 2) (eC (.str [108, 105, 110, 107, 115]))) (eTup (aCons (eTup (aCons (eOp pIx (eV 4) (eV 5)) (aCons (eC (.int 1)) aNil))) (aCons (eTup (aCons (eOp pIx (eV 4) (eOp pAdd (eV 5) (eC (.int 1)))) (aCons (eC (.int 0)) aNil))) (aCons eD0 aNil)))))))))))
    (sRet (eV 2)))))
def m_law_tracks : MF := mkFn 1 6 m_law_tracks_body
/-- _law_text(_law_st): 0 _law_st 1 _law_rows 2 _law_name 3 _law_one 4 _law_other 5 _law_needs 6 _law_told 7 _law_point -/
def m_law_text_body : MS := (sSeq (sAsg (gV 1) (eLc 2 (iList (eOp pIx (eV 0) (eC (.str [115, 101, 99, 116, 105, 111, 110, 115])))) tYes (eOp pAdd (eC (.str [115, 101, 99, 116, 105, 111, 110, 32])) (eV 2))))
    (sSeq (sAsg (gV 1) (eOp pAdd (eV 1) (eLock (eOp pIx (eV 0) (eC (.str [112, 111, 105, 110, 116, 115]))) (eLc 2 (iKeys (eOp pIx (eV 0) (eC (.str [112, 111, 105, 110, 116, 115])))) tYes (eOp pAdd (eOp pAdd (eOp pAdd (eC (.str [112, 111, 105, 110, 116, 32])) (eV 2)) (eC (.str [32, 105, 110, 32]))) (eOp pIx (eOp pIx (eV 0) (eC (.str [112, 111, 105, 110, 116, 115]))) (eV 2)))))))
    (sSeq (sFor (gTup [(gV 3), (gV 4), (gV 5)]) (iList (eOp pIx (eV 0) (eC (.str [108, 105, 110, 107, 115])))) (sSeq (sAsg (gV 6) (eOp pAdd (eOp pAdd (eOp pAdd (eC (.str [108, 105, 110, 107, 32])) (eFn m_law_end_text (aCons (eV 3) aNil))) (eC (.str [32]))) (eFn m_law_end_text (aCons (eV 4) aNil))))
    (sSeq (sIf (tV (eOp pNe (eV 5) eD0)) (sAsg (gV 6) (eOp pAdd (eOp pAdd (eV 6) (eC (.str [32, 119, 104, 101, 110, 32]))) (eM1 2 pJoin (eC (.str [32, 97, 110, 100, 32])) (eLc 7 (iList (eUn pSorted (eV 5))) tYes (eOp pAdd (eOp pAdd (eV 7) (eC (.str [32]))) (eOp pIx (eV 5) (eV 7))))))) sPass)
    (sExp (eM1 0 pAppend (eV 1) (eV 6))))))
    (sSeq (sAsg (gV 1) (eOp pAdd (eV 1) (eLock (eOp pIx (eV 0) (eC (.str [115, 105, 103, 110, 97, 108, 115]))) (eLc 2 (iKeys (eOp pIx (eV 0) (eC (.str [115, 105, 103, 110, 97, 108, 115])))) tYes (eOp pAdd (eOp pAdd (eOp pAdd (eC (.str [115, 105, 103, 110, 97, 108, 32])) (eV 2)) (eC (.str [32, 97, 116, 32]))) (eFn m_law_end_text (aCons (eOp pIx (eOp pIx (eV 0) (eC (.str [115, 105, 103, 110, 97, 108, 115]))) (eV 2)) aNil)))))))
    (sRet (eM1 2 pJoin (eC (.str [10])) (eV 1)))))))
def m_law_text : MF := mkFn 1 8 m_law_text_body
/-- Reader.__init__(self): 0 self -/
def m_Reader_init___body : MS := (sSeq (sSetFld cs_layout 7 (eV 0) (eNew 1 m_Layout_init__ aNil))
    (sSeq (sSetFld cs_row 8 (eV 0) (eC (.int 0)))
    (sSetFld cs_counts 9 (eV 0) (eDct (aCons (eC (.str [115, 101, 99, 116, 105, 111, 110])) (aCons (eC (.int 0)) (aCons (eC (.str [112, 111, 105, 110, 116])) (aCons (eC (.int 0)) (aCons (eC (.str [108, 105, 110, 107])) (aCons (eC (.int 0)) (aCons (eC (.str [115, 105, 103, 110, 97, 108])) (aCons (eC (.int 0)) aNil))))))))))))
def m_Reader_init__ : MF := mkFn 1 1 m_Reader_init___body
/-- Reader.link(self, words): 0 self 1 words 2 one 3 other 4 needs 5 end 6 link 7 apart 8 point -/
def m_Reader_link_body : MS := (sSeq (sExp (eMeth 2 m_Reader_must (eV 0) (aCons (eOp pGe (eUn pLen (eV 1)) (eC (.int 3))) aNil)))
    (sSeq (sAsg (gV 2) (eMeth 2 m_Reader_end (eV 0) (aCons (eOp pIx (eV 1) (eC (.int 1))) aNil)))
    (sSeq (sAsg (gV 3) (eMeth 2 m_Reader_end (eV 0) (aCons (eOp pIx (eV 1) (eC (.int 2))) aNil)))
    (sSeq (sExp (eMeth 2 m_Reader_must (eV 0) (aCons (eOp pNe (eOp pIx (eV 2) (eC (.int 0))) (eOp pIx (eV 3) (eC (.int 0)))) aNil)))
    (sSeq (sAsg (gV 4) (eMeth 2 m_Reader_lies_of (eV 0) (aCons (eSl (eV 1) (oSome (eC (.int 3))) oNone) (aCons (eTup (aCons (eOp pIx (eV 2) (eC (.int 0))) (aCons (eOp pIx (eV 3) (eC (.int 0))) aNil))) aNil))))
    (sSeq (sFor (gV 5) (iTup (eTup (aCons (eV 2) (aCons (eV 3) aNil)))) (sFor (gV 6) (iList (eMeth 1 m_Layout_links_at (eFld cs_layout 7 (eV 0)) (aCons (eV 5) aNil))) (sSeq (sLock (eV 4) (sAsg (gV 7) (eLc 8 (iKeys (eV 4)) (tV (eOp pNe (eGet2 (eFld cs_needs 2 (eV 6)) (eV 8) (eOp pIx (eV 4) (eV 8))) (eOp pIx (eV 4) (eV 8)))) (eV 8))))
    (sExp (eMeth 2 m_Reader_must (eV 0) (aCons (eOp pNe (eV 7) (eLst aNil)) aNil))))))
    (sExp (eM1 0 pAppend (eFld cs_links 5 (eFld cs_layout 7 (eV 0))) (eNew 0 m_Link_init__ (aCons (eV 2) (aCons (eV 3) (aCons (eV 4) aNil))))))))))))
def m_Reader_link : MF := mkFn 2 9 m_Reader_link_body
/-- _law_station(_law_row): 0 _law_row 1 _law_word 2 _law_turn 3 _law_names 4 _law_k 5 _law_st 6 _law_free 7 _law_name 8 _law_one 9 _law_others 10 _law_end 11 _law_used 12 _law_other 13 _law_side -/
def m_law_station_body : MS := (sSeq (sIf (tV (eOp pEq (eFn m_law_taken (aCons (eV 0) (aCons (eC (.int 4)) aNil))) (eC (.int 3)))) (sRet (eFn m_law_tracks (aCons (eV 0) aNil))) sPass)
    (sSeq (sAsg (gV 1) (eOp pMul (eOp pIx (eC (.str [97, 98, 99, 100, 101, 102, 103, 104, 105, 106, 107, 108, 109, 110, 111, 113, 114, 115, 116, 117, 118, 119, 120, 121])) (eFn m_law_taken (aCons (eV 0) (aCons (eC (.int 24)) aNil)))) (eOp pAdd (eC (.int 1)) (eFn m_law_taken (aCons (eV 0) (aCons (eC (.int 4)) aNil))))))
    (sSeq (sAsg (gV 2) (eFn m_law_taken (aCons (eV 0) (aCons (eC (.int 16)) aNil))))
    (sSeq (sAsg (gV 3) (eLc 4 (iRng1 (eOp pAdd (eC (.int 2)) (eFn m_law_taken (aCons (eV 0) (aCons (eC (.int 7)) aNil))))) tYes (eOp pAdd (eV 1) (eUn pStr (eOp pMod (eOp pAdd (eV 2) (eOp pMul (eC (.int 3)) (eV 4))) (eC (.int 8)))))))
    (sSeq (sAsg (gV 5) (eDct (aCons (eC (.str [115, 101, 99, 116, 105, 111, 110, 115])) (aCons (eV 3) (aCons (eC (.str [112, 111, 105, 110, 116, 115])) (aCons eD0 (aCons (eC (.str [108, 105, 110, 107, 115])) (aCons (eLst aNil) (aCons (eC (.str [115, 105, 103, 110, 97, 108, 115])) (aCons eD0 (aCons (eC (.str [116, 117, 114, 110])) (aCons (eV 2) aNil))))))))))))
    (sSeq (sAsg (gV 6) (eOp pAdd (eLc 7 (iList (eV 3)) tYes (eTup (aCons (eV 7) (aCons (eC (.int 0)) aNil)))) (eLc 7 (iList (eV 3)) tYes (eTup (aCons (eV 7) (aCons (eC (.int 1)) aNil))))))
    (sSeq (sFor (gV 4) (iRng1 (eFn m_law_taken (aCons (eV 0) (aCons (eC (.int 12)) aNil)))) (sSeq (sAsg (gV 8) (eIf (tV (eOp pNe (eV 6) (eLst aNil))) (eOp pIx (eV 6) (eFn m_law_taken (aCons (eV 0) (aCons (eUn pLen (eV 6)) aNil)))) (eTup (aCons (eC (.str [])) (aCons (eC (.int 0)) aNil)))))
    (sSeq (sAsg (gV 9) (eLc 10 (iList (eV 6)) (tV (eOp pNe (eOp pIx (eV 10) (eC (.int 0))) (eOp pIx (eV 8) (eC (.int 0))))) (eV 10)))
    (sSeq (sAsg (gV 11) (eLst (aCons (eV 8) aNil)))
    (sSeq (sIf (tAnd (tV (eOp pGt (eUn pLen (eV 9)) (eC (.int 1)))) (tAnd (tV (eOp pLt (eUn pLen (eOp pIx (eV 5) (eC (.str [112, 111, 105, 110, 116, 115])))) (eC (.int 9)))) (tV (eOp pEq (eFn m_law_taken (aCons (eV 0) (aCons (eC (.int 2)) aNil))) (eC (.int 1)))))) (sAsg (gV 11) (eOp pAdd (eV 11) (eFn m_law_spread (aCons (eV 0) (aCons (eV 5) (aCons (eV 8) (aCons (eV 9) aNil))))))) (sIf (tV (eOp pNe (eV 9) (eLst aNil))) (sSeq (sAsg (gV 12) (eOp pIx (eV 9) (eFn m_law_taken (aCons (eV 0) (aCons (eUn pLen (eV 9)) aNil)))))
    (sSeq (sExp (eM1 0 pAppend (eOp pIx (eV 5) (eC (.str [108, 105, 110, 107, 115]))) (eTup (aCons (eV 8) (aCons (eV 12) (aCons eD0 aNil))))))
    (sExp (eM1 0 pAppend (eV 11) (eV 12))))) sPass))
    (sAsg (gV 6) (eLc 10 (iList (eV 6)) (tV (eOp pNotIn (eV 10) (eV 11))) (eV 10))))))))
    (sSeq (sFor (gV 7) (iList (eV 3)) (sFor (gV 13) (iRng1 (eC (.int 2))) (sIf (tAnd (tV (eOp pGt (eFn m_law_taken (aCons (eV 0) (aCons (eC (.int 3)) aNil))) (eC (.int 0)))) (tV (eOp pLt (eUn pLen (eOp pIx (eV 5) (eC (.str [115, 105, 103, 110, 97, 108, 115])))) (eC (.int 16))))) (sSetIx (eOp pIx (eV 5) (eC (.str [115, 105, 103, 110, 97, 108, 115]))) (eOp pAdd (eC (.str [122])) (eUn pStr (eOp pMod (eOp pAdd (eV 2) (eOp pMul (eC (.int 3)) (eUn pLen (eOp pIx (eV 5) (eC (.str [115, 105, 103, 110, 97, 108, 115])))))) (eC (.int 16))))) (eTup (aCons (eV 7) (aCons (eV 13) aNil)))) sPass)))
    (sRet (eV 5))))))))))
def m_law_station : MF := mkFn 1 14 m_law_station_body
/-- Reader.take(self, text): 0 self 1 text 2 words 3 word 4 end -/
def m_Reader_take_body : MS := (sSeq (sAsg (gV 2) (eM1 2 pSplit (eV 1) (eC (.str [32]))))
    (sSeq (sAsg (gV 3) (eOp pIx (eV 2) (eC (.int 0))))
    (sSeq (sExp (eMeth 2 m_Reader_must (eV 0) (aCons (eOp pIn (eV 3) (eFld cs_counts 9 (eV 0))) aNil)))
    (sSeq (sSetIx (eFld cs_counts 9 (eV 0)) (eV 3) (eOp pAdd (eOp pIx (eFld cs_counts 9 (eV 0)) (eV 3)) (eC (.int 1))))
    (sSeq (sExp (eMeth 2 m_Reader_must (eV 0) (aCons (eOp pLe (eOp pIx (eFld cs_counts 9 (eV 0)) (eV 3)) (eTab [([115, 101, 99, 116, 105, 111, 110], 30), ([112, 111, 105, 110, 116], 12), ([108, 105, 110, 107], 60), ([115, 105, 103, 110, 97, 108], 16)] (eV 3))) aNil)))
    (sIf (tV (eOp pEq (eV 3) (eC (.str [115, 101, 99, 116, 105, 111, 110])))) (sSeq (sExp (eMeth 2 m_Reader_must (eV 0) (aCons (eOp pEq (eUn pLen (eV 2)) (eC (.int 2))) aNil)))
    (sExp (eM1 0 pAppend (eFld cs_sections 3 (eFld cs_layout 7 (eV 0))) (eMeth 2 m_Reader_fresh (eV 0) (aCons (eOp pIx (eV 2) (eC (.int 1))) aNil))))) (sIf (tV (eOp pEq (eV 3) (eC (.str [112, 111, 105, 110, 116])))) (sSeq (sExp (eMeth 2 m_Reader_must (eV 0) (aCons (eAnd (eOp pEq (eUn pLen (eV 2)) (eC (.int 4))) (eAnd (eOp pEq (eOp pIx (eV 2) (eC (.int 2))) (eC (.str [105, 110]))) (eOp pIn (eOp pIx (eV 2) (eC (.int 3))) (eFld cs_sections 3 (eFld cs_layout 7 (eV 0)))))) aNil)))
    (sSetIx (eFld cs_points 4 (eFld cs_layout 7 (eV 0))) (eMeth 2 m_Reader_fresh (eV 0) (aCons (eOp pIx (eV 2) (eC (.int 1))) aNil)) (eOp pIx (eV 2) (eC (.int 3))))) (sIf (tV (eOp pEq (eV 3) (eC (.str [115, 105, 103, 110, 97, 108])))) (sSeq (sExp (eMeth 2 m_Reader_must (eV 0) (aCons (eAnd (eOp pEq (eUn pLen (eV 2)) (eC (.int 4))) (eOp pEq (eOp pIx (eV 2) (eC (.int 2))) (eC (.str [97, 116])))) aNil)))
    (sSeq (sAsg (gV 4) (eMeth 2 m_Reader_end (eV 0) (aCons (eOp pIx (eV 2) (eC (.int 3))) aNil)))
    (sSeq (sExp (eMeth 2 m_Reader_must (eV 0) (aCons (eUn pIsN (eMeth 1 m_Layout_signal_at (eFld cs_layout 7 (eV 0)) (aCons (eV 4) aNil))) aNil)))
    (sSetIx (eFld cs_signals 6 (eFld cs_layout 7 (eV 0))) (eMeth 2 m_Reader_fresh (eV 0) (aCons (eOp pIx (eV 2) (eC (.int 1))) aNil)) (eV 4))))) (sExp (eMeth 2 m_Reader_link (eV 0) (aCons (eV 2) aNil)))))))))))
def m_Reader_take : MF := mkFn 2 5 m_Reader_take_body
/-- read_layout(text): 0 text 1 reader 2 last 3 number 4 row 5 word 6 order -/
def m_read_layout_body : MS := (sSeq (sAsg (gV 1) (eNew 2 m_Reader_init__ aNil))
    (sSeq (sAsg (gV 2) (eC (.str [])))
    (sSeq (sFor (gTup [(gV 3), (gV 4)]) (iEnum (eM1 2 pSplit (eV 0) (eC (.str [10])))) (sSeq (sSetFld cs_row 8 (eV 1) (eV 3))
    (sSeq (sExp (eMeth 2 m_Reader_take (eV 1) (aCons (eV 4) aNil)))
    (sSeq (sAsg (gV 5) (eOp pIx (eM1 2 pSplit (eV 4) (eC (.str [32]))) (eC (.int 0))))
    (sSeq (sAsg (gV 6) (eLst (aCons (eC (.str [115, 101, 99, 116, 105, 111, 110])) (aCons (eC (.str [112, 111, 105, 110, 116])) (aCons (eC (.str [108, 105, 110, 107])) (aCons (eC (.str [115, 105, 103, 110, 97, 108])) aNil))))))
    (sSeq (sExp (eMeth 2 m_Reader_must (eV 1) (aCons (eOr (eOp pEq (eV 2) (eC (.str []))) (eOp pLe (eM1 0 pIndex (eV 6) (eV 2)) (eM1 0 pIndex (eV 6) (eV 5)))) aNil)))
    (sAsg (gV 2) (eV 5))))))))
    (sRet (eFld cs_layout 7 (eV 1))))))
def m_read_layout : MF := mkFn 1 7 m_read_layout_body
/-- law(_law_script): 0 _law_script 1 _law_row 2 _law_text_here 3 _law_layout 4 _law_turn 5 _law_found -/
def m_law_k03_body : MS := (sSeq (sAsg (gV 1) (eLst (aCons (eV 0) (aCons (eC (.int 0)) (aCons (eC (.int 0)) (aCons (eC (.int 0)) aNil))))))
    (sSeq (sAsg (gV 2) (eFn m_law_text (aCons (eFn m_law_station (aCons (eV 1) aNil)) aNil)))
    (sSeq (sAsg (gV 3) (eFn m_read_layout (aCons (eV 2) aNil)))
    (sSeq (sFor (gV 4) (iRng1 (eC (.int 2))) (sSeq (sAsg (gV 5) (eFn m_layout_text (aCons (eV 3) aNil)))
    (sSeq (sIf (tOr (tNot (tV (eUn pIsStr (eV 5)))) (tV (eOp pNe (eV 5) (eV 2)))) (sRet (eC (.bl false))) sPass)
    (sAsg (gV 3) (eFn m_read_layout (aCons (eV 5) aNil))))))
    (sRet (eC (.bl true)))))))
def m_law_k03 : MF := mkFn 1 6 m_law_k03_body
/-- Route.__init__(self, signal, target, sections, needs): 0 self 1 signal 2 target 3 sections 4 needs -/
def m_Route_init___body : MS := (sSeq (sSetFld cs_signal 10 (eV 0) (eV 1))
    (sSeq (sSetFld cs_target 11 (eV 0) (eV 2))
    (sSeq (sSetFld cs_sections 3 (eV 0) (eV 3))
    (sSetFld cs_needs 2 (eV 0) (eV 4)))))
def m_Route_init__ : MF := mkFn 5 5 m_Route_init___body
/-- Route.told(self): 0 self 1 needs 2 point -/
def m_Route_told_body : MS := (sSeq (sAsg (gV 1) (eUn pTuple (eLc 2 (iList (eUn pSorted (eUn pList (eFld cs_needs 2 (eV 0))))) tYes (eTup (aCons (eV 2) (aCons (eOp pIx (eFld cs_needs 2 (eV 0)) (eV 2)) aNil))))))
    (sRet (eTup (aCons (eFld cs_signal 10 (eV 0)) (aCons (eFld cs_target 11 (eV 0)) (aCons (eUn pTuple (eFld cs_sections 3 (eV 0))) (aCons (eV 1) aNil)))))))
def m_Route_told : MF := mkFn 1 3 m_Route_told_body
/-- agree(needs, more): 0 needs 1 more 2 point -/
def m_agree_body : MS := (sSeq (sLock (eV 1) (sFor (gV 2) (iKeys (eV 1)) (sIf (tV (eOp pNe (eGet2 (eV 0) (eV 2) (eOp pIx (eV 1) (eV 2))) (eOp pIx (eV 1) (eV 2)))) (sRet (eC (.bl false))) sPass)))
    (sRet (eC (.bl true))))
def m_agree : MF := mkFn 2 3 m_agree_body
/-- Finder.__init__(self, layout, signal): 0 self 1 layout 2 signal -/
def m_Finder_init___body : MS := (sSeq (sSetFld cs_layout 7 (eV 0) (eV 1))
    (sSeq (sSetFld cs_signal 10 (eV 0) (eV 2))
    (sSeq (sSetFld cs_begin 12 (eV 0) (eOp pIx (eFld cs_signals 6 (eV 1)) (eV 2)))
    (sSetFld cs_found 13 (eV 0) (eLst aNil)))))
def m_Finder_init__ : MF := mkFn 3 3 m_Finder_init___body
/-- Desk.train_in(self, section): 0 self 1 section 2 name 3 place -/
def m_Desk_train_in_body : MS := (sSeq (sLock (eFld cs_trains 20 (eV 0)) (sFor (gV 2) (iKeys (eFld cs_trains 20 (eV 0))) (sIf (tV (eOp pIn (eV 1) (eLc 3 (iList (eOp pIx (eFld cs_trains 20 (eV 0)) (eV 2))) tYes (eOp pIx (eV 3) (eC (.int 0)))))) (sRet (eV 2)) sPass)))
    (sRet (eC .non)))
def m_Desk_train_in : MF := mkFn 2 4 m_Desk_train_in_body
/-- Desk.lock_of(self, section): 0 self 1 section 2 number -/
def m_Desk_lock_of_body : MS := (sSeq (sLock (eFld cs_laid 19 (eV 0)) (sFor (gV 2) (iKeys (eFld cs_laid 19 (eV 0))) (sIf (tV (eOp pIn (eV 1) (eFld cs_locked 14 (eOp pIx (eFld cs_laid 19 (eV 0)) (eV 2))))) (sRet (eV 2)) sPass)))
    (sRet (eC .non)))
def m_Desk_lock_of : MF := mkFn 2 3 m_Desk_lock_of_body
/-- Desk.keeper_of(self, point): 0 self 1 point 2 number -/
def m_Desk_keeper_of_body : MS := (sSeq (sFor (gV 2) (iList (eUn pSorted (eUn pList (eFld cs_laid 19 (eV 0))))) (sIf (tAnd (tV (eUn pIsN (eFld cs_train 15 (eOp pIx (eFld cs_laid 19 (eV 0)) (eV 2))))) (tV (eOp pIn (eV 1) (eFld cs_needs 2 (eOp pIx (eFld cs_routes 17 (eV 0)) (eV 2)))))) (sRet (eV 2)) sPass))
    (sRet (eC .non)))
def m_Desk_keeper_of : MF := mkFn 2 3 m_Desk_keeper_of_body
/-- Desk.done(self, row): 0 self 1 row -/
def m_Desk_done_body : MS := (sExp (eM1 0 pAppend (eFld cs_rows 21 (eV 0)) (eV 1)))
def m_Desk_done : MF := mkFn 2 2 m_Desk_done_body
/-- must_be_free(bars): 0 bars -/
def m_must_be_free_body : MS := (sIf (tV (eOp pNe (eV 0) (eLst aNil))) sBad sPass)
def m_must_be_free : MF := mkFn 1 1 m_must_be_free_body
/-- Link.far(self, end): 0 self 1 end -/
def m_Link_far_body : MS := (sSeq (sIf (tV (eOp pEq (eV 1) (eFld cs_one 0 (eV 0)))) (sRet (eFld cs_other 1 (eV 0))) sPass)
    (sRet (eFld cs_one 0 (eV 0))))
def m_Link_far : MF := mkFn 2 2 m_Link_far_body
/-- _law_signal_at(_law_st, _law_end): 0 _law_st 1 _law_end 2 _law_found 3 _law_name -/
def m_law_signal_at_body : MS := (sSeq (sLock (eOp pIx (eV 0) (eC (.str [115, 105, 103, 110, 97, 108, 115]))) (sAsg (gV 2) (eLc 3 (iKeys (eOp pIx (eV 0) (eC (.str [115, 105, 103, 110, 97, 108, 115])))) (tV (eOp pEq (eOp pIx (eOp pIx (eV 0) (eC (.str [115, 105, 103, 110, 97, 108, 115]))) (eV 3)) (eV 1))) (eV 3))))
    (sRet (eIf (tV (eOp pNe (eV 2) (eLst aNil))) (eOp pIx (eV 2) (eC (.int 0))) (eC .non))))
def m_law_signal_at : MF := mkFn 2 4 m_law_signal_at_body
/-- Desk.on_section(self, section): 0 self 1 section 2 found -/
def m_Desk_on_section_body : MS := (sSeq (sAsg (gV 2) (eLst aNil))
    (sSeq (sIf (tV (eUn pNotN (eMeth 6 m_Desk_train_in (eV 0) (aCons (eV 1) aNil)))) (sExp (eM1 0 pAppend (eV 2) (eTup (aCons (eC (.str [116, 114, 97, 105, 110])) (aCons (eV 1) (aCons (eMeth 6 m_Desk_train_in (eV 0) (aCons (eV 1) aNil)) aNil)))))) sPass)
    (sSeq (sIf (tV (eUn pNotN (eMeth 6 m_Desk_lock_of (eV 0) (aCons (eV 1) aNil)))) (sExp (eM1 0 pAppend (eV 2) (eTup (aCons (eC (.str [114, 111, 117, 116, 101])) (aCons (eV 1) (aCons (eMeth 6 m_Desk_lock_of (eV 0) (aCons (eV 1) aNil)) aNil)))))) sPass)
    (sRet (eV 2)))))
def m_Desk_on_section : MF := mkFn 2 3 m_Desk_on_section_body
/-- Finder.come_to(self, end, sections, needs): 0 self 1 end 2 sections 3 needs 4 target -/
def m_Finder_come_to_body (r : MF) : MS := (sSeq (sAsg (gV 4) (eMeth 1 m_Layout_signal_at (eFld cs_layout 7 (eV 0)) (aCons (eV 1) aNil)))
    (sIf (tOr (tV (eUn pNotN (eV 4))) (tV (eOp pEq (eMeth 1 m_Layout_links_at (eFld cs_layout 7 (eV 0)) (aCons (eV 1) aNil)) (eLst aNil)))) (sSeq (sExp (eM1 0 pAppend (eFld cs_found 13 (eV 0)) (eNew 3 m_Route_init__ (aCons (eFld cs_signal 10 (eV 0)) (aCons (eV 4) (aCons (eV 2) (aCons (eV 3) aNil)))))))
    (sIf (tV (eOp pGt (eUn pLen (eFld cs_found 13 (eV 0))) (eC (.int 60)))) (sRaise 14) sPass)) (sExp (eMeth 4 r (eV 0) (aCons (eV 1) (aCons (eV 2) (aCons (eV 3) aNil)))))))
def m_Finder_come_to (r : MF) : MF := mkFn 4 5 (m_Finder_come_to_body r)
/-- Desk.on_point(self, point): 0 self 1 point 2 found -/
def m_Desk_on_point_body : MS := (sSeq (sAsg (gV 2) (eMeth 6 m_Desk_on_section (eV 0) (aCons (eOp pIx (eFld cs_points 4 (eFld cs_layout 7 (eV 0))) (eV 1)) aNil)))
    (sSeq (sIf (tV (eUn pNotN (eMeth 6 m_Desk_keeper_of (eV 0) (aCons (eV 1) aNil)))) (sExp (eM1 0 pAppend (eV 2) (eTup (aCons (eC (.str [112, 111, 105, 110, 116])) (aCons (eV 1) (aCons (eMeth 6 m_Desk_keeper_of (eV 0) (aCons (eV 1) aNil)) aNil)))))) sPass)
    (sRet (eV 2))))
def m_Desk_on_point : MF := mkFn 2 3 m_Desk_on_point_body
/-- Desk.throw(self, point, lie): 0 self 1 point 2 lie -/
def m_Desk_throw_body : MS := (sSeq (sIf (tV (eOp pNotIn (eV 1) (eFld cs_points 4 (eFld cs_layout 7 (eV 0))))) (sRaise 12) sPass)
    (sSeq (sIf (tV (eOp pNe (eOp pIx (eFld cs_lies 18 (eV 0)) (eV 1)) (eV 2))) (sExp (eFn m_must_be_free (aCons (eMeth 6 m_Desk_on_point (eV 0) (aCons (eV 1) aNil)) aNil))) sPass)
    (sSeq (sSetIx (eFld cs_lies 18 (eV 0)) (eV 1) (eV 2))
    (sExp (eMeth 6 m_Desk_done (eV 0) (aCons (eOp pAdd (eOp pAdd (eOp pAdd (eC (.str [116, 104, 114, 111, 119, 32])) (eV 1)) (eC (.str [32]))) (eV 2)) aNil))))))
def m_Desk_throw : MF := mkFn 3 3 m_Desk_throw_body
/-- Finder.go_on(self, end, sections, needs): 0 self 1 end 2 sections 3 needs 4 link 5 section 6 side 7 more -/
def m_Finder_go_on_body (r : MF) : MS := (sFor (gV 4) (iList (eMeth 1 m_Layout_links_at (eFld cs_layout 7 (eV 0)) (aCons (eV 1) aNil))) (sSeq (sAsg (gTup [(gV 5), (gV 6)]) (eMeth 0 m_Link_far (eV 4) (aCons (eV 1) aNil)))
    (sIf (tAnd (tV (eOp pNe (eV 5) (eOp pIx (eFld cs_begin 12 (eV 0)) (eC (.int 0))))) (tAnd (tV (eOp pNotIn (eV 5) (eV 2))) (tV (eFn m_agree (aCons (eV 3) (aCons (eFld cs_needs 2 (eV 4)) aNil)))))) (sSeq (sAsg (gV 7) (eUn pDict (eV 3)))
    (sSeq (sExp (eM1 1 pUpdate (eV 7) (eFld cs_needs 2 (eV 4))))
    (sExp (eMeth 4 (m_Finder_come_to r) (eV 0) (aCons (eTup (aCons (eV 5) (aCons (eOp pSub (eC (.int 1)) (eV 6)) aNil))) (aCons (eOp pAdd (eV 2) (eLst (aCons (eV 5) aNil))) (aCons (eV 7) aNil))))))) sPass)))
def m_Finder_go_on : Nat → MF
  | 0 => fun _ _ => .bad
  | n + 1 => mkFn 4 8 (m_Finder_go_on_body (m_Finder_go_on n))
/-- _law_ways(_law_st, _law_begin, _law_end, _law_sections, _law_needs): 0 _law_st 1 _law_begin 2 _law_end 3 _law_sections 4 _law_needs 5 _law_found 6 _law_one 7 _law_other 8 _law_wants 9 _law_section 10 _law_side 11 _law_apart 12 _law_point 13 _law_more 14 _law_out 15 _law_target 16 _law_link -/
def m_law_ways_body (r : MF) : MS := (sSeq (sAsg (gV 5) (eLst aNil))
    (sSeq (sFor (gTup [(gV 6), (gV 7), (gV 8)]) (iList (eOp pIx (eV 0) (eC (.str [108, 105, 110, 107, 115])))) (sSeq (sIf (tV (eOp pNotIn (eV 2) (eTup (aCons (eV 6) (aCons (eV 7) aNil))))) sCont sPass)
    (sSeq (sAsg (gTup [(gV 9), (gV 10)]) (eIf (tV (eOp pEq (eV 2) (eV 7))) (eV 6) (eV 7)))
    (sSeq (sLock (eV 8) (sAsg (gV 11) (eLc 12 (iKeys (eV 8)) (tV (eOp pNe (eGet2 (eV 4) (eV 12) (eOp pIx (eV 8) (eV 12))) (eOp pIx (eV 8) (eV 12)))) (eV 12))))
    (sSeq (sIf (tOr (tV (eOp pEq (eV 9) (eV 1))) (tOr (tV (eOp pIn (eV 9) (eV 3))) (tV (eOp pNe (eV 11) (eLst aNil))))) sCont sPass)
    (sSeq (sAsg (gV 13) (eUn pDict (eV 4)))
    (sSeq (sLock (eV 8) (sFor (gV 12) (iKeys (eV 8)) (sSetIx (eV 13) (eV 12) (eOp pIx (eV 8) (eV 12)))))
    (sSeq (sAsg (gV 14) (eTup (aCons (eV 9) (aCons (eOp pSub (eC (.int 1)) (eV 10)) aNil))))
    (sSeq (sAsg (gV 15) (eFn m_law_signal_at (aCons (eV 0) (aCons (eV 14) aNil))))
    (sIf (tOr (tV (eUn pNotN (eV 15))) (tV (eOp pEq (eLc 16 (iList (eOp pIx (eV 0) (eC (.str [108, 105, 110, 107, 115])))) (tV (eOp pIn (eV 14) (eSl (eV 16) oNone (oSome (eC (.int 2)))))) (eC (.int 1))) (eLst aNil)))) (sExp (eM1 0 pAppend (eV 5) (eTup (aCons (eV 15) (aCons (eOp pAdd (eV 3) (eLst (aCons (eV 9) aNil))) (aCons (eV 13) aNil)))))) (sAsg (gV 5) (eOp pAdd (eV 5) (eFn r (aCons (eV 0) (aCons (eV 1) (aCons (eV 14) (aCons (eOp pAdd (eV 3) (eLst (aCons (eV 9) aNil))) (aCons (eV 13) aNil))))))))))))))))))
    (sRet (eV 5))))
def m_law_ways : Nat → MF
  | 0 => fun _ _ => .bad
  | n + 1 => mkFn 5 17 (m_law_ways_body (m_law_ways n))
/-- routes_of(layout): 0 layout 1 found 2 signal 3 finder -/
def m_routes_of_body : MS := (sSeq (sAsg (gV 1) (eLst aNil))
    (sSeq (sLock (eFld cs_signals 6 (eV 0)) (sFor (gV 2) (iKeys (eFld cs_signals 6 (eV 0))) (sSeq (sAsg (gV 3) (eNew 4 m_Finder_init__ (aCons (eV 0) (aCons (eV 2) aNil))))
    (sSeq (sExp (eMeth 4 (m_Finder_go_on 32) (eV 3) (aCons (eFld cs_begin 12 (eV 3)) (aCons (eLst aNil) (aCons eD0 aNil)))))
    (sSeq (sAsg (gV 1) (eOp pAdd (eV 1) (eFld cs_found 13 (eV 3))))
    (sIf (tV (eOp pGt (eUn pLen (eV 1)) (eC (.int 60)))) (sRaise 14) sPass))))))
    (sRet (eV 1))))
def m_routes_of : MF := mkFn 1 4 m_routes_of_body
/-- _law_routes(_law_st): 0 _law_st 1 _law_found 2 _law_signal 3 _law_end 4 _law_target 5 _law_sections 6 _law_needs 7 _law_wants 8 _law_point -/
def m_law_routes_body : MS := (sSeq (sAsg (gV 1) (eLst aNil))
    (sSeq (sLock (eOp pIx (eV 0) (eC (.str [115, 105, 103, 110, 97, 108, 115]))) (sFor (gV 2) (iKeys (eOp pIx (eV 0) (eC (.str [115, 105, 103, 110, 97, 108, 115])))) (sSeq (sAsg (gV 3) (eOp pIx (eOp pIx (eV 0) (eC (.str [115, 105, 103, 110, 97, 108, 115]))) (eV 2)))
    (sFor (gTup [(gV 4), (gV 5), (gV 6)]) (iList (eFn (m_law_ways 32) (aCons (eV 0) (aCons (eOp pIx (eV 3) (eC (.int 0))) (aCons (eV 3) (aCons (eLst aNil) (aCons eD0 aNil))))))) (sSeq (sAsg (gV 7) (eUn pTuple (eLc 8 (iList (eUn pSorted (eV 6))) tYes (eTup (aCons (eV 8) (aCons (eOp pIx (eV 6) (eV 8)) aNil))))))
    (sExp (eM1 0 pAppend (eV 1) (eTup (aCons (eV 2) (aCons (eV 4) (aCons (eUn pTuple (eV 5)) (aCons (eV 7) aNil))))))))))))
    (sRet (eV 1))))
def m_law_routes : MF := mkFn 1 9 m_law_routes_body
/-- Desk.__init__(self, layout): 0 self 1 layout 2 point -/
def m_Desk_init___body : MS := (sSeq (sSetFld cs_layout 7 (eV 0) (eV 1))
    (sSeq (sSetFld cs_routes 17 (eV 0) (eFn m_routes_of (aCons (eV 1) aNil)))
    (sSeq (sSetFld cs_lies 18 (eV 0) eD0)
    (sSeq (sLock (eFld cs_points 4 (eV 1)) (sFor (gV 2) (iKeys (eFld cs_points 4 (eV 1))) (sSetIx (eFld cs_lies 18 (eV 0)) (eV 2) (eC (.str [110])))))
    (sSeq (sSetFld cs_laid 19 (eV 0) eD0)
    (sSeq (sSetFld cs_trains 20 (eV 0) eD0)
    (sSetFld cs_rows 21 (eV 0) (eLst aNil))))))))
def m_Desk_init__ : MF := mkFn 2 3 m_Desk_init___body
/-- _law_too_many(_law_layout, _law_way): 0 _law_layout 1 _law_way 2 e 3 _law_others -/
def m_law_too_many_body : MS := (sSeq (sTry (okB [14] []) (sIf (tV (eOp pEq (eV 1) (eC (.int 0)))) (sExp (eFn m_routes_of (aCons (eV 0) aNil))) (sExp (eNew 6 m_Desk_init__ (aCons (eV 0) aNil)))) [(.nm [10, 11, 12, 13, 14, 15] 2 (fun y v => (sSeq (sAsg (gV 3) (eUn (pHeld (decide (y.c ∈ ([11, 12, 13, 15] : List Nat))) v) (eV 2)))
    (sRet (eAnd (eUn (pHeld (decide (y.c ∈ ([14] : List Nat))) v) (eV 2)) (eAnd (eUn (pHeld (decide (y.c ∈ ([10, 11, 12, 13, 14, 15] : List Nat))) v) (eV 2)) (eNot (eV 3))))))))])
    (sRet (eC (.bl false))))
def m_law_too_many : MF := mkFn 2 4 m_law_too_many_body
/-- law(_law_script): 0 _law_script 1 _law_row 2 _law_st 3 _law_layout 4 _law_due 5 _law_turn 6 _law_found 7 _law_route -/
def m_law_k05_body : MS := (sSeq (sAsg (gV 1) (eLst (aCons (eV 0) (aCons (eC (.int 0)) (aCons (eC (.int 0)) (aCons (eC (.int 0)) aNil))))))
    (sSeq (sAsg (gV 2) (eFn m_law_station (aCons (eV 1) aNil)))
    (sSeq (sAsg (gV 3) (eFn m_read_layout (aCons (eFn m_law_text (aCons (eV 2) aNil)) aNil)))
    (sSeq (sAsg (gV 4) (eFn m_law_routes (aCons (eV 2) aNil)))
    (sSeq (sIf (tV (eOp pGt (eUn pLen (eV 4)) (eC (.int 60)))) (sRet (eAnd (eFn m_law_too_many (aCons (eV 3) (aCons (eC (.int 0)) aNil))) (eFn m_law_too_many (aCons (eV 3) (aCons (eC (.int 1)) aNil))))) sPass)
    (sSeq (sFor (gV 5) (iRng1 (eC (.int 2))) (sSeq (sAsg (gV 6) (eFn m_routes_of (aCons (eV 3) aNil)))
    (sSeq (sIf (tOr (tNot (tV (eUn pIsList (eV 6)))) (tV (eOp pNe (eLc 7 (iList (eV 6)) tYes (eMeth 3 m_Route_told (eV 7) aNil)) (eV 4)))) (sRet (eC (.bl false))) sPass)
    (sExp (eM1 0 pAppend (eV 6) (eC (.int 0)))))))
    (sRet (eC (.bl true)))))))))
def m_law_k05 : MF := mkFn 1 8 m_law_k05_body
end Mn
end

section
set_option Elab.async false
set_option linter.all false
set_option maxRecDepth 100000
set_option maxHeartbeats 4000000
namespace Mn
open PySem PySem.Spec L2 TL
def topS (i : Nat) : Stmt := PySem.Challenge.pw_signalhouse_k05_whole_all_routes.main.body.getD i (.Pass ⟨0, 0, 0, 0⟩)
abbrev st0 : Stmt := inClass (topS 10) 0
abbrev st1 : Stmt := inClass (topS 10) 1
abbrev st2 : Stmt := topS 11
abbrev st3 : Stmt := inClass (topS 12) 0
abbrev st4 : Stmt := inClass (topS 12) 1
abbrev st5 : Stmt := inClass (topS 12) 2
abbrev st6 : Stmt := topS 13
abbrev st7 : Stmt := inClass (topS 15) 0
abbrev st8 : Stmt := inClass (topS 15) 1
abbrev st9 : Stmt := inClass (topS 15) 2
abbrev st10 : Stmt := inClass (topS 15) 3
abbrev st11 : Stmt := inClass (topS 15) 7
abbrev st12 : Stmt := inClass (topS 15) 8
abbrev st13 : Stmt := inClass (topS 15) 10
abbrev st14 : Stmt := inClass (topS 15) 15
abbrev st15 : Stmt := topS 16
abbrev st16 : Stmt := inClass (topS 18) 0
abbrev st17 : Stmt := inClass (topS 18) 1
abbrev st18 : Stmt := inClass (topS 19) 0
abbrev st19 : Stmt := inClass (topS 19) 1
abbrev st20 : Stmt := inClass (topS 19) 2
abbrev st21 : Stmt := inClass (topS 24) 0
abbrev st22 : Stmt := inClass (topS 24) 1
abbrev st23 : Stmt := inClass (topS 24) 2
abbrev st24 : Stmt := inClass (topS 24) 3
abbrev st25 : Stmt := inClass (topS 24) 4
abbrev st26 : Stmt := inClass (topS 24) 5
abbrev st27 : Stmt := inClass (topS 24) 6
abbrev st28 : Stmt := topS 25
abbrev st29 : Stmt := topS 27
abbrev st30 : Stmt := topS 28
abbrev st31 : Stmt := topS 29
abbrev st32 : Stmt := topS 30
abbrev st33 : Stmt := topS 31
abbrev st34 : Stmt := topS 32
abbrev st35 : Stmt := topS 33
abbrev st36 : Stmt := topS 34
abbrev st37 : Stmt := topS 35
abbrev st38 : Stmt := topS 36
abbrev st39 : Stmt := topS 37
structure Fx (K : PySem.W.Frag) (w : World) (mg : Str → Option Value) (cA fA : Nat → Addr) (fD : Nat → FuncData) : Prop where
  F0 : Fun K "__init__" "Route.__init__" st0 (fA 0) (fD 0)
  b0 : Binds K (fD 0) ["self", "signal", "target", "sections", "needs"] []
  F1 : Fun K "told" "Route.told" st1 (fA 1) (fD 1)
  b1 : Binds K (fD 1) ["self"] []
  me1 : Meth K (cA 3) "told" (fA 1)
  F2 : Fun K "agree" "agree" st2 (fA 2) (fD 2)
  b2 : Binds K (fD 2) ["needs", "more"] []
  g_agree : mg "agree" = some (.ref (fA 2))
  F3 : Fun K "__init__" "Finder.__init__" st3 (fA 3) (fD 3)
  b3 : Binds K (fD 3) ["self", "layout", "signal"] []
  F4 : Fun K "go_on" "Finder.go_on" st4 (fA 4) (fD 4)
  b4 : Binds K (fD 4) ["self", "end", "sections", "needs"] []
  me4 : Meth K (cA 4) "go_on" (fA 4)
  F5 : Fun K "come_to" "Finder.come_to" st5 (fA 5) (fD 5)
  b5 : Binds K (fD 5) ["self", "end", "sections", "needs"] []
  me5 : Meth K (cA 4) "come_to" (fA 5)
  F6 : Fun K "routes_of" "routes_of" st6 (fA 6) (fD 6)
  b6 : Binds K (fD 6) ["layout"] []
  g_routes_of : mg "routes_of" = some (.ref (fA 6))
  F7 : Fun K "__init__" "Desk.__init__" st7 (fA 7) (fD 7)
  b7 : Binds K (fD 7) ["self", "layout"] []
  F8 : Fun K "train_in" "Desk.train_in" st8 (fA 8) (fD 8)
  b8 : Binds K (fD 8) ["self", "section"] []
  me8 : Meth K (cA 6) "train_in" (fA 8)
  F9 : Fun K "lock_of" "Desk.lock_of" st9 (fA 9) (fD 9)
  b9 : Binds K (fD 9) ["self", "section"] []
  me9 : Meth K (cA 6) "lock_of" (fA 9)
  F10 : Fun K "keeper_of" "Desk.keeper_of" st10 (fA 10) (fD 10)
  b10 : Binds K (fD 10) ["self", "point"] []
  me10 : Meth K (cA 6) "keeper_of" (fA 10)
  F11 : Fun K "on_section" "Desk.on_section" st11 (fA 11) (fD 11)
  b11 : Binds K (fD 11) ["self", "section"] []
  me11 : Meth K (cA 6) "on_section" (fA 11)
  F12 : Fun K "on_point" "Desk.on_point" st12 (fA 12) (fD 12)
  b12 : Binds K (fD 12) ["self", "point"] []
  me12 : Meth K (cA 6) "on_point" (fA 12)
  F13 : Fun K "done" "Desk.done" st13 (fA 13) (fD 13)
  b13 : Binds K (fD 13) ["self", "row"] []
  me13 : Meth K (cA 6) "done" (fA 13)
  F14 : Fun K "throw" "Desk.throw" st14 (fA 14) (fD 14)
  b14 : Binds K (fD 14) ["self", "point", "lie"] []
  me14 : Meth K (cA 6) "throw" (fA 14)
  F15 : Fun K "must_be_free" "must_be_free" st15 (fA 15) (fD 15)
  b15 : Binds K (fD 15) ["bars"] []
  g_must_be_free : mg "must_be_free" = some (.ref (fA 15))
  F16 : Fun K "__init__" "Link.__init__" st16 (fA 16) (fD 16)
  b16 : Binds K (fD 16) ["self", "one", "other", "needs"] []
  F17 : Fun K "far" "Link.far" st17 (fA 17) (fD 17)
  b17 : Binds K (fD 17) ["self", "end"] []
  me17 : Meth K (cA 0) "far" (fA 17)
  F18 : Fun K "__init__" "Layout.__init__" st18 (fA 18) (fD 18)
  b18 : Binds K (fD 18) ["self"] []
  F19 : Fun K "links_at" "Layout.links_at" st19 (fA 19) (fD 19)
  b19 : Binds K (fD 19) ["self", "end"] []
  me19 : Meth K (cA 1) "links_at" (fA 19)
  F20 : Fun K "signal_at" "Layout.signal_at" st20 (fA 20) (fD 20)
  b20 : Binds K (fD 20) ["self", "end"] []
  me20 : Meth K (cA 1) "signal_at" (fA 20)
  F21 : Fun K "__init__" "Reader.__init__" st21 (fA 21) (fD 21)
  b21 : Binds K (fD 21) ["self"] []
  F22 : Fun K "must" "Reader.must" st22 (fA 22) (fD 22)
  b22 : Binds K (fD 22) ["self", "good"] []
  me22 : Meth K (cA 2) "must" (fA 22)
  F23 : Fun K "fresh" "Reader.fresh" st23 (fA 23) (fD 23)
  b23 : Binds K (fD 23) ["self", "name"] []
  me23 : Meth K (cA 2) "fresh" (fA 23)
  F24 : Fun K "end" "Reader.end" st24 (fA 24) (fD 24)
  b24 : Binds K (fD 24) ["self", "text"] []
  me24 : Meth K (cA 2) "end" (fA 24)
  F25 : Fun K "lies_of" "Reader.lies_of" st25 (fA 25) (fD 25)
  b25 : Binds K (fD 25) ["self", "words", "sections"] []
  me25 : Meth K (cA 2) "lies_of" (fA 25)
  F26 : Fun K "link" "Reader.link" st26 (fA 26) (fD 26)
  b26 : Binds K (fD 26) ["self", "words"] []
  me26 : Meth K (cA 2) "link" (fA 26)
  F27 : Fun K "take" "Reader.take" st27 (fA 27) (fD 27)
  b27 : Binds K (fD 27) ["self", "text"] []
  me27 : Meth K (cA 2) "take" (fA 27)
  F28 : Fun K "read_layout" "read_layout" st28 (fA 28) (fD 28)
  b28 : Binds K (fD 28) ["text"] []
  g_read_layout : mg "read_layout" = some (.ref (fA 28))
  F29 : Fun K "_law_taken" "_law_taken" st29 (fA 29) (fD 29)
  b29 : Binds K (fD 29) ["_law_row", "_law_many"] []
  g__law_taken : mg "_law_taken" = some (.ref (fA 29))
  F30 : Fun K "_law_spread" "_law_spread" st30 (fA 30) (fD 30)
  b30 : Binds K (fD 30) ["_law_row", "_law_st", "_law_one", "_law_others"] []
  g__law_spread : mg "_law_spread" = some (.ref (fA 30))
  F31 : Fun K "_law_tracks" "_law_tracks" st31 (fA 31) (fD 31)
  b31 : Binds K (fD 31) ["_law_row"] []
  g__law_tracks : mg "_law_tracks" = some (.ref (fA 31))
  F32 : Fun K "_law_station" "_law_station" st32 (fA 32) (fD 32)
  b32 : Binds K (fD 32) ["_law_row"] []
  g__law_station : mg "_law_station" = some (.ref (fA 32))
  F33 : Fun K "_law_end_text" "_law_end_text" st33 (fA 33) (fD 33)
  b33 : Binds K (fD 33) ["_law_end"] []
  g__law_end_text : mg "_law_end_text" = some (.ref (fA 33))
  F34 : Fun K "_law_text" "_law_text" st34 (fA 34) (fD 34)
  b34 : Binds K (fD 34) ["_law_st"] []
  g__law_text : mg "_law_text" = some (.ref (fA 34))
  F35 : Fun K "_law_signal_at" "_law_signal_at" st35 (fA 35) (fD 35)
  b35 : Binds K (fD 35) ["_law_st", "_law_end"] []
  g__law_signal_at : mg "_law_signal_at" = some (.ref (fA 35))
  F36 : Fun K "_law_ways" "_law_ways" st36 (fA 36) (fD 36)
  b36 : Binds K (fD 36) ["_law_st", "_law_begin", "_law_end", "_law_sections", "_law_needs"] []
  g__law_ways : mg "_law_ways" = some (.ref (fA 36))
  F37 : Fun K "_law_routes" "_law_routes" st37 (fA 37) (fD 37)
  b37 : Binds K (fD 37) ["_law_st"] []
  g__law_routes : mg "_law_routes" = some (.ref (fA 37))
  F38 : Fun K "_law_too_many" "_law_too_many" st38 (fA 38) (fD 38)
  b38 : Binds K (fD 38) ["_law_layout", "_law_way"] []
  g__law_too_many : mg "_law_too_many" = some (.ref (fA 38))
  F39 : Fun K "law" "law" st39 (fA 39) (fD 39)
  b39 : Binds K (fD 39) ["_law_script"] []
  g_law : mg "law" = some (.ref (fA 39))
  cl_Route : Cls K (cA 3)
  mk_Route : Mk K (cA 3) (fA 0)
  g_Route : mg "Route" = some (.ref (cA 3))
  cl_Finder : Cls K (cA 4)
  mk_Finder : Mk K (cA 4) (fA 3)
  g_Finder : mg "Finder" = some (.ref (cA 4))
  cl_Desk : Cls K (cA 6)
  mk_Desk : Mk K (cA 6) (fA 7)
  g_Desk : mg "Desk" = some (.ref (cA 6))
  cl_Link : Cls K (cA 0)
  mk_Link : Mk K (cA 0) (fA 16)
  g_Link : mg "Link" = some (.ref (cA 0))
  cl_Layout : Cls K (cA 1)
  mk_Layout : Mk K (cA 1) (fA 18)
  g_Layout : mg "Layout" = some (.ref (cA 1))
  cl_Reader : Cls K (cA 2)
  mk_Reader : Mk K (cA 2) (fA 21)
  g_Reader : mg "Reader" = some (.ref (cA 2))
  a_one : ∀ C ∈ cs_one, Cls K (cA C) ∧ NoAttr K (cA C) "one"
  a_other : ∀ C ∈ cs_other, Cls K (cA C) ∧ NoAttr K (cA C) "other"
  a_needs : ∀ C ∈ cs_needs, Cls K (cA C) ∧ NoAttr K (cA C) "needs"
  a_sections : ∀ C ∈ cs_sections, Cls K (cA C) ∧ NoAttr K (cA C) "sections"
  a_points : ∀ C ∈ cs_points, Cls K (cA C) ∧ NoAttr K (cA C) "points"
  a_links : ∀ C ∈ cs_links, Cls K (cA C) ∧ NoAttr K (cA C) "links"
  a_signals : ∀ C ∈ cs_signals, Cls K (cA C) ∧ NoAttr K (cA C) "signals"
  a_layout : ∀ C ∈ cs_layout, Cls K (cA C) ∧ NoAttr K (cA C) "layout"
  a_row : ∀ C ∈ cs_row, Cls K (cA C) ∧ NoAttr K (cA C) "row"
  a_counts : ∀ C ∈ cs_counts, Cls K (cA C) ∧ NoAttr K (cA C) "counts"
  a_signal : ∀ C ∈ cs_signal, Cls K (cA C) ∧ NoAttr K (cA C) "signal"
  a_target : ∀ C ∈ cs_target, Cls K (cA C) ∧ NoAttr K (cA C) "target"
  a_begin : ∀ C ∈ cs_begin, Cls K (cA C) ∧ NoAttr K (cA C) "begin"
  a_found : ∀ C ∈ cs_found, Cls K (cA C) ∧ NoAttr K (cA C) "found"
  a_locked : ∀ C ∈ cs_locked, Cls K (cA C) ∧ NoAttr K (cA C) "locked"
  a_train : ∀ C ∈ cs_train, Cls K (cA C) ∧ NoAttr K (cA C) "train"
  a_routes : ∀ C ∈ cs_routes, Cls K (cA C) ∧ NoAttr K (cA C) "routes"
  a_lies : ∀ C ∈ cs_lies, Cls K (cA C) ∧ NoAttr K (cA C) "lies"
  a_laid : ∀ C ∈ cs_laid, Cls K (cA C) ∧ NoAttr K (cA C) "laid"
  a_trains : ∀ C ∈ cs_trains, Cls K (cA C) ∧ NoAttr K (cA C) "trains"
  a_rows : ∀ C ∈ cs_rows, Cls K (cA C) ∧ NoAttr K (cA C) "rows"
  x_BadBook : ExOk K mg (cA 15) "BadBook"
  x_BadLayout : ExOk K mg (cA 11) "BadLayout"
  x_Barred : ExOk K mg (cA 13) "Barred"
  x_HouseError : ExOk K mg (cA 10) "HouseError"
  x_NoSuch : ExOk K mg (cA 12) "NoSuch"
  x_TooMany : ExOk K mg (cA 14) "TooMany"
  s_HouseError : SubsOf K cA 10 [14] [10, 11, 12, 13, 14, 15]
  xc : ∀ c ∈ ([14] : List Nat), ExcC K (cA c)
  k_BadBook_BadLayout_Barred_NoSuch : ∀ c ∈ ([14] : List Nat), PySem.W.kitAny K (.ref (cA c)) [.ref (cA 15), .ref (cA 11), .ref (cA 13), .ref (cA 12)] = some (decide (c ∈ ([11, 12, 13, 15] : List Nat)))
  k_TooMany : ∀ c ∈ ([14] : List Nat), PySem.W.kitOne K (.ref (cA c)) (.ref (cA 14)) = some (decide (c ∈ ([14] : List Nat)))
  k_ValueError : ∀ c ∈ ([14] : List Nat), PySem.W.kitOne K (.ref (cA c)) (.type "ValueError") = some (decide (c ∈ ([10, 11, 12, 13, 14, 15] : List Nat)))
  x0_NoSuch : Ex0 K (cA 12)
  x0_TooMany : Ex0 K (cA 14)
  z_ValueError : mg "ValueError" = none
  z_dict : mg "dict" = none
  z_enumerate : mg "enumerate" = none
  z_int : mg "int" = none
  z_isinstance : mg "isinstance" = none
  z_len : mg "len" = none
  z_list : mg "list" = none
  z_range : mg "range" = none
  z_sorted : mg "sorted" = none
  z_str : mg "str" = none
  z_tuple : mg "tuple" = none
  g_LONGEST : ∃ t, mg "LONGEST" = some (.int 6 t)
  g_MOST : TabAt K w mg "MOST" [([115, 101, 99, 116, 105, 111, 110], 30), ([112, 111, 105, 110, 116], 12), ([108, 105, 110, 107], 60), ([115, 105, 103, 110, 97, 108], 16)]
  g_MOST_ROUTES : ∃ t, mg "MOST_ROUTES" = some (.int 60 t)
  g_SIGNS : ∃ t, mg "SIGNS" = some (.str (mkS [97, 98, 99, 100, 101, 102, 103, 104, 105, 106, 107, 108, 109, 110, 111, 112, 113, 114, 115, 116, 117, 118, 119, 120, 121, 122, 48, 49, 50, 51, 52, 53, 54, 55, 56, 57]) t)
end Mn
end

section
set_option Elab.async false
set_option linter.all false
set_option maxRecDepth 100000
set_option maxHeartbeats 8000000
namespace Mn
open PySem PySem.Spec L2 TL
theorem all_mk {w : World} {K : PySem.W.Frag} {h : Heap} {mg : Str → Option Value} {fa : Addr} {c3 : Addr} {c4 : Addr} {c6 : Addr} {c0 : Addr} {c1 : Addr} {c2 : Addr} {f0 : Addr} {od0 an0 : Option Addr} {sl0 : Array (Option Value)} {oc0 kV0 dc0 pm0 cd0 ct0 : Value} {f1 : Addr} {od1 an1 : Option Addr} {sl1 : Array (Option Value)} {oc1 kV1 dc1 pm1 cd1 ct1 : Value} {f2 : Addr} {od2 an2 : Option Addr} {sl2 : Array (Option Value)} {oc2 kV2 dc2 pm2 cd2 ct2 : Value} {f3 : Addr} {od3 an3 : Option Addr} {sl3 : Array (Option Value)} {oc3 kV3 dc3 pm3 cd3 ct3 : Value} {f4 : Addr} {od4 an4 : Option Addr} {sl4 : Array (Option Value)} {oc4 kV4 dc4 pm4 cd4 ct4 : Value} {f5 : Addr} {od5 an5 : Option Addr} {sl5 : Array (Option Value)} {oc5 kV5 dc5 pm5 cd5 ct5 : Value} {f6 : Addr} {od6 an6 : Option Addr} {sl6 : Array (Option Value)} {oc6 kV6 dc6 pm6 cd6 ct6 : Value} {f7 : Addr} {od7 an7 : Option Addr} {sl7 : Array (Option Value)} {oc7 kV7 dc7 pm7 cd7 ct7 : Value} {f8 : Addr} {od8 an8 : Option Addr} {sl8 : Array (Option Value)} {oc8 kV8 dc8 pm8 cd8 ct8 : Value} {f9 : Addr} {od9 an9 : Option Addr} {sl9 : Array (Option Value)} {oc9 kV9 dc9 pm9 cd9 ct9 : Value} {f10 : Addr} {od10 an10 : Option Addr} {sl10 : Array (Option Value)} {oc10 kV10 dc10 pm10 cd10 ct10 : Value} {f11 : Addr} {od11 an11 : Option Addr} {sl11 : Array (Option Value)} {oc11 kV11 dc11 pm11 cd11 ct11 : Value} {f12 : Addr} {od12 an12 : Option Addr} {sl12 : Array (Option Value)} {oc12 kV12 dc12 pm12 cd12 ct12 : Value} {f13 : Addr} {od13 an13 : Option Addr} {sl13 : Array (Option Value)} {oc13 kV13 dc13 pm13 cd13 ct13 : Value} {f14 : Addr} {od14 an14 : Option Addr} {sl14 : Array (Option Value)} {oc14 kV14 dc14 pm14 cd14 ct14 : Value} {f15 : Addr} {od15 an15 : Option Addr} {sl15 : Array (Option Value)} {oc15 kV15 dc15 pm15 cd15 ct15 : Value} {f16 : Addr} {od16 an16 : Option Addr} {sl16 : Array (Option Value)} {oc16 kV16 dc16 pm16 cd16 ct16 : Value} {f17 : Addr} {od17 an17 : Option Addr} {sl17 : Array (Option Value)} {oc17 kV17 dc17 pm17 cd17 ct17 : Value} {f18 : Addr} {od18 an18 : Option Addr} {sl18 : Array (Option Value)} {oc18 kV18 dc18 pm18 cd18 ct18 : Value} {f19 : Addr} {od19 an19 : Option Addr} {sl19 : Array (Option Value)} {oc19 kV19 dc19 pm19 cd19 ct19 : Value} {f20 : Addr} {od20 an20 : Option Addr} {sl20 : Array (Option Value)} {oc20 kV20 dc20 pm20 cd20 ct20 : Value} {f21 : Addr} {od21 an21 : Option Addr} {sl21 : Array (Option Value)} {oc21 kV21 dc21 pm21 cd21 ct21 : Value} {f22 : Addr} {od22 an22 : Option Addr} {sl22 : Array (Option Value)} {oc22 kV22 dc22 pm22 cd22 ct22 : Value} {f23 : Addr} {od23 an23 : Option Addr} {sl23 : Array (Option Value)} {oc23 kV23 dc23 pm23 cd23 ct23 : Value} {f24 : Addr} {od24 an24 : Option Addr} {sl24 : Array (Option Value)} {oc24 kV24 dc24 pm24 cd24 ct24 : Value} {f25 : Addr} {od25 an25 : Option Addr} {sl25 : Array (Option Value)} {oc25 kV25 dc25 pm25 cd25 ct25 : Value} {f26 : Addr} {od26 an26 : Option Addr} {sl26 : Array (Option Value)} {oc26 kV26 dc26 pm26 cd26 ct26 : Value} {f27 : Addr} {od27 an27 : Option Addr} {sl27 : Array (Option Value)} {oc27 kV27 dc27 pm27 cd27 ct27 : Value} {f28 : Addr} {od28 an28 : Option Addr} {sl28 : Array (Option Value)} {oc28 kV28 dc28 pm28 cd28 ct28 : Value} {f29 : Addr} {od29 an29 : Option Addr} {sl29 : Array (Option Value)} {oc29 kV29 dc29 pm29 cd29 ct29 : Value} {f30 : Addr} {od30 an30 : Option Addr} {sl30 : Array (Option Value)} {oc30 kV30 dc30 pm30 cd30 ct30 : Value} {f31 : Addr} {od31 an31 : Option Addr} {sl31 : Array (Option Value)} {oc31 kV31 dc31 pm31 cd31 ct31 : Value} {f32 : Addr} {od32 an32 : Option Addr} {sl32 : Array (Option Value)} {oc32 kV32 dc32 pm32 cd32 ct32 : Value} {f33 : Addr} {od33 an33 : Option Addr} {sl33 : Array (Option Value)} {oc33 kV33 dc33 pm33 cd33 ct33 : Value} {f34 : Addr} {od34 an34 : Option Addr} {sl34 : Array (Option Value)} {oc34 kV34 dc34 pm34 cd34 ct34 : Value} {f35 : Addr} {od35 an35 : Option Addr} {sl35 : Array (Option Value)} {oc35 kV35 dc35 pm35 cd35 ct35 : Value} {f36 : Addr} {od36 an36 : Option Addr} {sl36 : Array (Option Value)} {oc36 kV36 dc36 pm36 cd36 ct36 : Value} {f37 : Addr} {od37 an37 : Option Addr} {sl37 : Array (Option Value)} {oc37 kV37 dc37 pm37 cd37 ct37 : Value} {f38 : Addr} {od38 an38 : Option Addr} {sl38 : Array (Option Value)} {oc38 kV38 dc38 pm38 cd38 ct38 : Value} {f39 : Addr} {od39 an39 : Option Addr} {sl39 : Array (Option Value)} {oc39 kV39 dc39 pm39 cd39 ct39 : Value} {e10 : Addr} {e11 : Addr} {e12 : Addr} {e13 : Addr} {e14 : Addr} {e15 : Addr} {t_LONGEST : Tok} {d_MOST : Addr} {es_MOST : Array DictEntry} {n_MOST : Nat} {t_MOST_0 : Tok} {t_MOST_1 : Tok} {t_MOST_2 : Tok} {t_MOST_3 : Tok} {t_MOST_ROUTES : Tok} {t_SIGNS : Tok} (X : K.In h) (Gn : h.Ns mainGlobals mg) (hfa : mg "law" = some (.ref fa))
    (gc3 : PySem.W.nsIn K mainGlobals "Route" = some (some (.ref c3)))
    (pgc3 : PySem.W.plainGet K c3 Str.empty = true)
    (hdc3 : PySem.W.hasDictIn K c3 = true)
    (poc3 : PySem.W.plainOver K c3 = true)
    (sac3 : PySem.W.findIn K (.ref c3) "__setattr__" = some (some (.builtin "object.__setattr__")))
    (mkc3 : PySem.W.makesIn K c3 = true)
    (kcc3 : PySem.W.keepIn K (.ref c3) = true)
    (nc3_needs : PySem.W.findIn K (.ref c3) "needs" = some none)
    (nc3_sections : PySem.W.findIn K (.ref c3) "sections" = some none)
    (nc3_signal : PySem.W.findIn K (.ref c3) "signal" = some none)
    (nc3_target : PySem.W.findIn K (.ref c3) "target" = some none)
    (gc4 : PySem.W.nsIn K mainGlobals "Finder" = some (some (.ref c4)))
    (pgc4 : PySem.W.plainGet K c4 Str.empty = true)
    (hdc4 : PySem.W.hasDictIn K c4 = true)
    (poc4 : PySem.W.plainOver K c4 = true)
    (sac4 : PySem.W.findIn K (.ref c4) "__setattr__" = some (some (.builtin "object.__setattr__")))
    (mkc4 : PySem.W.makesIn K c4 = true)
    (kcc4 : PySem.W.keepIn K (.ref c4) = true)
    (nc4_layout : PySem.W.findIn K (.ref c4) "layout" = some none)
    (nc4_signal : PySem.W.findIn K (.ref c4) "signal" = some none)
    (nc4_begin : PySem.W.findIn K (.ref c4) "begin" = some none)
    (nc4_found : PySem.W.findIn K (.ref c4) "found" = some none)
    (gc6 : PySem.W.nsIn K mainGlobals "Desk" = some (some (.ref c6)))
    (pgc6 : PySem.W.plainGet K c6 Str.empty = true)
    (hdc6 : PySem.W.hasDictIn K c6 = true)
    (poc6 : PySem.W.plainOver K c6 = true)
    (sac6 : PySem.W.findIn K (.ref c6) "__setattr__" = some (some (.builtin "object.__setattr__")))
    (mkc6 : PySem.W.makesIn K c6 = true)
    (kcc6 : PySem.W.keepIn K (.ref c6) = true)
    (nc6_layout : PySem.W.findIn K (.ref c6) "layout" = some none)
    (nc6_routes : PySem.W.findIn K (.ref c6) "routes" = some none)
    (nc6_lies : PySem.W.findIn K (.ref c6) "lies" = some none)
    (nc6_laid : PySem.W.findIn K (.ref c6) "laid" = some none)
    (nc6_trains : PySem.W.findIn K (.ref c6) "trains" = some none)
    (nc6_rows : PySem.W.findIn K (.ref c6) "rows" = some none)
    (gc0 : PySem.W.nsIn K mainGlobals "Link" = some (some (.ref c0)))
    (pgc0 : PySem.W.plainGet K c0 Str.empty = true)
    (hdc0 : PySem.W.hasDictIn K c0 = true)
    (poc0 : PySem.W.plainOver K c0 = true)
    (sac0 : PySem.W.findIn K (.ref c0) "__setattr__" = some (some (.builtin "object.__setattr__")))
    (mkc0 : PySem.W.makesIn K c0 = true)
    (kcc0 : PySem.W.keepIn K (.ref c0) = true)
    (nc0_one : PySem.W.findIn K (.ref c0) "one" = some none)
    (nc0_other : PySem.W.findIn K (.ref c0) "other" = some none)
    (nc0_needs : PySem.W.findIn K (.ref c0) "needs" = some none)
    (gc1 : PySem.W.nsIn K mainGlobals "Layout" = some (some (.ref c1)))
    (pgc1 : PySem.W.plainGet K c1 Str.empty = true)
    (hdc1 : PySem.W.hasDictIn K c1 = true)
    (poc1 : PySem.W.plainOver K c1 = true)
    (sac1 : PySem.W.findIn K (.ref c1) "__setattr__" = some (some (.builtin "object.__setattr__")))
    (mkc1 : PySem.W.makesIn K c1 = true)
    (kcc1 : PySem.W.keepIn K (.ref c1) = true)
    (nc1_sections : PySem.W.findIn K (.ref c1) "sections" = some none)
    (nc1_points : PySem.W.findIn K (.ref c1) "points" = some none)
    (nc1_links : PySem.W.findIn K (.ref c1) "links" = some none)
    (nc1_signals : PySem.W.findIn K (.ref c1) "signals" = some none)
    (gc2 : PySem.W.nsIn K mainGlobals "Reader" = some (some (.ref c2)))
    (pgc2 : PySem.W.plainGet K c2 Str.empty = true)
    (hdc2 : PySem.W.hasDictIn K c2 = true)
    (poc2 : PySem.W.plainOver K c2 = true)
    (sac2 : PySem.W.findIn K (.ref c2) "__setattr__" = some (some (.builtin "object.__setattr__")))
    (mkc2 : PySem.W.makesIn K c2 = true)
    (kcc2 : PySem.W.keepIn K (.ref c2) = true)
    (nc2_layout : PySem.W.findIn K (.ref c2) "layout" = some none)
    (nc2_row : PySem.W.findIn K (.ref c2) "row" = some none)
    (nc2_counts : PySem.W.findIn K (.ref c2) "counts" = some none)
    (nc2_locked : PySem.W.findIn K (.ref c2) "locked" = some none)
    (nc2_train : PySem.W.findIn K (.ref c2) "train" = some none)
    (a0 : PySem.W.findIn K (.ref c3) "__init__" = some (some (.ref f0)))
    (i0 : PySem.W.isFn K (.ref f0) = true)
    (l0 : K.lookup f0 = some ⟨oc0, od0, .func (PySem.W.fnOf "__init__" "Route.__init__" (defArgs st0) (defBody st0) (defScope st0) .none kV0 dc0 pm0 an0 cd0 ct0), sl0⟩)
    (cc0 : PySem.W.codeIn K cd0 "Route.__init__" = true)
    (k0 : PySem.W.keepIn K (.ref f0) = true)
    (a1 : PySem.W.findIn K (.ref c3) "told" = some (some (.ref f1)))
    (i1 : PySem.W.isFn K (.ref f1) = true)
    (l1 : K.lookup f1 = some ⟨oc1, od1, .func (PySem.W.fnOf "told" "Route.told" (defArgs st1) (defBody st1) (defScope st1) .none kV1 dc1 pm1 an1 cd1 ct1), sl1⟩)
    (cc1 : PySem.W.codeIn K cd1 "Route.told" = true)
    (k1 : PySem.W.keepIn K (.ref f1) = true)
    (a2 : PySem.W.nsIn K mainGlobals "agree" = some (some (.ref f2)))
    (l2 : K.lookup f2 = some ⟨oc2, od2, .func (PySem.W.fnOf "agree" "agree" (defArgs st2) (defBody st2) (defScope st2) .none kV2 dc2 pm2 an2 cd2 ct2), sl2⟩)
    (cc2 : PySem.W.codeIn K cd2 "agree" = true)
    (k2 : PySem.W.keepIn K (.ref f2) = true)
    (a3 : PySem.W.findIn K (.ref c4) "__init__" = some (some (.ref f3)))
    (i3 : PySem.W.isFn K (.ref f3) = true)
    (l3 : K.lookup f3 = some ⟨oc3, od3, .func (PySem.W.fnOf "__init__" "Finder.__init__" (defArgs st3) (defBody st3) (defScope st3) .none kV3 dc3 pm3 an3 cd3 ct3), sl3⟩)
    (cc3 : PySem.W.codeIn K cd3 "Finder.__init__" = true)
    (k3 : PySem.W.keepIn K (.ref f3) = true)
    (a4 : PySem.W.findIn K (.ref c4) "go_on" = some (some (.ref f4)))
    (i4 : PySem.W.isFn K (.ref f4) = true)
    (l4 : K.lookup f4 = some ⟨oc4, od4, .func (PySem.W.fnOf "go_on" "Finder.go_on" (defArgs st4) (defBody st4) (defScope st4) .none kV4 dc4 pm4 an4 cd4 ct4), sl4⟩)
    (cc4 : PySem.W.codeIn K cd4 "Finder.go_on" = true)
    (k4 : PySem.W.keepIn K (.ref f4) = true)
    (a5 : PySem.W.findIn K (.ref c4) "come_to" = some (some (.ref f5)))
    (i5 : PySem.W.isFn K (.ref f5) = true)
    (l5 : K.lookup f5 = some ⟨oc5, od5, .func (PySem.W.fnOf "come_to" "Finder.come_to" (defArgs st5) (defBody st5) (defScope st5) .none kV5 dc5 pm5 an5 cd5 ct5), sl5⟩)
    (cc5 : PySem.W.codeIn K cd5 "Finder.come_to" = true)
    (k5 : PySem.W.keepIn K (.ref f5) = true)
    (a6 : PySem.W.nsIn K mainGlobals "routes_of" = some (some (.ref f6)))
    (l6 : K.lookup f6 = some ⟨oc6, od6, .func (PySem.W.fnOf "routes_of" "routes_of" (defArgs st6) (defBody st6) (defScope st6) .none kV6 dc6 pm6 an6 cd6 ct6), sl6⟩)
    (cc6 : PySem.W.codeIn K cd6 "routes_of" = true)
    (k6 : PySem.W.keepIn K (.ref f6) = true)
    (a7 : PySem.W.findIn K (.ref c6) "__init__" = some (some (.ref f7)))
    (i7 : PySem.W.isFn K (.ref f7) = true)
    (l7 : K.lookup f7 = some ⟨oc7, od7, .func (PySem.W.fnOf "__init__" "Desk.__init__" (defArgs st7) (defBody st7) (defScope st7) .none kV7 dc7 pm7 an7 cd7 ct7), sl7⟩)
    (cc7 : PySem.W.codeIn K cd7 "Desk.__init__" = true)
    (k7 : PySem.W.keepIn K (.ref f7) = true)
    (a8 : PySem.W.findIn K (.ref c6) "train_in" = some (some (.ref f8)))
    (i8 : PySem.W.isFn K (.ref f8) = true)
    (l8 : K.lookup f8 = some ⟨oc8, od8, .func (PySem.W.fnOf "train_in" "Desk.train_in" (defArgs st8) (defBody st8) (defScope st8) .none kV8 dc8 pm8 an8 cd8 ct8), sl8⟩)
    (cc8 : PySem.W.codeIn K cd8 "Desk.train_in" = true)
    (k8 : PySem.W.keepIn K (.ref f8) = true)
    (a9 : PySem.W.findIn K (.ref c6) "lock_of" = some (some (.ref f9)))
    (i9 : PySem.W.isFn K (.ref f9) = true)
    (l9 : K.lookup f9 = some ⟨oc9, od9, .func (PySem.W.fnOf "lock_of" "Desk.lock_of" (defArgs st9) (defBody st9) (defScope st9) .none kV9 dc9 pm9 an9 cd9 ct9), sl9⟩)
    (cc9 : PySem.W.codeIn K cd9 "Desk.lock_of" = true)
    (k9 : PySem.W.keepIn K (.ref f9) = true)
    (a10 : PySem.W.findIn K (.ref c6) "keeper_of" = some (some (.ref f10)))
    (i10 : PySem.W.isFn K (.ref f10) = true)
    (l10 : K.lookup f10 = some ⟨oc10, od10, .func (PySem.W.fnOf "keeper_of" "Desk.keeper_of" (defArgs st10) (defBody st10) (defScope st10) .none kV10 dc10 pm10 an10 cd10 ct10), sl10⟩)
    (cc10 : PySem.W.codeIn K cd10 "Desk.keeper_of" = true)
    (k10 : PySem.W.keepIn K (.ref f10) = true)
    (a11 : PySem.W.findIn K (.ref c6) "on_section" = some (some (.ref f11)))
    (i11 : PySem.W.isFn K (.ref f11) = true)
    (l11 : K.lookup f11 = some ⟨oc11, od11, .func (PySem.W.fnOf "on_section" "Desk.on_section" (defArgs st11) (defBody st11) (defScope st11) .none kV11 dc11 pm11 an11 cd11 ct11), sl11⟩)
    (cc11 : PySem.W.codeIn K cd11 "Desk.on_section" = true)
    (k11 : PySem.W.keepIn K (.ref f11) = true)
    (a12 : PySem.W.findIn K (.ref c6) "on_point" = some (some (.ref f12)))
    (i12 : PySem.W.isFn K (.ref f12) = true)
    (l12 : K.lookup f12 = some ⟨oc12, od12, .func (PySem.W.fnOf "on_point" "Desk.on_point" (defArgs st12) (defBody st12) (defScope st12) .none kV12 dc12 pm12 an12 cd12 ct12), sl12⟩)
    (cc12 : PySem.W.codeIn K cd12 "Desk.on_point" = true)
    (k12 : PySem.W.keepIn K (.ref f12) = true)
    (a13 : PySem.W.findIn K (.ref c6) "done" = some (some (.ref f13)))
    (i13 : PySem.W.isFn K (.ref f13) = true)
    (l13 : K.lookup f13 = some ⟨oc13, od13, .func (PySem.W.fnOf "done" "Desk.done" (defArgs st13) (defBody st13) (defScope st13) .none kV13 dc13 pm13 an13 cd13 ct13), sl13⟩)
    (cc13 : PySem.W.codeIn K cd13 "Desk.done" = true)
    (k13 : PySem.W.keepIn K (.ref f13) = true)
    (a14 : PySem.W.findIn K (.ref c6) "throw" = some (some (.ref f14)))
    (i14 : PySem.W.isFn K (.ref f14) = true)
    (l14 : K.lookup f14 = some ⟨oc14, od14, .func (PySem.W.fnOf "throw" "Desk.throw" (defArgs st14) (defBody st14) (defScope st14) .none kV14 dc14 pm14 an14 cd14 ct14), sl14⟩)
    (cc14 : PySem.W.codeIn K cd14 "Desk.throw" = true)
    (k14 : PySem.W.keepIn K (.ref f14) = true)
    (a15 : PySem.W.nsIn K mainGlobals "must_be_free" = some (some (.ref f15)))
    (l15 : K.lookup f15 = some ⟨oc15, od15, .func (PySem.W.fnOf "must_be_free" "must_be_free" (defArgs st15) (defBody st15) (defScope st15) .none kV15 dc15 pm15 an15 cd15 ct15), sl15⟩)
    (cc15 : PySem.W.codeIn K cd15 "must_be_free" = true)
    (k15 : PySem.W.keepIn K (.ref f15) = true)
    (a16 : PySem.W.findIn K (.ref c0) "__init__" = some (some (.ref f16)))
    (i16 : PySem.W.isFn K (.ref f16) = true)
    (l16 : K.lookup f16 = some ⟨oc16, od16, .func (PySem.W.fnOf "__init__" "Link.__init__" (defArgs st16) (defBody st16) (defScope st16) .none kV16 dc16 pm16 an16 cd16 ct16), sl16⟩)
    (cc16 : PySem.W.codeIn K cd16 "Link.__init__" = true)
    (k16 : PySem.W.keepIn K (.ref f16) = true)
    (a17 : PySem.W.findIn K (.ref c0) "far" = some (some (.ref f17)))
    (i17 : PySem.W.isFn K (.ref f17) = true)
    (l17 : K.lookup f17 = some ⟨oc17, od17, .func (PySem.W.fnOf "far" "Link.far" (defArgs st17) (defBody st17) (defScope st17) .none kV17 dc17 pm17 an17 cd17 ct17), sl17⟩)
    (cc17 : PySem.W.codeIn K cd17 "Link.far" = true)
    (k17 : PySem.W.keepIn K (.ref f17) = true)
    (a18 : PySem.W.findIn K (.ref c1) "__init__" = some (some (.ref f18)))
    (i18 : PySem.W.isFn K (.ref f18) = true)
    (l18 : K.lookup f18 = some ⟨oc18, od18, .func (PySem.W.fnOf "__init__" "Layout.__init__" (defArgs st18) (defBody st18) (defScope st18) .none kV18 dc18 pm18 an18 cd18 ct18), sl18⟩)
    (cc18 : PySem.W.codeIn K cd18 "Layout.__init__" = true)
    (k18 : PySem.W.keepIn K (.ref f18) = true)
    (a19 : PySem.W.findIn K (.ref c1) "links_at" = some (some (.ref f19)))
    (i19 : PySem.W.isFn K (.ref f19) = true)
    (l19 : K.lookup f19 = some ⟨oc19, od19, .func (PySem.W.fnOf "links_at" "Layout.links_at" (defArgs st19) (defBody st19) (defScope st19) .none kV19 dc19 pm19 an19 cd19 ct19), sl19⟩)
    (cc19 : PySem.W.codeIn K cd19 "Layout.links_at" = true)
    (k19 : PySem.W.keepIn K (.ref f19) = true)
    (a20 : PySem.W.findIn K (.ref c1) "signal_at" = some (some (.ref f20)))
    (i20 : PySem.W.isFn K (.ref f20) = true)
    (l20 : K.lookup f20 = some ⟨oc20, od20, .func (PySem.W.fnOf "signal_at" "Layout.signal_at" (defArgs st20) (defBody st20) (defScope st20) .none kV20 dc20 pm20 an20 cd20 ct20), sl20⟩)
    (cc20 : PySem.W.codeIn K cd20 "Layout.signal_at" = true)
    (k20 : PySem.W.keepIn K (.ref f20) = true)
    (a21 : PySem.W.findIn K (.ref c2) "__init__" = some (some (.ref f21)))
    (i21 : PySem.W.isFn K (.ref f21) = true)
    (l21 : K.lookup f21 = some ⟨oc21, od21, .func (PySem.W.fnOf "__init__" "Reader.__init__" (defArgs st21) (defBody st21) (defScope st21) .none kV21 dc21 pm21 an21 cd21 ct21), sl21⟩)
    (cc21 : PySem.W.codeIn K cd21 "Reader.__init__" = true)
    (k21 : PySem.W.keepIn K (.ref f21) = true)
    (a22 : PySem.W.findIn K (.ref c2) "must" = some (some (.ref f22)))
    (i22 : PySem.W.isFn K (.ref f22) = true)
    (l22 : K.lookup f22 = some ⟨oc22, od22, .func (PySem.W.fnOf "must" "Reader.must" (defArgs st22) (defBody st22) (defScope st22) .none kV22 dc22 pm22 an22 cd22 ct22), sl22⟩)
    (cc22 : PySem.W.codeIn K cd22 "Reader.must" = true)
    (k22 : PySem.W.keepIn K (.ref f22) = true)
    (a23 : PySem.W.findIn K (.ref c2) "fresh" = some (some (.ref f23)))
    (i23 : PySem.W.isFn K (.ref f23) = true)
    (l23 : K.lookup f23 = some ⟨oc23, od23, .func (PySem.W.fnOf "fresh" "Reader.fresh" (defArgs st23) (defBody st23) (defScope st23) .none kV23 dc23 pm23 an23 cd23 ct23), sl23⟩)
    (cc23 : PySem.W.codeIn K cd23 "Reader.fresh" = true)
    (k23 : PySem.W.keepIn K (.ref f23) = true)
    (a24 : PySem.W.findIn K (.ref c2) "end" = some (some (.ref f24)))
    (i24 : PySem.W.isFn K (.ref f24) = true)
    (l24 : K.lookup f24 = some ⟨oc24, od24, .func (PySem.W.fnOf "end" "Reader.end" (defArgs st24) (defBody st24) (defScope st24) .none kV24 dc24 pm24 an24 cd24 ct24), sl24⟩)
    (cc24 : PySem.W.codeIn K cd24 "Reader.end" = true)
    (k24 : PySem.W.keepIn K (.ref f24) = true)
    (a25 : PySem.W.findIn K (.ref c2) "lies_of" = some (some (.ref f25)))
    (i25 : PySem.W.isFn K (.ref f25) = true)
    (l25 : K.lookup f25 = some ⟨oc25, od25, .func (PySem.W.fnOf "lies_of" "Reader.lies_of" (defArgs st25) (defBody st25) (defScope st25) .none kV25 dc25 pm25 an25 cd25 ct25), sl25⟩)
    (cc25 : PySem.W.codeIn K cd25 "Reader.lies_of" = true)
    (k25 : PySem.W.keepIn K (.ref f25) = true)
    (a26 : PySem.W.findIn K (.ref c2) "link" = some (some (.ref f26)))
    (i26 : PySem.W.isFn K (.ref f26) = true)
    (l26 : K.lookup f26 = some ⟨oc26, od26, .func (PySem.W.fnOf "link" "Reader.link" (defArgs st26) (defBody st26) (defScope st26) .none kV26 dc26 pm26 an26 cd26 ct26), sl26⟩)
    (cc26 : PySem.W.codeIn K cd26 "Reader.link" = true)
    (k26 : PySem.W.keepIn K (.ref f26) = true)
    (a27 : PySem.W.findIn K (.ref c2) "take" = some (some (.ref f27)))
    (i27 : PySem.W.isFn K (.ref f27) = true)
    (l27 : K.lookup f27 = some ⟨oc27, od27, .func (PySem.W.fnOf "take" "Reader.take" (defArgs st27) (defBody st27) (defScope st27) .none kV27 dc27 pm27 an27 cd27 ct27), sl27⟩)
    (cc27 : PySem.W.codeIn K cd27 "Reader.take" = true)
    (k27 : PySem.W.keepIn K (.ref f27) = true)
    (a28 : PySem.W.nsIn K mainGlobals "read_layout" = some (some (.ref f28)))
    (l28 : K.lookup f28 = some ⟨oc28, od28, .func (PySem.W.fnOf "read_layout" "read_layout" (defArgs st28) (defBody st28) (defScope st28) .none kV28 dc28 pm28 an28 cd28 ct28), sl28⟩)
    (cc28 : PySem.W.codeIn K cd28 "read_layout" = true)
    (k28 : PySem.W.keepIn K (.ref f28) = true)
    (a29 : PySem.W.nsIn K mainGlobals "_law_taken" = some (some (.ref f29)))
    (l29 : K.lookup f29 = some ⟨oc29, od29, .func (PySem.W.fnOf "_law_taken" "_law_taken" (defArgs st29) (defBody st29) (defScope st29) .none kV29 dc29 pm29 an29 cd29 ct29), sl29⟩)
    (cc29 : PySem.W.codeIn K cd29 "_law_taken" = true)
    (k29 : PySem.W.keepIn K (.ref f29) = true)
    (a30 : PySem.W.nsIn K mainGlobals "_law_spread" = some (some (.ref f30)))
    (l30 : K.lookup f30 = some ⟨oc30, od30, .func (PySem.W.fnOf "_law_spread" "_law_spread" (defArgs st30) (defBody st30) (defScope st30) .none kV30 dc30 pm30 an30 cd30 ct30), sl30⟩)
    (cc30 : PySem.W.codeIn K cd30 "_law_spread" = true)
    (k30 : PySem.W.keepIn K (.ref f30) = true)
    (a31 : PySem.W.nsIn K mainGlobals "_law_tracks" = some (some (.ref f31)))
    (l31 : K.lookup f31 = some ⟨oc31, od31, .func (PySem.W.fnOf "_law_tracks" "_law_tracks" (defArgs st31) (defBody st31) (defScope st31) .none kV31 dc31 pm31 an31 cd31 ct31), sl31⟩)
    (cc31 : PySem.W.codeIn K cd31 "_law_tracks" = true)
    (k31 : PySem.W.keepIn K (.ref f31) = true)
    (a32 : PySem.W.nsIn K mainGlobals "_law_station" = some (some (.ref f32)))
    (l32 : K.lookup f32 = some ⟨oc32, od32, .func (PySem.W.fnOf "_law_station" "_law_station" (defArgs st32) (defBody st32) (defScope st32) .none kV32 dc32 pm32 an32 cd32 ct32), sl32⟩)
    (cc32 : PySem.W.codeIn K cd32 "_law_station" = true)
    (k32 : PySem.W.keepIn K (.ref f32) = true)
    (a33 : PySem.W.nsIn K mainGlobals "_law_end_text" = some (some (.ref f33)))
    (l33 : K.lookup f33 = some ⟨oc33, od33, .func (PySem.W.fnOf "_law_end_text" "_law_end_text" (defArgs st33) (defBody st33) (defScope st33) .none kV33 dc33 pm33 an33 cd33 ct33), sl33⟩)
    (cc33 : PySem.W.codeIn K cd33 "_law_end_text" = true)
    (k33 : PySem.W.keepIn K (.ref f33) = true)
    (a34 : PySem.W.nsIn K mainGlobals "_law_text" = some (some (.ref f34)))
    (l34 : K.lookup f34 = some ⟨oc34, od34, .func (PySem.W.fnOf "_law_text" "_law_text" (defArgs st34) (defBody st34) (defScope st34) .none kV34 dc34 pm34 an34 cd34 ct34), sl34⟩)
    (cc34 : PySem.W.codeIn K cd34 "_law_text" = true)
    (k34 : PySem.W.keepIn K (.ref f34) = true)
    (a35 : PySem.W.nsIn K mainGlobals "_law_signal_at" = some (some (.ref f35)))
    (l35 : K.lookup f35 = some ⟨oc35, od35, .func (PySem.W.fnOf "_law_signal_at" "_law_signal_at" (defArgs st35) (defBody st35) (defScope st35) .none kV35 dc35 pm35 an35 cd35 ct35), sl35⟩)
    (cc35 : PySem.W.codeIn K cd35 "_law_signal_at" = true)
    (k35 : PySem.W.keepIn K (.ref f35) = true)
    (a36 : PySem.W.nsIn K mainGlobals "_law_ways" = some (some (.ref f36)))
    (l36 : K.lookup f36 = some ⟨oc36, od36, .func (PySem.W.fnOf "_law_ways" "_law_ways" (defArgs st36) (defBody st36) (defScope st36) .none kV36 dc36 pm36 an36 cd36 ct36), sl36⟩)
    (cc36 : PySem.W.codeIn K cd36 "_law_ways" = true)
    (k36 : PySem.W.keepIn K (.ref f36) = true)
    (a37 : PySem.W.nsIn K mainGlobals "_law_routes" = some (some (.ref f37)))
    (l37 : K.lookup f37 = some ⟨oc37, od37, .func (PySem.W.fnOf "_law_routes" "_law_routes" (defArgs st37) (defBody st37) (defScope st37) .none kV37 dc37 pm37 an37 cd37 ct37), sl37⟩)
    (cc37 : PySem.W.codeIn K cd37 "_law_routes" = true)
    (k37 : PySem.W.keepIn K (.ref f37) = true)
    (a38 : PySem.W.nsIn K mainGlobals "_law_too_many" = some (some (.ref f38)))
    (l38 : K.lookup f38 = some ⟨oc38, od38, .func (PySem.W.fnOf "_law_too_many" "_law_too_many" (defArgs st38) (defBody st38) (defScope st38) .none kV38 dc38 pm38 an38 cd38 ct38), sl38⟩)
    (cc38 : PySem.W.codeIn K cd38 "_law_too_many" = true)
    (k38 : PySem.W.keepIn K (.ref f38) = true)
    (a39 : PySem.W.nsIn K mainGlobals "law" = some (some (.ref f39)))
    (l39 : K.lookup f39 = some ⟨oc39, od39, .func (PySem.W.fnOf "law" "law" (defArgs st39) (defBody st39) (defScope st39) .none kV39 dc39 pm39 an39 cd39 ct39), sl39⟩)
    (cc39 : PySem.W.codeIn K cd39 "law" = true)
    (k39 : PySem.W.keepIn K (.ref f39) = true)
    (ge10 : PySem.W.nsIn K mainGlobals "HouseError" = some (some (.ref e10)))
    (kpe10 : PySem.W.keepIn K (.ref e10) = true)
    (sbe10 : PySem.W.subIn K (.ref e10) (.type "BaseException") = some true)
    (tye10 : PySem.W.typeIn K (.ref e10) = some (.type "type"))
    (hde10 : PySem.W.hasDictIn K e10 = true)
    (ge11 : PySem.W.nsIn K mainGlobals "BadLayout" = some (some (.ref e11)))
    (kpe11 : PySem.W.keepIn K (.ref e11) = true)
    (sbe11 : PySem.W.subIn K (.ref e11) (.type "BaseException") = some true)
    (tye11 : PySem.W.typeIn K (.ref e11) = some (.type "type"))
    (hde11 : PySem.W.hasDictIn K e11 = true)
    (ge12 : PySem.W.nsIn K mainGlobals "NoSuch" = some (some (.ref e12)))
    (kpe12 : PySem.W.keepIn K (.ref e12) = true)
    (sbe12 : PySem.W.subIn K (.ref e12) (.type "BaseException") = some true)
    (tye12 : PySem.W.typeIn K (.ref e12) = some (.type "type"))
    (hde12 : PySem.W.hasDictIn K e12 = true)
    (x0e12 : PySem.W.excIn K e12 [.type "ValueError", .type "Exception", .type "BaseException", .type "object"] "ValueError.__new__" = true)
    (ge13 : PySem.W.nsIn K mainGlobals "Barred" = some (some (.ref e13)))
    (kpe13 : PySem.W.keepIn K (.ref e13) = true)
    (sbe13 : PySem.W.subIn K (.ref e13) (.type "BaseException") = some true)
    (tye13 : PySem.W.typeIn K (.ref e13) = some (.type "type"))
    (hde13 : PySem.W.hasDictIn K e13 = true)
    (ge14 : PySem.W.nsIn K mainGlobals "TooMany" = some (some (.ref e14)))
    (kpe14 : PySem.W.keepIn K (.ref e14) = true)
    (sbe14 : PySem.W.subIn K (.ref e14) (.type "BaseException") = some true)
    (tye14 : PySem.W.typeIn K (.ref e14) = some (.type "type"))
    (hde14 : PySem.W.hasDictIn K e14 = true)
    (x0e14 : PySem.W.excIn K e14 [.type "ValueError", .type "Exception", .type "BaseException", .type "object"] "ValueError.__new__" = true)
    (ge15 : PySem.W.nsIn K mainGlobals "BadBook" = some (some (.ref e15)))
    (kpe15 : PySem.W.keepIn K (.ref e15) = true)
    (sbe15 : PySem.W.subIn K (.ref e15) (.type "BaseException") = some true)
    (tye15 : PySem.W.typeIn K (.ref e15) = some (.type "type"))
    (hde15 : PySem.W.hasDictIn K e15 = true)
    (sHouseError_14 : PySem.W.subIn K (.ref e14) (.ref e10) = some true)
    (xge14 : PySem.W.findIn K (.ref e14) "__getattribute__" = some (some (.builtin "BaseException.__getattribute__")))
    (xke14 : PySem.W.findIn K (.ref e14) "__getattr__" = some none)
    (xae14 : PySem.W.findIn K (.ref e14) "__class__" = some (some (.builtin "object.__class__")))
    (xme14 : PySem.W.mroIn K e14 (.type "object") = some true)
    (xn : PySem.W.specialIn K (.builtin "object.__class__") "__get__" = some (some (.builtin "getset_descriptor.__get__")))
    (xt : PySem.W.takesIn K (.builtin "object.__class__") = some true)
    (kBadBook_BadLayout_Barred_NoSuch_14 : PySem.W.kitAny K (.ref e14) [.ref e15, .ref e11, .ref e13, .ref e12] = some false)
    (kTooMany_14 : PySem.W.kitOne K (.ref e14) (.ref e14) = some true)
    (kValueError_14 : PySem.W.kitOne K (.ref e14) (.type "ValueError") = some true)
    (z_ValueError : PySem.W.nsIn K mainGlobals "ValueError" = some none)
    (z_dict : PySem.W.nsIn K mainGlobals "dict" = some none)
    (z_enumerate : PySem.W.nsIn K mainGlobals "enumerate" = some none)
    (z_int : PySem.W.nsIn K mainGlobals "int" = some none)
    (z_isinstance : PySem.W.nsIn K mainGlobals "isinstance" = some none)
    (z_len : PySem.W.nsIn K mainGlobals "len" = some none)
    (z_list : PySem.W.nsIn K mainGlobals "list" = some none)
    (z_range : PySem.W.nsIn K mainGlobals "range" = some none)
    (z_sorted : PySem.W.nsIn K mainGlobals "sorted" = some none)
    (z_str : PySem.W.nsIn K mainGlobals "str" = some none)
    (z_tuple : PySem.W.nsIn K mainGlobals "tuple" = some none)
    (gk_LONGEST : PySem.W.nsIn K mainGlobals "LONGEST" = some (some (.int 6 t_LONGEST)))
    (gk_MOST : PySem.W.nsIn K mainGlobals "MOST" = some (some (.ref d_MOST)))
    (gl_MOST : K.lookup d_MOST = some ⟨.type "dict", none, .dict es_MOST n_MOST, #[]⟩)
    (gy_MOST : PySem.W.KeysLit w.params es_MOST.toList)
    (gw_MOST : (d_MOST == sysModules) = false)
    (gi_MOST_0 : PySem.W.nsIn K d_MOST "section" = some (some (.int 30 t_MOST_0)))
    (gi_MOST_1 : PySem.W.nsIn K d_MOST "point" = some (some (.int 12 t_MOST_1)))
    (gi_MOST_2 : PySem.W.nsIn K d_MOST "link" = some (some (.int 60 t_MOST_2)))
    (gi_MOST_3 : PySem.W.nsIn K d_MOST "signal" = some (some (.int 16 t_MOST_3)))
    (gk_MOST_ROUTES : PySem.W.nsIn K mainGlobals "MOST_ROUTES" = some (some (.int 60 t_MOST_ROUTES)))
    (gk_SIGNS : PySem.W.nsIn K mainGlobals "SIGNS" = some (some (.str "abcdefghijklmnopqrstuvwxyz0123456789" t_SIGNS)))
    : ∃ (cA fA : Nat → Addr) (fD : Nat → FuncData), Fx K w mg cA fA fD ∧ fA 39 = fa ∧ ∀ (s : Shared) (v : Value), BindsTo s (fD 39) ⟨[v], []⟩ [("_law_script", v)] := by
  have F0 := fun_mk (st := st0) l0 cc0 k0
  have F1 := fun_mk (st := st1) l1 cc1 k1
  have F2 := fun_mk (st := st2) l2 cc2 k2
  have F3 := fun_mk (st := st3) l3 cc3 k3
  have F4 := fun_mk (st := st4) l4 cc4 k4
  have F5 := fun_mk (st := st5) l5 cc5 k5
  have F6 := fun_mk (st := st6) l6 cc6 k6
  have F7 := fun_mk (st := st7) l7 cc7 k7
  have F8 := fun_mk (st := st8) l8 cc8 k8
  have F9 := fun_mk (st := st9) l9 cc9 k9
  have F10 := fun_mk (st := st10) l10 cc10 k10
  have F11 := fun_mk (st := st11) l11 cc11 k11
  have F12 := fun_mk (st := st12) l12 cc12 k12
  have F13 := fun_mk (st := st13) l13 cc13 k13
  have F14 := fun_mk (st := st14) l14 cc14 k14
  have F15 := fun_mk (st := st15) l15 cc15 k15
  have F16 := fun_mk (st := st16) l16 cc16 k16
  have F17 := fun_mk (st := st17) l17 cc17 k17
  have F18 := fun_mk (st := st18) l18 cc18 k18
  have F19 := fun_mk (st := st19) l19 cc19 k19
  have F20 := fun_mk (st := st20) l20 cc20 k20
  have F21 := fun_mk (st := st21) l21 cc21 k21
  have F22 := fun_mk (st := st22) l22 cc22 k22
  have F23 := fun_mk (st := st23) l23 cc23 k23
  have F24 := fun_mk (st := st24) l24 cc24 k24
  have F25 := fun_mk (st := st25) l25 cc25 k25
  have F26 := fun_mk (st := st26) l26 cc26 k26
  have F27 := fun_mk (st := st27) l27 cc27 k27
  have F28 := fun_mk (st := st28) l28 cc28 k28
  have F29 := fun_mk (st := st29) l29 cc29 k29
  have F30 := fun_mk (st := st30) l30 cc30 k30
  have F31 := fun_mk (st := st31) l31 cc31 k31
  have F32 := fun_mk (st := st32) l32 cc32 k32
  have F33 := fun_mk (st := st33) l33 cc33 k33
  have F34 := fun_mk (st := st34) l34 cc34 k34
  have F35 := fun_mk (st := st35) l35 cc35 k35
  have F36 := fun_mk (st := st36) l36 cc36 k36
  have F37 := fun_mk (st := st37) l37 cc37 k37
  have F38 := fun_mk (st := st38) l38 cc38 k38
  have F39 := fun_mk (st := st39) l39 cc39 k39
  refine ⟨fun c => ([c0, c1, c2, c3, c4, c2, c6, c2, c2, c2, e10, e11, e12, e13, e14, e15][c]?).getD 0, fun i => ([f0, f1, f2, f3, f4, f5, f6, f7, f8, f9, f10, f11, f12, f13, f14, f15, f16, f17, f18, f19, f20, f21, f22, f23, f24, f25, f26, f27, f28, f29, f30, f31, f32, f33, f34, f35, f36, f37, f38, f39][i]?).getD 0, fun i => ([(PySem.W.fnOf "__init__" "Route.__init__" (defArgs st0) (defBody st0) (defScope st0) .none kV0 dc0 pm0 an0 cd0 ct0), (PySem.W.fnOf "told" "Route.told" (defArgs st1) (defBody st1) (defScope st1) .none kV1 dc1 pm1 an1 cd1 ct1), (PySem.W.fnOf "agree" "agree" (defArgs st2) (defBody st2) (defScope st2) .none kV2 dc2 pm2 an2 cd2 ct2), (PySem.W.fnOf "__init__" "Finder.__init__" (defArgs st3) (defBody st3) (defScope st3) .none kV3 dc3 pm3 an3 cd3 ct3), (PySem.W.fnOf "go_on" "Finder.go_on" (defArgs st4) (defBody st4) (defScope st4) .none kV4 dc4 pm4 an4 cd4 ct4), (PySem.W.fnOf "come_to" "Finder.come_to" (defArgs st5) (defBody st5) (defScope st5) .none kV5 dc5 pm5 an5 cd5 ct5), (PySem.W.fnOf "routes_of" "routes_of" (defArgs st6) (defBody st6) (defScope st6) .none kV6 dc6 pm6 an6 cd6 ct6), (PySem.W.fnOf "__init__" "Desk.__init__" (defArgs st7) (defBody st7) (defScope st7) .none kV7 dc7 pm7 an7 cd7 ct7), (PySem.W.fnOf "train_in" "Desk.train_in" (defArgs st8) (defBody st8) (defScope st8) .none kV8 dc8 pm8 an8 cd8 ct8), (PySem.W.fnOf "lock_of" "Desk.lock_of" (defArgs st9) (defBody st9) (defScope st9) .none kV9 dc9 pm9 an9 cd9 ct9), (PySem.W.fnOf "keeper_of" "Desk.keeper_of" (defArgs st10) (defBody st10) (defScope st10) .none kV10 dc10 pm10 an10 cd10 ct10), (PySem.W.fnOf "on_section" "Desk.on_section" (defArgs st11) (defBody st11) (defScope st11) .none kV11 dc11 pm11 an11 cd11 ct11), (PySem.W.fnOf "on_point" "Desk.on_point" (defArgs st12) (defBody st12) (defScope st12) .none kV12 dc12 pm12 an12 cd12 ct12), (PySem.W.fnOf "done" "Desk.done" (defArgs st13) (defBody st13) (defScope st13) .none kV13 dc13 pm13 an13 cd13 ct13), (PySem.W.fnOf "throw" "Desk.throw" (defArgs st14) (defBody st14) (defScope st14) .none kV14 dc14 pm14 an14 cd14 ct14), (PySem.W.fnOf "must_be_free" "must_be_free" (defArgs st15) (defBody st15) (defScope st15) .none kV15 dc15 pm15 an15 cd15 ct15), (PySem.W.fnOf "__init__" "Link.__init__" (defArgs st16) (defBody st16) (defScope st16) .none kV16 dc16 pm16 an16 cd16 ct16), (PySem.W.fnOf "far" "Link.far" (defArgs st17) (defBody st17) (defScope st17) .none kV17 dc17 pm17 an17 cd17 ct17), (PySem.W.fnOf "__init__" "Layout.__init__" (defArgs st18) (defBody st18) (defScope st18) .none kV18 dc18 pm18 an18 cd18 ct18), (PySem.W.fnOf "links_at" "Layout.links_at" (defArgs st19) (defBody st19) (defScope st19) .none kV19 dc19 pm19 an19 cd19 ct19), (PySem.W.fnOf "signal_at" "Layout.signal_at" (defArgs st20) (defBody st20) (defScope st20) .none kV20 dc20 pm20 an20 cd20 ct20), (PySem.W.fnOf "__init__" "Reader.__init__" (defArgs st21) (defBody st21) (defScope st21) .none kV21 dc21 pm21 an21 cd21 ct21), (PySem.W.fnOf "must" "Reader.must" (defArgs st22) (defBody st22) (defScope st22) .none kV22 dc22 pm22 an22 cd22 ct22), (PySem.W.fnOf "fresh" "Reader.fresh" (defArgs st23) (defBody st23) (defScope st23) .none kV23 dc23 pm23 an23 cd23 ct23), (PySem.W.fnOf "end" "Reader.end" (defArgs st24) (defBody st24) (defScope st24) .none kV24 dc24 pm24 an24 cd24 ct24), (PySem.W.fnOf "lies_of" "Reader.lies_of" (defArgs st25) (defBody st25) (defScope st25) .none kV25 dc25 pm25 an25 cd25 ct25), (PySem.W.fnOf "link" "Reader.link" (defArgs st26) (defBody st26) (defScope st26) .none kV26 dc26 pm26 an26 cd26 ct26), (PySem.W.fnOf "take" "Reader.take" (defArgs st27) (defBody st27) (defScope st27) .none kV27 dc27 pm27 an27 cd27 ct27), (PySem.W.fnOf "read_layout" "read_layout" (defArgs st28) (defBody st28) (defScope st28) .none kV28 dc28 pm28 an28 cd28 ct28), (PySem.W.fnOf "_law_taken" "_law_taken" (defArgs st29) (defBody st29) (defScope st29) .none kV29 dc29 pm29 an29 cd29 ct29), (PySem.W.fnOf "_law_spread" "_law_spread" (defArgs st30) (defBody st30) (defScope st30) .none kV30 dc30 pm30 an30 cd30 ct30), (PySem.W.fnOf "_law_tracks" "_law_tracks" (defArgs st31) (defBody st31) (defScope st31) .none kV31 dc31 pm31 an31 cd31 ct31), (PySem.W.fnOf "_law_station" "_law_station" (defArgs st32) (defBody st32) (defScope st32) .none kV32 dc32 pm32 an32 cd32 ct32), (PySem.W.fnOf "_law_end_text" "_law_end_text" (defArgs st33) (defBody st33) (defScope st33) .none kV33 dc33 pm33 an33 cd33 ct33), (PySem.W.fnOf "_law_text" "_law_text" (defArgs st34) (defBody st34) (defScope st34) .none kV34 dc34 pm34 an34 cd34 ct34), (PySem.W.fnOf "_law_signal_at" "_law_signal_at" (defArgs st35) (defBody st35) (defScope st35) .none kV35 dc35 pm35 an35 cd35 ct35), (PySem.W.fnOf "_law_ways" "_law_ways" (defArgs st36) (defBody st36) (defScope st36) .none kV36 dc36 pm36 an36 cd36 ct36), (PySem.W.fnOf "_law_routes" "_law_routes" (defArgs st37) (defBody st37) (defScope st37) .none kV37 dc37 pm37 an37 cd37 ct37), (PySem.W.fnOf "_law_too_many" "_law_too_many" (defArgs st38) (defBody st38) (defScope st38) .none kV38 dc38 pm38 an38 cd38 ct38), (PySem.W.fnOf "law" "law" (defArgs st39) (defBody st39) (defScope st39) .none kV39 dc39 pm39 an39 cd39 ct39)][i]?).getD (PySem.W.fnOf "__init__" "Route.__init__" (defArgs st0) (defBody st0) (defScope st0) .none kV0 dc0 pm0 an0 cd0 ct0), ?_, ?_, fun s v => .of_eq rfl⟩
  rotate_left
  · have e := hfa.symm.trans (PySem.W.mg_of X Gn a39)
    cases e; rfl
  exact {
    F0 := F0
    b0 := F0.binds (ps := ["self", "signal", "target", "sections", "needs"]) fun _ _ _ _ _ _ us hl => match us, hl with | [_, _, _, _, _], _ => rfl
    F1 := F1
    b1 := F1.binds (ps := ["self"]) fun _ _ _ _ _ _ us hl => match us, hl with | [_], _ => rfl
    me1 := ⟨a1, i1, k1⟩
    F2 := F2
    b2 := F2.binds (ps := ["needs", "more"]) fun _ _ _ _ _ _ us hl => match us, hl with | [_, _], _ => rfl
    g_agree := PySem.W.mg_of X Gn a2
    F3 := F3
    b3 := F3.binds (ps := ["self", "layout", "signal"]) fun _ _ _ _ _ _ us hl => match us, hl with | [_, _, _], _ => rfl
    F4 := F4
    b4 := F4.binds (ps := ["self", "end", "sections", "needs"]) fun _ _ _ _ _ _ us hl => match us, hl with | [_, _, _, _], _ => rfl
    me4 := ⟨a4, i4, k4⟩
    F5 := F5
    b5 := F5.binds (ps := ["self", "end", "sections", "needs"]) fun _ _ _ _ _ _ us hl => match us, hl with | [_, _, _, _], _ => rfl
    me5 := ⟨a5, i5, k5⟩
    F6 := F6
    b6 := F6.binds (ps := ["layout"]) fun _ _ _ _ _ _ us hl => match us, hl with | [_], _ => rfl
    g_routes_of := PySem.W.mg_of X Gn a6
    F7 := F7
    b7 := F7.binds (ps := ["self", "layout"]) fun _ _ _ _ _ _ us hl => match us, hl with | [_, _], _ => rfl
    F8 := F8
    b8 := F8.binds (ps := ["self", "section"]) fun _ _ _ _ _ _ us hl => match us, hl with | [_, _], _ => rfl
    me8 := ⟨a8, i8, k8⟩
    F9 := F9
    b9 := F9.binds (ps := ["self", "section"]) fun _ _ _ _ _ _ us hl => match us, hl with | [_, _], _ => rfl
    me9 := ⟨a9, i9, k9⟩
    F10 := F10
    b10 := F10.binds (ps := ["self", "point"]) fun _ _ _ _ _ _ us hl => match us, hl with | [_, _], _ => rfl
    me10 := ⟨a10, i10, k10⟩
    F11 := F11
    b11 := F11.binds (ps := ["self", "section"]) fun _ _ _ _ _ _ us hl => match us, hl with | [_, _], _ => rfl
    me11 := ⟨a11, i11, k11⟩
    F12 := F12
    b12 := F12.binds (ps := ["self", "point"]) fun _ _ _ _ _ _ us hl => match us, hl with | [_, _], _ => rfl
    me12 := ⟨a12, i12, k12⟩
    F13 := F13
    b13 := F13.binds (ps := ["self", "row"]) fun _ _ _ _ _ _ us hl => match us, hl with | [_, _], _ => rfl
    me13 := ⟨a13, i13, k13⟩
    F14 := F14
    b14 := F14.binds (ps := ["self", "point", "lie"]) fun _ _ _ _ _ _ us hl => match us, hl with | [_, _, _], _ => rfl
    me14 := ⟨a14, i14, k14⟩
    F15 := F15
    b15 := F15.binds (ps := ["bars"]) fun _ _ _ _ _ _ us hl => match us, hl with | [_], _ => rfl
    g_must_be_free := PySem.W.mg_of X Gn a15
    F16 := F16
    b16 := F16.binds (ps := ["self", "one", "other", "needs"]) fun _ _ _ _ _ _ us hl => match us, hl with | [_, _, _, _], _ => rfl
    F17 := F17
    b17 := F17.binds (ps := ["self", "end"]) fun _ _ _ _ _ _ us hl => match us, hl with | [_, _], _ => rfl
    me17 := ⟨a17, i17, k17⟩
    F18 := F18
    b18 := F18.binds (ps := ["self"]) fun _ _ _ _ _ _ us hl => match us, hl with | [_], _ => rfl
    F19 := F19
    b19 := F19.binds (ps := ["self", "end"]) fun _ _ _ _ _ _ us hl => match us, hl with | [_, _], _ => rfl
    me19 := ⟨a19, i19, k19⟩
    F20 := F20
    b20 := F20.binds (ps := ["self", "end"]) fun _ _ _ _ _ _ us hl => match us, hl with | [_, _], _ => rfl
    me20 := ⟨a20, i20, k20⟩
    F21 := F21
    b21 := F21.binds (ps := ["self"]) fun _ _ _ _ _ _ us hl => match us, hl with | [_], _ => rfl
    F22 := F22
    b22 := F22.binds (ps := ["self", "good"]) fun _ _ _ _ _ _ us hl => match us, hl with | [_, _], _ => rfl
    me22 := ⟨a22, i22, k22⟩
    F23 := F23
    b23 := F23.binds (ps := ["self", "name"]) fun _ _ _ _ _ _ us hl => match us, hl with | [_, _], _ => rfl
    me23 := ⟨a23, i23, k23⟩
    F24 := F24
    b24 := F24.binds (ps := ["self", "text"]) fun _ _ _ _ _ _ us hl => match us, hl with | [_, _], _ => rfl
    me24 := ⟨a24, i24, k24⟩
    F25 := F25
    b25 := F25.binds (ps := ["self", "words", "sections"]) fun _ _ _ _ _ _ us hl => match us, hl with | [_, _, _], _ => rfl
    me25 := ⟨a25, i25, k25⟩
    F26 := F26
    b26 := F26.binds (ps := ["self", "words"]) fun _ _ _ _ _ _ us hl => match us, hl with | [_, _], _ => rfl
    me26 := ⟨a26, i26, k26⟩
    F27 := F27
    b27 := F27.binds (ps := ["self", "text"]) fun _ _ _ _ _ _ us hl => match us, hl with | [_, _], _ => rfl
    me27 := ⟨a27, i27, k27⟩
    F28 := F28
    b28 := F28.binds (ps := ["text"]) fun _ _ _ _ _ _ us hl => match us, hl with | [_], _ => rfl
    g_read_layout := PySem.W.mg_of X Gn a28
    F29 := F29
    b29 := F29.binds (ps := ["_law_row", "_law_many"]) fun _ _ _ _ _ _ us hl => match us, hl with | [_, _], _ => rfl
    g__law_taken := PySem.W.mg_of X Gn a29
    F30 := F30
    b30 := F30.binds (ps := ["_law_row", "_law_st", "_law_one", "_law_others"]) fun _ _ _ _ _ _ us hl => match us, hl with | [_, _, _, _], _ => rfl
    g__law_spread := PySem.W.mg_of X Gn a30
    F31 := F31
    b31 := F31.binds (ps := ["_law_row"]) fun _ _ _ _ _ _ us hl => match us, hl with | [_], _ => rfl
    g__law_tracks := PySem.W.mg_of X Gn a31
    F32 := F32
    b32 := F32.binds (ps := ["_law_row"]) fun _ _ _ _ _ _ us hl => match us, hl with | [_], _ => rfl
    g__law_station := PySem.W.mg_of X Gn a32
    F33 := F33
    b33 := F33.binds (ps := ["_law_end"]) fun _ _ _ _ _ _ us hl => match us, hl with | [_], _ => rfl
    g__law_end_text := PySem.W.mg_of X Gn a33
    F34 := F34
    b34 := F34.binds (ps := ["_law_st"]) fun _ _ _ _ _ _ us hl => match us, hl with | [_], _ => rfl
    g__law_text := PySem.W.mg_of X Gn a34
    F35 := F35
    b35 := F35.binds (ps := ["_law_st", "_law_end"]) fun _ _ _ _ _ _ us hl => match us, hl with | [_, _], _ => rfl
    g__law_signal_at := PySem.W.mg_of X Gn a35
    F36 := F36
    b36 := F36.binds (ps := ["_law_st", "_law_begin", "_law_end", "_law_sections", "_law_needs"]) fun _ _ _ _ _ _ us hl => match us, hl with | [_, _, _, _, _], _ => rfl
    g__law_ways := PySem.W.mg_of X Gn a36
    F37 := F37
    b37 := F37.binds (ps := ["_law_st"]) fun _ _ _ _ _ _ us hl => match us, hl with | [_], _ => rfl
    g__law_routes := PySem.W.mg_of X Gn a37
    F38 := F38
    b38 := F38.binds (ps := ["_law_layout", "_law_way"]) fun _ _ _ _ _ _ us hl => match us, hl with | [_, _], _ => rfl
    g__law_too_many := PySem.W.mg_of X Gn a38
    F39 := F39
    b39 := F39.binds (ps := ["_law_script"]) fun _ _ _ _ _ _ us hl => match us, hl with | [_], _ => rfl
    g_law := PySem.W.mg_of X Gn a39
    cl_Route := ⟨pgc3, hdc3, poc3, sac3⟩
    mk_Route := ⟨mkc3, a0, i0, kcc3⟩
    g_Route := PySem.W.mg_of X Gn gc3
    cl_Finder := ⟨pgc4, hdc4, poc4, sac4⟩
    mk_Finder := ⟨mkc4, a3, i3, kcc4⟩
    g_Finder := PySem.W.mg_of X Gn gc4
    cl_Desk := ⟨pgc6, hdc6, poc6, sac6⟩
    mk_Desk := ⟨mkc6, a7, i7, kcc6⟩
    g_Desk := PySem.W.mg_of X Gn gc6
    cl_Link := ⟨pgc0, hdc0, poc0, sac0⟩
    mk_Link := ⟨mkc0, a16, i16, kcc0⟩
    g_Link := PySem.W.mg_of X Gn gc0
    cl_Layout := ⟨pgc1, hdc1, poc1, sac1⟩
    mk_Layout := ⟨mkc1, a18, i18, kcc1⟩
    g_Layout := PySem.W.mg_of X Gn gc1
    cl_Reader := ⟨pgc2, hdc2, poc2, sac2⟩
    mk_Reader := ⟨mkc2, a21, i21, kcc2⟩
    g_Reader := PySem.W.mg_of X Gn gc2
    a_one := fun C hC => by
      simp only [cs_one, List.mem_cons, List.not_mem_nil, or_false] at hC
      rcases hC with rfl <;> (first | exact ⟨⟨pgc0, hdc0, poc0, sac0⟩, nc0_one⟩)
    a_other := fun C hC => by
      simp only [cs_other, List.mem_cons, List.not_mem_nil, or_false] at hC
      rcases hC with rfl <;> (first | exact ⟨⟨pgc0, hdc0, poc0, sac0⟩, nc0_other⟩)
    a_needs := fun C hC => by
      simp only [cs_needs, List.mem_cons, List.not_mem_nil, or_false] at hC
      rcases hC with rfl | rfl <;> (first | exact ⟨⟨pgc0, hdc0, poc0, sac0⟩, nc0_needs⟩ | exact ⟨⟨pgc3, hdc3, poc3, sac3⟩, nc3_needs⟩)
    a_sections := fun C hC => by
      simp only [cs_sections, List.mem_cons, List.not_mem_nil, or_false] at hC
      rcases hC with rfl | rfl <;> (first | exact ⟨⟨pgc1, hdc1, poc1, sac1⟩, nc1_sections⟩ | exact ⟨⟨pgc3, hdc3, poc3, sac3⟩, nc3_sections⟩)
    a_points := fun C hC => by
      simp only [cs_points, List.mem_cons, List.not_mem_nil, or_false] at hC
      rcases hC with rfl <;> (first | exact ⟨⟨pgc1, hdc1, poc1, sac1⟩, nc1_points⟩)
    a_links := fun C hC => by
      simp only [cs_links, List.mem_cons, List.not_mem_nil, or_false] at hC
      rcases hC with rfl <;> (first | exact ⟨⟨pgc1, hdc1, poc1, sac1⟩, nc1_links⟩)
    a_signals := fun C hC => by
      simp only [cs_signals, List.mem_cons, List.not_mem_nil, or_false] at hC
      rcases hC with rfl <;> (first | exact ⟨⟨pgc1, hdc1, poc1, sac1⟩, nc1_signals⟩)
    a_layout := fun C hC => by
      simp only [cs_layout, List.mem_cons, List.not_mem_nil, or_false] at hC
      rcases hC with rfl | rfl | rfl <;> (first | exact ⟨⟨pgc2, hdc2, poc2, sac2⟩, nc2_layout⟩ | exact ⟨⟨pgc4, hdc4, poc4, sac4⟩, nc4_layout⟩ | exact ⟨⟨pgc6, hdc6, poc6, sac6⟩, nc6_layout⟩)
    a_row := fun C hC => by
      simp only [cs_row, List.mem_cons, List.not_mem_nil, or_false] at hC
      rcases hC with rfl <;> (first | exact ⟨⟨pgc2, hdc2, poc2, sac2⟩, nc2_row⟩)
    a_counts := fun C hC => by
      simp only [cs_counts, List.mem_cons, List.not_mem_nil, or_false] at hC
      rcases hC with rfl <;> (first | exact ⟨⟨pgc2, hdc2, poc2, sac2⟩, nc2_counts⟩)
    a_signal := fun C hC => by
      simp only [cs_signal, List.mem_cons, List.not_mem_nil, or_false] at hC
      rcases hC with rfl | rfl <;> (first | exact ⟨⟨pgc3, hdc3, poc3, sac3⟩, nc3_signal⟩ | exact ⟨⟨pgc4, hdc4, poc4, sac4⟩, nc4_signal⟩)
    a_target := fun C hC => by
      simp only [cs_target, List.mem_cons, List.not_mem_nil, or_false] at hC
      rcases hC with rfl <;> (first | exact ⟨⟨pgc3, hdc3, poc3, sac3⟩, nc3_target⟩)
    a_begin := fun C hC => by
      simp only [cs_begin, List.mem_cons, List.not_mem_nil, or_false] at hC
      rcases hC with rfl <;> (first | exact ⟨⟨pgc4, hdc4, poc4, sac4⟩, nc4_begin⟩)
    a_found := fun C hC => by
      simp only [cs_found, List.mem_cons, List.not_mem_nil, or_false] at hC
      rcases hC with rfl <;> (first | exact ⟨⟨pgc4, hdc4, poc4, sac4⟩, nc4_found⟩)
    a_locked := fun C hC => by
      simp only [cs_locked, List.mem_cons, List.not_mem_nil, or_false] at hC
      rcases hC with rfl <;> (first | exact ⟨⟨pgc2, hdc2, poc2, sac2⟩, nc2_locked⟩)
    a_train := fun C hC => by
      simp only [cs_train, List.mem_cons, List.not_mem_nil, or_false] at hC
      rcases hC with rfl <;> (first | exact ⟨⟨pgc2, hdc2, poc2, sac2⟩, nc2_train⟩)
    a_routes := fun C hC => by
      simp only [cs_routes, List.mem_cons, List.not_mem_nil, or_false] at hC
      rcases hC with rfl <;> (first | exact ⟨⟨pgc6, hdc6, poc6, sac6⟩, nc6_routes⟩)
    a_lies := fun C hC => by
      simp only [cs_lies, List.mem_cons, List.not_mem_nil, or_false] at hC
      rcases hC with rfl <;> (first | exact ⟨⟨pgc6, hdc6, poc6, sac6⟩, nc6_lies⟩)
    a_laid := fun C hC => by
      simp only [cs_laid, List.mem_cons, List.not_mem_nil, or_false] at hC
      rcases hC with rfl <;> (first | exact ⟨⟨pgc6, hdc6, poc6, sac6⟩, nc6_laid⟩)
    a_trains := fun C hC => by
      simp only [cs_trains, List.mem_cons, List.not_mem_nil, or_false] at hC
      rcases hC with rfl <;> (first | exact ⟨⟨pgc6, hdc6, poc6, sac6⟩, nc6_trains⟩)
    a_rows := fun C hC => by
      simp only [cs_rows, List.mem_cons, List.not_mem_nil, or_false] at hC
      rcases hC with rfl <;> (first | exact ⟨⟨pgc6, hdc6, poc6, sac6⟩, nc6_rows⟩)
    x_BadBook := ⟨kpe15, sbe15, tye15, PySem.W.mg_of X Gn ge15, hde15⟩
    x_BadLayout := ⟨kpe11, sbe11, tye11, PySem.W.mg_of X Gn ge11, hde11⟩
    x_Barred := ⟨kpe13, sbe13, tye13, PySem.W.mg_of X Gn ge13, hde13⟩
    x_HouseError := ⟨kpe10, sbe10, tye10, PySem.W.mg_of X Gn ge10, hde10⟩
    x_NoSuch := ⟨kpe12, sbe12, tye12, PySem.W.mg_of X Gn ge12, hde12⟩
    x_TooMany := ⟨kpe14, sbe14, tye14, PySem.W.mg_of X Gn ge14, hde14⟩
    x0_NoSuch := x0e12
    x0_TooMany := x0e14
    s_HouseError := fun c hc => by
      simp only [List.mem_cons, List.not_mem_nil, or_false] at hc
      rcases hc with rfl
      · exact sHouseError_14
    xc := fun c hc => by
      simp only [List.mem_cons, List.not_mem_nil, or_false] at hc
      rcases hc with rfl
      · exact ⟨xge14, xke14, sbe14, hde14, xae14, xn, xt, xme14⟩
    k_BadBook_BadLayout_Barred_NoSuch := fun c hc => by
      simp only [List.mem_cons, List.not_mem_nil, or_false] at hc
      rcases hc with rfl
      · exact kBadBook_BadLayout_Barred_NoSuch_14
    k_TooMany := fun c hc => by
      simp only [List.mem_cons, List.not_mem_nil, or_false] at hc
      rcases hc with rfl
      · exact kTooMany_14
    k_ValueError := fun c hc => by
      simp only [List.mem_cons, List.not_mem_nil, or_false] at hc
      rcases hc with rfl
      · exact kValueError_14
    z_ValueError := PySem.W.mg_none_of X Gn z_ValueError
    z_dict := PySem.W.mg_none_of X Gn z_dict
    z_enumerate := PySem.W.mg_none_of X Gn z_enumerate
    z_int := PySem.W.mg_none_of X Gn z_int
    z_isinstance := PySem.W.mg_none_of X Gn z_isinstance
    z_len := PySem.W.mg_none_of X Gn z_len
    z_list := PySem.W.mg_none_of X Gn z_list
    z_range := PySem.W.mg_none_of X Gn z_range
    z_sorted := PySem.W.mg_none_of X Gn z_sorted
    z_str := PySem.W.mg_none_of X Gn z_str
    z_tuple := PySem.W.mg_none_of X Gn z_tuple
    g_LONGEST := ⟨_, PySem.W.mg_of X Gn gk_LONGEST⟩
    g_MOST := ⟨d_MOST, es_MOST, n_MOST, PySem.W.mg_of X Gn gk_MOST, ⟨gl_MOST, gy_MOST, gw_MOST⟩, fun s v e => by
      simp only [tabGet] at e
      by_cases e0 : [115, 101, 99, 116, 105, 111, 110] = s
      · rw [if_pos e0] at e; cases e; subst e0; exact ⟨_, (show (mkS [115, 101, 99, 116, 105, 111, 110]) = ("section" : Str) by decide +kernel) ▸ gi_MOST_0⟩
      rw [if_neg e0] at e
      by_cases e1 : [112, 111, 105, 110, 116] = s
      · rw [if_pos e1] at e; cases e; subst e1; exact ⟨_, (show (mkS [112, 111, 105, 110, 116]) = ("point" : Str) by decide +kernel) ▸ gi_MOST_1⟩
      rw [if_neg e1] at e
      by_cases e2 : [108, 105, 110, 107] = s
      · rw [if_pos e2] at e; cases e; subst e2; exact ⟨_, (show (mkS [108, 105, 110, 107]) = ("link" : Str) by decide +kernel) ▸ gi_MOST_2⟩
      rw [if_neg e2] at e
      by_cases e3 : [115, 105, 103, 110, 97, 108] = s
      · rw [if_pos e3] at e; cases e; subst e3; exact ⟨_, (show (mkS [115, 105, 103, 110, 97, 108]) = ("signal" : Str) by decide +kernel) ▸ gi_MOST_3⟩
      rw [if_neg e3] at e
      cases e⟩
    g_MOST_ROUTES := ⟨_, PySem.W.mg_of X Gn gk_MOST_ROUTES⟩
    g_SIGNS := ⟨_, (show ("abcdefghijklmnopqrstuvwxyz0123456789" : Str) = mkS [97, 98, 99, 100, 101, 102, 103, 104, 105, 106, 107, 108, 109, 110, 111, 112, 113, 114, 115, 116, 117, 118, 119, 120, 121, 122, 48, 49, 50, 51, 52, 53, 54, 55, 56, 57] by decide +kernel) ▸ PySem.W.mg_of X Gn gk_SIGNS⟩ }
end Mn
end

section
set_option Elab.async false
set_option linter.all false
set_option maxRecDepth 100000
set_option maxHeartbeats 4000000
namespace Mn
open PySem PySem.Spec L2 TL
theorem sc1 : FnScope ["self", "needs", "point"] ["self"] (defScope st1) := ⟨rfl, rfl, rfl, by decide +kernel, rfl, by decide +kernel, by decide +kernel⟩
theorem ok_1 {P : Program} {w : World} {K : PySem.W.Frag} {mg : Str → Option Value} {base : Heap} {cA fA : Nat → Addr} {fD : Nat → FuncData} (T : Fx K w mg cA fA fD) : FnOk P w K mg base (L2.CX P w) 1 (fA 1) (fD 1) ["self"] (spOf (GT cA) K m_Route_told) := by
  refine fs_of (N := ["self", "needs", "point"]) (s := m_Route_told_body) T.F1 sc1 (fun cdv A outer s0 H E hr => ?_)
  have h65 := units65 hr
  have h1 := units1 hr
  have nd := sc1.nd
  have hp := owns (P := P) (w := w) (K := K) (mg := mg) (base := base) (N := ["self", "needs", "point"]) (qual := "Route.told") (sc := defScope st1) (f := fA 1) (cd := cdv) (A := A) (outer := outer) (s := s0) (H := H) (E := E)
  exact (rs_cons (rs_set nd rfl (by first | exact .inl rfl | exact .inr rfl) (re_t1 cTuple (by rfl) T.z_tuple (by decide +kernel) (re_lc rfl nd (ri_list (re_b1 (cSorted rfl) (by rfl) T.z_sorted (by decide +kernel) (re_t1 (cList rfl) (by rfl) T.z_list (by decide +kernel) (re_fld rfl T.a_needs (re_var 0))))) (blkOk_by (N := ["self", "needs", "point"]) (sc := defScope st1) (by decide +kernel)) (fun _ _ _ _ _ => pg_name (i := 2) nd rfl (Or.inl rfl)) (fun _ _ _ _ _ => rts_nil) (fun _ _ _ _ _ => (re_tup (ra_cons (re_var 2) (ra_cons (re_ix h1 (re_fld rfl T.a_needs (re_var 0)) (re_var 2)) ra_nil)))))))
    (rs_one (rs_ret (re_tup (ra_cons (re_fld rfl T.a_signal (re_var 0)) (ra_cons (re_fld rfl T.a_target (re_var 0)) (ra_cons (re_t1 cTuple (by rfl) T.z_tuple (by decide +kernel) (re_fld rfl T.a_sections (re_var 0))) (ra_cons (re_var 1) ra_nil))))))))
end Mn
end

section
set_option Elab.async false
set_option linter.all false
set_option maxRecDepth 100000
set_option maxHeartbeats 4000000
namespace Mn
open PySem PySem.Spec L2 TL
theorem sc3 : FnScope ["self", "layout", "signal"] ["self", "layout", "signal"] (defScope st3) := ⟨rfl, rfl, rfl, by decide +kernel, rfl, by decide +kernel, by decide +kernel⟩
theorem ok_3 {P : Program} {w : World} {K : PySem.W.Frag} {mg : Str → Option Value} {base : Heap} {cA fA : Nat → Addr} {fD : Nat → FuncData} (T : Fx K w mg cA fA fD) : FnOk P w K mg base (L2.CX P w) 1 (fA 3) (fD 3) ["self", "layout", "signal"] (spOf (GT cA) K m_Finder_init__) := by
  refine fs_of (N := ["self", "layout", "signal"]) (s := m_Finder_init___body) T.F3 sc3 (fun cdv A outer s0 H E hr => ?_)
  have h65 := units65 hr
  have h1 := units1 hr
  have nd := sc3.nd
  have hp := owns (P := P) (w := w) (K := K) (mg := mg) (base := base) (N := ["self", "layout", "signal"]) (qual := "Finder.__init__") (sc := defScope st3) (f := fA 3) (cd := cdv) (A := A) (outer := outer) (s := s0) (H := H) (E := E)
  exact (rs_cons (rs_setFld rfl T.a_layout (re_var 0) (re_var 1))
    (rs_cons (rs_setFld rfl T.a_signal (re_var 0) (re_var 2))
    (rs_cons (rs_setFld rfl T.a_begin (re_var 0) (re_ix h1 (re_fld rfl T.a_signals (re_var 1)) (re_var 2)))
    (rs_one (rs_setFld rfl T.a_found (re_var 0) (re_lst ra_nil))))))
end Mn
end

section
set_option Elab.async false
set_option linter.all false
set_option maxRecDepth 100000
set_option maxHeartbeats 4000000
namespace Mn
open PySem PySem.Spec L2 TL
theorem sc2 : FnScope ["needs", "more", "point"] ["needs", "more"] (defScope st2) := ⟨rfl, rfl, rfl, by decide +kernel, rfl, by decide +kernel, by decide +kernel⟩
theorem ok_2 {P : Program} {w : World} {K : PySem.W.Frag} {mg : Str → Option Value} {base : Heap} {cA fA : Nat → Addr} {fD : Nat → FuncData} (T : Fx K w mg cA fA fD) : FnOk P w K mg base (L2.CX P w) 1 (fA 2) (fD 2) ["needs", "more"] (spOf (GT cA) K m_agree) := by
  refine fs_of (N := ["needs", "more", "point"]) (s := m_agree_body) T.F2 sc2 (fun cdv A outer s0 H E hr => ?_)
  have h65 := units65 hr
  have h1 := units1 hr
  have nd := sc2.nd
  have hp := owns (P := P) (w := w) (K := K) (mg := mg) (base := base) (N := ["needs", "more", "point"]) (qual := "agree") (sc := defScope st2) (f := fA 2) (cd := cdv) (A := A) (outer := outer) (s := s0) (H := H) (E := E)
  exact (rs_cons (rs_lock (ea := (eV 1)) (rs_for hp rfl (ri_keys (re_var 1)) (rg_name nd rfl (by first | exact .inl rfl | exact .inr rfl)) (rs_one (rs_if (rt_cmp (opNe h65) (re_get2 h1 (re_var 0) (re_var 2) (re_ix h1 (re_var 1) (re_var 2))) (re_ix h1 (re_var 1) (re_var 2))) (rs_one (rs_ret re_bl)) rs_nil))))
    (rs_one (rs_ret re_bl)))
end Mn
end

section
set_option Elab.async false
set_option linter.all false
set_option maxRecDepth 100000
set_option maxHeartbeats 4000000
namespace Mn
open PySem PySem.Spec L2 TL
theorem sc0 : FnScope ["self", "signal", "target", "sections", "needs"] ["self", "signal", "target", "sections", "needs"] (defScope st0) := ⟨rfl, rfl, rfl, by decide +kernel, rfl, by decide +kernel, by decide +kernel⟩
theorem ok_0 {P : Program} {w : World} {K : PySem.W.Frag} {mg : Str → Option Value} {base : Heap} {cA fA : Nat → Addr} {fD : Nat → FuncData} (T : Fx K w mg cA fA fD) : FnOk P w K mg base (L2.CX P w) 1 (fA 0) (fD 0) ["self", "signal", "target", "sections", "needs"] (spOf (GT cA) K m_Route_init__) := by
  refine fs_of (N := ["self", "signal", "target", "sections", "needs"]) (s := m_Route_init___body) T.F0 sc0 (fun cdv A outer s0 H E hr => ?_)
  have h65 := units65 hr
  have h1 := units1 hr
  have nd := sc0.nd
  have hp := owns (P := P) (w := w) (K := K) (mg := mg) (base := base) (N := ["self", "signal", "target", "sections", "needs"]) (qual := "Route.__init__") (sc := defScope st0) (f := fA 0) (cd := cdv) (A := A) (outer := outer) (s := s0) (H := H) (E := E)
  exact (rs_cons (rs_setFld rfl T.a_signal (re_var 0) (re_var 1))
    (rs_cons (rs_setFld rfl T.a_target (re_var 0) (re_var 2))
    (rs_cons (rs_setFld rfl T.a_sections (re_var 0) (re_var 3))
    (rs_one (rs_setFld rfl T.a_needs (re_var 0) (re_var 4))))))
end Mn
end

section
set_option Elab.async false
set_option linter.all false
set_option maxRecDepth 100000
set_option maxHeartbeats 4000000
namespace Mn
open PySem PySem.Spec L2 TL
theorem sc19 : FnScope ["self", "end", "link"] ["self", "end"] (defScope st19) := ⟨rfl, rfl, rfl, by decide +kernel, rfl, by decide +kernel, by decide +kernel⟩
theorem ok_19 {P : Program} {w : World} {K : PySem.W.Frag} {mg : Str → Option Value} {base : Heap} {cA fA : Nat → Addr} {fD : Nat → FuncData} (T : Fx K w mg cA fA fD) : FnOk P w K mg base (L2.CX P w) 1 (fA 19) (fD 19) ["self", "end"] (spOf (GT cA) K m_Layout_links_at) := by
  refine fs_of (N := ["self", "end", "link"]) (s := m_Layout_links_at_body) T.F19 sc19 (fun cdv A outer s0 H E hr => ?_)
  have h65 := units65 hr
  have h1 := units1 hr
  have nd := sc19.nd
  have hp := owns (P := P) (w := w) (K := K) (mg := mg) (base := base) (N := ["self", "end", "link"]) (qual := "Layout.links_at") (sc := defScope st19) (f := fA 19) (cd := cdv) (A := A) (outer := outer) (s := s0) (H := H) (E := E)
  exact (rs_one (rs_ret (re_lc rfl nd (ri_list (re_fld rfl T.a_links (re_var 0))) (blkOk_by (N := ["self", "end", "link"]) (sc := defScope st19) (by decide +kernel)) (fun _ _ _ _ _ => pg_name (i := 2) nd rfl (Or.inl rfl)) (fun _ _ _ _ _ => rts_one (rt_cmp (opIn h65) (re_var 1) (re_tup (ra_cons (re_fld rfl T.a_one (re_var 2)) (ra_cons (re_fld rfl T.a_other (re_var 2)) ra_nil))))) (fun _ _ _ _ _ => (re_var 2)))))
end Mn
end

section
set_option Elab.async false
set_option linter.all false
set_option maxRecDepth 100000
set_option maxHeartbeats 4000000
namespace Mn
open PySem PySem.Spec L2 TL
theorem sc20 : FnScope ["self", "end", "name"] ["self", "end"] (defScope st20) := ⟨rfl, rfl, rfl, by decide +kernel, rfl, by decide +kernel, by decide +kernel⟩
theorem ok_20 {P : Program} {w : World} {K : PySem.W.Frag} {mg : Str → Option Value} {base : Heap} {cA fA : Nat → Addr} {fD : Nat → FuncData} (T : Fx K w mg cA fA fD) : FnOk P w K mg base (L2.CX P w) 1 (fA 20) (fD 20) ["self", "end"] (spOf (GT cA) K m_Layout_signal_at) := by
  refine fs_of (N := ["self", "end", "name"]) (s := m_Layout_signal_at_body) T.F20 sc20 (fun cdv A outer s0 H E hr => ?_)
  have h65 := units65 hr
  have h1 := units1 hr
  have nd := sc20.nd
  have hp := owns (P := P) (w := w) (K := K) (mg := mg) (base := base) (N := ["self", "end", "name"]) (qual := "Layout.signal_at") (sc := defScope st20) (f := fA 20) (cd := cdv) (A := A) (outer := outer) (s := s0) (H := H) (E := E)
  exact (rs_cons (rs_lock (ea := (eFld cs_signals 6 (eV 0))) (rs_for hp rfl (ri_keys (re_fld rfl T.a_signals (re_var 0))) (rg_name nd rfl (by first | exact .inl rfl | exact .inr rfl)) (rs_one (rs_if (rt_cmp (opEq h65) (re_ix h1 (re_fld rfl T.a_signals (re_var 0)) (re_var 2)) (re_var 1)) (rs_one (rs_ret (re_var 2))) rs_nil))))
    (rs_one (rs_ret re_non)))
end Mn
end

section
set_option Elab.async false
set_option linter.all false
set_option maxRecDepth 100000
set_option maxHeartbeats 4000000
namespace Mn
open PySem PySem.Spec L2 TL
theorem sc5 : FnScope ["self", "end", "sections", "needs", "target"] ["self", "end", "sections", "needs"] (defScope st5) := ⟨rfl, rfl, rfl, by decide +kernel, rfl, by decide +kernel, by decide +kernel⟩
theorem ok_5 {P : Program} {w : World} {K : PySem.W.Frag} {mg : Str → Option Value} {base : Heap} {cA fA : Nat → Addr} {fD : Nat → FuncData} (T : Fx K w mg cA fA fD) {L : Nat} {r : MF} (hL : 4 ≤ L) (hR : FnOk P w K mg base (L2.CX P w) L (fA 4) (fD 4) ["self", "end", "sections", "needs"] (spOf (GT cA) K r)) : FnOk P w K mg base (L2.CX P w) (L + 1) (fA 5) (fD 5) ["self", "end", "sections", "needs"] (spOf (GT cA) K (m_Finder_come_to r)) := by
  refine fs_of (N := ["self", "end", "sections", "needs", "target"]) (s := m_Finder_come_to_body r) T.F5 sc5 (fun cdv A outer s0 H E hr => ?_)
  have h65 := units65 hr
  have h1 := units1 hr
  have nd := sc5.nd
  have hp := owns (P := P) (w := w) (K := K) (mg := mg) (base := base) (N := ["self", "end", "sections", "needs", "target"]) (qual := "Finder.come_to") (sc := defScope st5) (f := fA 5) (cd := cdv) (A := A) (outer := outer) (s := s0) (H := H) (E := E)
  exact (rs_cons (rs_set nd rfl (by first | exact .inl rfl | exact .inr rfl) (re_meth T.cl_Layout T.me20 (nm_ne (by decide +kernel)) (re_fld rfl T.a_layout (re_var 0)) (ok_20 T) (hr.mono (by first | decide | omega)) T.b20 (ra_cons (re_var 1) ra_nil)))
    (rs_one (rs_if (rt_of (rw_or (rt_notN (re_var 4)) (rw_or1 (rt_cmp (opEq h65) (re_meth T.cl_Layout T.me19 (nm_ne (by decide +kernel)) (re_fld rfl T.a_layout (re_var 0)) (ok_19 T) (hr.mono (by first | decide | omega)) T.b19 (ra_cons (re_var 1) ra_nil)) (re_lst ra_nil))))) (rs_cons (rs_exp (re_m1 (T := 0) PySem.F.plainAttrs_list PySem.F.slot_list_append PySem.F.type_list_append mAppend (by decide) (re_fld rfl T.a_found (re_var 0)) (re_new T.mk_Route (ok_0 T) (hr.mono (by first | decide | omega)) (by rfl) T.g_Route T.b0 (ra_cons (re_fld rfl T.a_signal (re_var 0)) (ra_cons (re_var 4) (ra_cons (re_var 2) (ra_cons (re_var 3) ra_nil)))))))
    (rs_one (rs_if (rt_cmp opGt (re_b1 cLen (by rfl) T.z_len (by decide +kernel) (re_fld rfl T.a_found (re_var 0))) (re_gint (by rfl) T.g_MOST_ROUTES)) (rs_one (rs_raise0 T.x_TooMany T.x0_TooMany (by rfl))) rs_nil))) (rs_one (rs_exp (re_meth T.cl_Finder T.me4 (nm_ne (by decide +kernel)) (re_var 0) hR (hr.mono (by first | omega | decide)) T.b4 (ra_cons (re_var 1) (ra_cons (re_var 2) (ra_cons (re_var 3) ra_nil)))))))))
end Mn
end

section
set_option Elab.async false
set_option linter.all false
set_option maxRecDepth 100000
set_option maxHeartbeats 4000000
namespace Mn
open PySem PySem.Spec L2 TL
theorem sc17 : FnScope ["self", "end"] ["self", "end"] (defScope st17) := ⟨rfl, rfl, rfl, by decide +kernel, rfl, by decide +kernel, by decide +kernel⟩
theorem ok_17 {P : Program} {w : World} {K : PySem.W.Frag} {mg : Str → Option Value} {base : Heap} {cA fA : Nat → Addr} {fD : Nat → FuncData} (T : Fx K w mg cA fA fD) : FnOk P w K mg base (L2.CX P w) 1 (fA 17) (fD 17) ["self", "end"] (spOf (GT cA) K m_Link_far) := by
  refine fs_of (N := ["self", "end"]) (s := m_Link_far_body) T.F17 sc17 (fun cdv A outer s0 H E hr => ?_)
  have h65 := units65 hr
  have h1 := units1 hr
  have nd := sc17.nd
  have hp := owns (P := P) (w := w) (K := K) (mg := mg) (base := base) (N := ["self", "end"]) (qual := "Link.far") (sc := defScope st17) (f := fA 17) (cd := cdv) (A := A) (outer := outer) (s := s0) (H := H) (E := E)
  exact (rs_cons (rs_if (rt_cmp (opEq h65) (re_var 1) (re_fld rfl T.a_one (re_var 0))) (rs_one (rs_ret (re_fld rfl T.a_other (re_var 0)))) rs_nil)
    (rs_one (rs_ret (re_fld rfl T.a_one (re_var 0)))))
end Mn
end

section
set_option Elab.async false
set_option linter.all false
set_option maxRecDepth 100000
set_option maxHeartbeats 4000000
namespace Mn
open PySem PySem.Spec L2 TL
theorem sc4 : FnScope ["self", "end", "sections", "needs", "link", "section", "side", "more"] ["self", "end", "sections", "needs"] (defScope st4) := ⟨rfl, rfl, rfl, by decide +kernel, rfl, by decide +kernel, by decide +kernel⟩
theorem ok_4 {P : Program} {w : World} {K : PySem.W.Frag} {mg : Str → Option Value} {base : Heap} {cA fA : Nat → Addr} {fD : Nat → FuncData} (T : Fx K w mg cA fA fD) : ∀ n : Nat, FnOk P w K mg base (L2.CX P w) (2 * n + 4) (fA 4) (fD 4) ["self", "end", "sections", "needs"] (spOf (GT cA) K (m_Finder_go_on n))
  | 0 => fn_bad
  | n + 1 => by
    have hR := ok_4 (P := P) (base := base) T n
    have hL : 4 ≤ 2 * n + 4 := by omega
    refine fs_of (k := 2 * n + 5) (N := ["self", "end", "sections", "needs", "link", "section", "side", "more"]) (s := m_Finder_go_on_body (m_Finder_go_on n)) T.F4 sc4 (fun cdv A outer s0 H E hr => ?_)
    have h65 := units65 hr
    have h1 := units1 hr
    have nd := sc4.nd
    have hp := owns (P := P) (w := w) (K := K) (mg := mg) (base := base) (N := ["self", "end", "sections", "needs", "link", "section", "side", "more"]) (qual := "Finder.go_on") (sc := defScope st4) (f := fA 4) (cd := cdv) (A := A) (outer := outer) (s := s0) (H := H) (E := E)
    exact (rs_one (rs_for hp rfl (ri_list (re_meth T.cl_Layout T.me19 (nm_ne (by decide +kernel)) (re_fld rfl T.a_layout (re_var 0)) (ok_19 T) (hr.mono (by first | decide | omega)) T.b19 (ra_cons (re_var 1) ra_nil))) (rg_name nd rfl (by first | exact .inl rfl | exact .inr rfl)) (rs_cons (rs_asg (re_meth T.cl_Link T.me17 (nm_ne (by decide +kernel)) (re_var 4) (ok_17 T) (hr.mono (by first | decide | omega)) T.b17 (ra_cons (re_var 1) ra_nil)) (rg_tup rfl (rgs_cons (rg_name nd rfl (by first | exact .inl rfl | exact .inr rfl)) (rgs_cons (rg_name nd rfl (by first | exact .inl rfl | exact .inr rfl)) rgs_nil))))
    (rs_one (rs_if (rt_of (rw_and (rt_cmp (opNe h65) (re_var 5) (re_ix h1 (re_fld rfl T.a_begin (re_var 0)) re_int)) (rw_and (rt_cmp (opNotIn h65) (re_var 5) (re_var 2)) (rw_and1 (rt_val (re_call (ok_2 T) (hr.mono (by first | decide | omega)) (by rfl) T.g_agree T.F2.kp T.b2 (ra_cons (re_var 3) (ra_cons (re_fld rfl T.a_needs (re_var 4)) ra_nil)))))))) (rs_cons (rs_set nd rfl (by first | exact .inl rfl | exact .inr rfl) (re_t1 cDict (by rfl) T.z_dict (by decide +kernel) (re_var 3)))
    (rs_cons (rs_exp (re_m1 (T := 1) PySem.F.plainAttrs_dict PySem.F.slot_dict_update PySem.F.type_dict_update mUpdate (by decide) (re_var 7) (re_fld rfl T.a_needs (re_var 4))))
    (rs_one (rs_exp (re_meth T.cl_Finder T.me5 (nm_ne (by decide +kernel)) (re_var 0) (ok_5 T hL hR) (hr.mono (by first | omega | decide)) T.b5 (ra_cons (re_tup (ra_cons (re_var 5) (ra_cons (re_op opSub re_int (re_var 6)) ra_nil))) (ra_cons (re_op opAdd (re_var 2) (re_lst (ra_cons (re_var 5) ra_nil))) (ra_cons (re_var 7) ra_nil)))))))) rs_nil)))))
end Mn
end

section
set_option Elab.async false
set_option linter.all false
set_option maxRecDepth 100000
set_option maxHeartbeats 4000000
namespace Mn
open PySem PySem.Spec L2 TL
theorem sc6 : FnScope ["layout", "found", "signal", "finder"] ["layout"] (defScope st6) := ⟨rfl, rfl, rfl, by decide +kernel, rfl, by decide +kernel, by decide +kernel⟩
theorem ok_6 {P : Program} {w : World} {K : PySem.W.Frag} {mg : Str → Option Value} {base : Heap} {cA fA : Nat → Addr} {fD : Nat → FuncData} (T : Fx K w mg cA fA fD) : FnOk P w K mg base (L2.CX P w) 69 (fA 6) (fD 6) ["layout"] (spOf (GT cA) K m_routes_of) := by
  refine fs_of (N := ["layout", "found", "signal", "finder"]) (s := m_routes_of_body) T.F6 sc6 (fun cdv A outer s0 H E hr => ?_)
  have h65 := units65 hr
  have h1 := units1 hr
  have nd := sc6.nd
  have hp := owns (P := P) (w := w) (K := K) (mg := mg) (base := base) (N := ["layout", "found", "signal", "finder"]) (qual := "routes_of") (sc := defScope st6) (f := fA 6) (cd := cdv) (A := A) (outer := outer) (s := s0) (H := H) (E := E)
  exact (rs_cons (rs_set nd rfl (by first | exact .inl rfl | exact .inr rfl) (re_lst ra_nil))
    (rs_cons (rs_lock (ea := (eFld cs_signals 6 (eV 0))) (rs_for hp rfl (ri_keys (re_fld rfl T.a_signals (re_var 0))) (rg_name nd rfl (by first | exact .inl rfl | exact .inr rfl)) (rs_cons (rs_set nd rfl (by first | exact .inl rfl | exact .inr rfl) (re_new T.mk_Finder (ok_3 T) (hr.mono (by first | decide | omega)) (by rfl) T.g_Finder T.b3 (ra_cons (re_var 0) (ra_cons (re_var 2) ra_nil))))
    (rs_cons (rs_exp (re_meth T.cl_Finder T.me4 (nm_ne (by decide +kernel)) (re_var 3) (ok_4 T 32) (hr.mono (by first | omega | decide)) T.b4 (ra_cons (re_fld rfl T.a_begin (re_var 3)) (ra_cons (re_lst ra_nil) (ra_cons re_d0 ra_nil)))))
    (rs_cons (rs_set nd rfl (by first | exact .inl rfl | exact .inr rfl) (re_op opAdd (re_var 1) (re_fld rfl T.a_found (re_var 3))))
    (rs_one (rs_if (rt_cmp opGt (re_b1 cLen (by rfl) T.z_len (by decide +kernel) (re_var 1)) (re_gint (by rfl) T.g_MOST_ROUTES)) (rs_one (rs_raise0 T.x_TooMany T.x0_TooMany (by rfl))) rs_nil)))))))
    (rs_one (rs_ret (re_var 1)))))
end Mn
end

section
set_option Elab.async false
set_option linter.all false
set_option maxRecDepth 100000
set_option maxHeartbeats 4000000
namespace Mn
open PySem PySem.Spec L2 TL
theorem sc18 : FnScope ["self"] ["self"] (defScope st18) := ⟨rfl, rfl, rfl, by decide +kernel, rfl, by decide +kernel, by decide +kernel⟩
theorem ok_18 {P : Program} {w : World} {K : PySem.W.Frag} {mg : Str → Option Value} {base : Heap} {cA fA : Nat → Addr} {fD : Nat → FuncData} (T : Fx K w mg cA fA fD) : FnOk P w K mg base (L2.CX P w) 1 (fA 18) (fD 18) ["self"] (spOf (GT cA) K m_Layout_init__) := by
  refine fs_of (N := ["self"]) (s := m_Layout_init___body) T.F18 sc18 (fun cdv A outer s0 H E hr => ?_)
  have h65 := units65 hr
  have h1 := units1 hr
  have nd := sc18.nd
  have hp := owns (P := P) (w := w) (K := K) (mg := mg) (base := base) (N := ["self"]) (qual := "Layout.__init__") (sc := defScope st18) (f := fA 18) (cd := cdv) (A := A) (outer := outer) (s := s0) (H := H) (E := E)
  exact (rs_cons (rs_setFld rfl T.a_sections (re_var 0) (re_lst ra_nil))
    (rs_cons (rs_setFld rfl T.a_points (re_var 0) re_d0)
    (rs_cons (rs_setFld rfl T.a_links (re_var 0) (re_lst ra_nil))
    (rs_one (rs_setFld rfl T.a_signals (re_var 0) re_d0)))))
end Mn
end

section
set_option Elab.async false
set_option linter.all false
set_option maxRecDepth 100000
set_option maxHeartbeats 4000000
namespace Mn
open PySem PySem.Spec L2 TL
theorem sc21 : FnScope ["self"] ["self"] (defScope st21) := ⟨rfl, rfl, rfl, by decide +kernel, rfl, by decide +kernel, by decide +kernel⟩
theorem ok_21 {P : Program} {w : World} {K : PySem.W.Frag} {mg : Str → Option Value} {base : Heap} {cA fA : Nat → Addr} {fD : Nat → FuncData} (T : Fx K w mg cA fA fD) : FnOk P w K mg base (L2.CX P w) 3 (fA 21) (fD 21) ["self"] (spOf (GT cA) K m_Reader_init__) := by
  refine fs_of (N := ["self"]) (s := m_Reader_init___body) T.F21 sc21 (fun cdv A outer s0 H E hr => ?_)
  have h65 := units65 hr
  have h1 := units1 hr
  have nd := sc21.nd
  have hp := owns (P := P) (w := w) (K := K) (mg := mg) (base := base) (N := ["self"]) (qual := "Reader.__init__") (sc := defScope st21) (f := fA 21) (cd := cdv) (A := A) (outer := outer) (s := s0) (H := H) (E := E)
  exact (rs_cons (rs_setFld rfl T.a_layout (re_var 0) (re_new0 T.mk_Layout (ok_18 T) (hr.mono (by first | decide | omega)) (by rfl) T.g_Layout T.b18))
    (rs_cons (rs_setFld rfl T.a_row (re_var 0) re_int)
    (rs_one (rs_setFld rfl T.a_counts (re_var 0) (re_dct (rps_cons (re_str [115, 101, 99, 116, 105, 111, 110] (by decide +kernel) (by decide +kernel)) re_int (rps_cons (re_str [112, 111, 105, 110, 116] (by decide +kernel) (by decide +kernel)) re_int (rps_cons (re_str [108, 105, 110, 107] (by decide +kernel) (by decide +kernel)) re_int (rps_cons (re_str [115, 105, 103, 110, 97, 108] (by decide +kernel) (by decide +kernel)) re_int rps_nil)))))))))
end Mn
end

section
set_option Elab.async false
set_option linter.all false
set_option maxRecDepth 100000
set_option maxHeartbeats 4000000
namespace Mn
open PySem PySem.Spec L2 TL
theorem sc22 : FnScope ["self", "good"] ["self", "good"] (defScope st22) := ⟨rfl, rfl, rfl, by decide +kernel, rfl, by decide +kernel, by decide +kernel⟩
theorem ok_22 {P : Program} {w : World} {K : PySem.W.Frag} {mg : Str → Option Value} {base : Heap} {cA fA : Nat → Addr} {fD : Nat → FuncData} (T : Fx K w mg cA fA fD) : FnOk P w K mg base (L2.CX P w) 1 (fA 22) (fD 22) ["self", "good"] (spOf (GT cA) K m_Reader_must) := by
  refine fs_of (N := ["self", "good"]) (s := m_Reader_must_body) T.F22 sc22 (fun cdv A outer s0 H E hr => ?_)
  have h65 := units65 hr
  have h1 := units1 hr
  have nd := sc22.nd
  have hp := owns (P := P) (w := w) (K := K) (mg := mg) (base := base) (N := ["self", "good"]) (qual := "Reader.must") (sc := defScope st22) (f := fA 22) (cd := cdv) (A := A) (outer := outer) (s := s0) (H := H) (E := E)
  exact (rs_one (rs_if (rt_not (rt_val (re_var 1))) (rs_one rs_bad) rs_nil))
end Mn
end

section
set_option Elab.async false
set_option linter.all false
set_option maxRecDepth 100000
set_option maxHeartbeats 4000000
namespace Mn
open PySem PySem.Spec L2 TL
theorem sc23 : FnScope ["self", "name", "sign"] ["self", "name"] (defScope st23) := ⟨rfl, rfl, rfl, by decide +kernel, rfl, by decide +kernel, by decide +kernel⟩
theorem ok_23 {P : Program} {w : World} {K : PySem.W.Frag} {mg : Str → Option Value} {base : Heap} {cA fA : Nat → Addr} {fD : Nat → FuncData} (T : Fx K w mg cA fA fD) : FnOk P w K mg base (L2.CX P w) 2 (fA 23) (fD 23) ["self", "name"] (spOf (GT cA) K m_Reader_fresh) := by
  refine fs_of (N := ["self", "name", "sign"]) (s := m_Reader_fresh_body) T.F23 sc23 (fun cdv A outer s0 H E hr => ?_)
  have h65 := units65 hr
  have h1 := units1 hr
  have nd := sc23.nd
  have hp := owns (P := P) (w := w) (K := K) (mg := mg) (base := base) (N := ["self", "name", "sign"]) (qual := "Reader.fresh") (sc := defScope st23) (f := fA 23) (cd := cdv) (A := A) (outer := outer) (s := s0) (H := H) (E := E)
  exact (rs_cons (rs_exp (re_meth T.cl_Reader T.me22 (nm_ne (by decide +kernel)) (re_var 0) (ok_22 T) (hr.mono (by first | decide | omega)) T.b22 (ra_cons (re_and (re_chain opLe opLe re_int (re_b1 cLen (by rfl) T.z_len (by decide +kernel) (re_var 1)) (re_gint (by rfl) T.g_LONGEST)) (re_one (re_cmp (opEq h65) (re_lc rfl nd (ri_str (re_var 1)) (blkOk_by (N := ["self", "name", "sign"]) (sc := defScope st23) (by decide +kernel)) (fun _ _ _ _ _ => pg_name (i := 2) nd rfl (Or.inl rfl)) (fun _ _ _ _ _ => rts_one (rt_cmp (opNotIn h65) (re_var 2) (re_gstr (by rfl) T.g_SIGNS (by decide +kernel)))) (fun _ _ _ _ _ => (re_var 2))) (re_lst ra_nil)))) ra_nil)))
    (rs_cons (rs_exp (re_meth T.cl_Reader T.me22 (nm_ne (by decide +kernel)) (re_var 0) (ok_22 T) (hr.mono (by first | decide | omega)) T.b22 (ra_cons (re_and (re_cmp (opNotIn h65) (re_var 1) (re_fld rfl T.a_sections (re_fld rfl T.a_layout (re_var 0)))) (re_one (re_cmp (opNotIn h65) (re_var 1) (re_fld rfl T.a_points (re_fld rfl T.a_layout (re_var 0)))))) ra_nil)))
    (rs_cons (rs_exp (re_meth T.cl_Reader T.me22 (nm_ne (by decide +kernel)) (re_var 0) (ok_22 T) (hr.mono (by first | decide | omega)) T.b22 (ra_cons (re_cmp (opNotIn h65) (re_var 1) (re_fld rfl T.a_signals (re_fld rfl T.a_layout (re_var 0)))) ra_nil)))
    (rs_one (rs_ret (re_var 1))))))
end Mn
end

section
set_option Elab.async false
set_option linter.all false
set_option maxRecDepth 100000
set_option maxHeartbeats 4000000
namespace Mn
open PySem PySem.Spec L2 TL
theorem sc24 : FnScope ["self", "text", "section", "dot", "side"] ["self", "text"] (defScope st24) := ⟨rfl, rfl, rfl, by decide +kernel, rfl, by decide +kernel, by decide +kernel⟩
theorem ok_24 {P : Program} {w : World} {K : PySem.W.Frag} {mg : Str → Option Value} {base : Heap} {cA fA : Nat → Addr} {fD : Nat → FuncData} (T : Fx K w mg cA fA fD) : FnOk P w K mg base (L2.CX P w) 2 (fA 24) (fD 24) ["self", "text"] (spOf (GT cA) K m_Reader_end) := by
  refine fs_of (N := ["self", "text", "section", "dot", "side"]) (s := m_Reader_end_body) T.F24 sc24 (fun cdv A outer s0 H E hr => ?_)
  have h65 := units65 hr
  have h1 := units1 hr
  have nd := sc24.nd
  have hp := owns (P := P) (w := w) (K := K) (mg := mg) (base := base) (N := ["self", "text", "section", "dot", "side"]) (qual := "Reader.end") (sc := defScope st24) (f := fA 24) (cd := cdv) (A := A) (outer := outer) (s := s0) (H := H) (E := E)
  exact (rs_cons (rs_asg (re_m1 (T := 2) PySem.F.plainAttrs_str PySem.F.slot_str_partition PySem.F.type_str_partition mPartition (by decide) (re_var 1) (re_str [46] (by decide +kernel) (by decide +kernel))) (rg_tup rfl (rgs_cons (rg_name nd rfl (by first | exact .inl rfl | exact .inr rfl)) (rgs_cons (rg_name nd rfl (by first | exact .inl rfl | exact .inr rfl)) (rgs_cons (rg_name nd rfl (by first | exact .inl rfl | exact .inr rfl)) rgs_nil)))))
    (rs_cons (rs_exp (re_meth T.cl_Reader T.me22 (nm_ne (by decide +kernel)) (re_var 0) (ok_22 T) (hr.mono (by first | decide | omega)) T.b22 (ra_cons (re_and (re_cmp (opEq h65) (re_var 3) (re_str [46] (by decide +kernel) (by decide +kernel))) (re_and (re_cmp (opIn h65) (re_var 4) (re_tup (ra_cons (re_str [48] (by decide +kernel) (by decide +kernel)) (ra_cons (re_str [49] (by decide +kernel) (by decide +kernel)) ra_nil)))) (re_one (re_cmp (opIn h65) (re_var 2) (re_fld rfl T.a_sections (re_fld rfl T.a_layout (re_var 0))))))) ra_nil)))
    (rs_one (rs_ret (re_tup (ra_cons (re_var 2) (ra_cons (re_t1 cInt (by rfl) T.z_int (by decide +kernel) (re_var 4)) ra_nil)))))))
end Mn
end

section
set_option Elab.async false
set_option linter.all false
set_option maxRecDepth 100000
set_option maxHeartbeats 4000000
namespace Mn
open PySem PySem.Spec L2 TL
theorem sc16 : FnScope ["self", "one", "other", "needs"] ["self", "one", "other", "needs"] (defScope st16) := ⟨rfl, rfl, rfl, by decide +kernel, rfl, by decide +kernel, by decide +kernel⟩
theorem ok_16 {P : Program} {w : World} {K : PySem.W.Frag} {mg : Str → Option Value} {base : Heap} {cA fA : Nat → Addr} {fD : Nat → FuncData} (T : Fx K w mg cA fA fD) : FnOk P w K mg base (L2.CX P w) 1 (fA 16) (fD 16) ["self", "one", "other", "needs"] (spOf (GT cA) K m_Link_init__) := by
  refine fs_of (N := ["self", "one", "other", "needs"]) (s := m_Link_init___body) T.F16 sc16 (fun cdv A outer s0 H E hr => ?_)
  have h65 := units65 hr
  have h1 := units1 hr
  have nd := sc16.nd
  have hp := owns (P := P) (w := w) (K := K) (mg := mg) (base := base) (N := ["self", "one", "other", "needs"]) (qual := "Link.__init__") (sc := defScope st16) (f := fA 16) (cd := cdv) (A := A) (outer := outer) (s := s0) (H := H) (E := E)
  exact (rs_cons (rs_setFld rfl T.a_one (re_var 0) (re_var 1))
    (rs_cons (rs_setFld rfl T.a_other (re_var 0) (re_var 2))
    (rs_one (rs_setFld rfl T.a_needs (re_var 0) (re_var 3)))))
end Mn
end

section
set_option Elab.async false
set_option linter.all false
set_option maxRecDepth 100000
set_option maxHeartbeats 4000000
namespace Mn
open PySem PySem.Spec L2 TL
theorem sc25 : FnScope ["self", "words", "sections", "found", "at", "point"] ["self", "words", "sections"] (defScope st25) := ⟨rfl, rfl, rfl, by decide +kernel, rfl, by decide +kernel, by decide +kernel⟩
theorem ok_25 {P : Program} {w : World} {K : PySem.W.Frag} {mg : Str → Option Value} {base : Heap} {cA fA : Nat → Addr} {fD : Nat → FuncData} (T : Fx K w mg cA fA fD) : FnOk P w K mg base (L2.CX P w) 2 (fA 25) (fD 25) ["self", "words", "sections"] (spOf (GT cA) K m_Reader_lies_of) := by
  refine fs_of (N := ["self", "words", "sections", "found", "at", "point"]) (s := m_Reader_lies_of_body) T.F25 sc25 (fun cdv A outer s0 H E hr => ?_)
  have h65 := units65 hr
  have h1 := units1 hr
  have nd := sc25.nd
  have hp := owns (P := P) (w := w) (K := K) (mg := mg) (base := base) (N := ["self", "words", "sections", "found", "at", "point"]) (qual := "Reader.lies_of") (sc := defScope st25) (f := fA 25) (cd := cdv) (A := A) (outer := outer) (s := s0) (H := H) (E := E)
  exact (rs_cons (rs_set nd rfl (by first | exact .inl rfl | exact .inr rfl) re_d0)
    (rs_cons (rs_exp (re_meth T.cl_Reader T.me22 (nm_ne (by decide +kernel)) (re_var 0) (ok_22 T) (hr.mono (by first | decide | omega)) T.b22 (ra_cons (re_or (re_cmp (opEq h65) (re_var 1) (re_lst ra_nil)) (re_one (re_and (re_cmp (opEq h65) (re_ix h1 (re_var 1) re_int) (re_str [119, 104, 101, 110] (by decide +kernel) (by decide +kernel))) (re_one (re_cmp (opEq h65) (re_op opMod (re_b1 cLen (by rfl) T.z_len (by decide +kernel) (re_var 1)) re_int) re_int))))) ra_nil)))
    (rs_cons (rs_for hp rfl (ri_rng3 (es := []) (by rfl) T.z_range (ra_cons re_int (ra_cons (re_b1 cLen (by rfl) T.z_len (by decide +kernel) (re_var 1)) (ra_cons re_int ra_nil)))) (rg_name nd rfl (by first | exact .inl rfl | exact .inr rfl)) (rs_cons (rs_exp (re_meth T.cl_Reader T.me22 (nm_ne (by decide +kernel)) (re_var 0) (ok_22 T) (hr.mono (by first | decide | omega)) T.b22 (ra_cons (re_or (re_cmp (opEq h65) (re_var 4) re_int) (re_one (re_cmp (opEq h65) (re_ix h1 (re_var 1) (re_var 4)) (re_str [97, 110, 100] (by decide +kernel) (by decide +kernel))))) ra_nil)))
    (rs_cons (rs_set nd rfl (by first | exact .inl rfl | exact .inr rfl) (re_ix h1 (re_var 1) (re_op opAdd (re_var 4) re_int)))
    (rs_cons (rs_exp (re_meth T.cl_Reader T.me22 (nm_ne (by decide +kernel)) (re_var 0) (ok_22 T) (hr.mono (by first | decide | omega)) T.b22 (ra_cons (re_and (re_cmp (opIn h65) (re_var 5) (re_fld rfl T.a_points (re_fld rfl T.a_layout (re_var 0)))) (re_and (re_cmp (opNotIn h65) (re_var 5) (re_var 3)) (re_one (re_cmp (opIn h65) (re_ix h1 (re_var 1) (re_op opAdd (re_var 4) re_int)) (re_tup (ra_cons (re_str [110] (by decide +kernel) (by decide +kernel)) (ra_cons (re_str [114] (by decide +kernel) (by decide +kernel)) ra_nil))))))) ra_nil)))
    (rs_cons (rs_exp (re_meth T.cl_Reader T.me22 (nm_ne (by decide +kernel)) (re_var 0) (ok_22 T) (hr.mono (by first | decide | omega)) T.b22 (ra_cons (re_cmp (opIn h65) (re_ix h1 (re_fld rfl T.a_points (re_fld rfl T.a_layout (re_var 0))) (re_var 5)) (re_var 2)) ra_nil)))
    (rs_cons (rs_exp (re_meth T.cl_Reader T.me22 (nm_ne (by decide +kernel)) (re_var 0) (ok_22 T) (hr.mono (by first | decide | omega)) T.b22 (ra_cons (re_or (re_cmp (opEq h65) (re_var 3) re_d0) (re_one (re_cmp opGt (re_var 5) (re_ix h1 (re_b1 (cSorted rfl) (by rfl) T.z_sorted (by decide +kernel) (re_t1 (cList rfl) (by rfl) T.z_list (by decide +kernel) (re_var 3))) (re_un unNeg re_int))))) ra_nil)))
    (rs_one (rs_setIx h1 (re_var 3) (re_var 5) (re_ix h1 (re_var 1) (re_op opAdd (re_var 4) re_int))))))))))
    (rs_one (rs_ret (re_var 3))))))
end Mn
end

section
set_option Elab.async false
set_option linter.all false
set_option maxRecDepth 100000
set_option maxHeartbeats 4000000
namespace Mn
open PySem PySem.Spec L2 TL
theorem sc26 : FnScope ["self", "words", "one", "other", "needs", "end", "link", "apart", "point"] ["self", "words"] (defScope st26) := ⟨rfl, rfl, rfl, by decide +kernel, rfl, by decide +kernel, by decide +kernel⟩
theorem ok_26 {P : Program} {w : World} {K : PySem.W.Frag} {mg : Str → Option Value} {base : Heap} {cA fA : Nat → Addr} {fD : Nat → FuncData} (T : Fx K w mg cA fA fD) : FnOk P w K mg base (L2.CX P w) 3 (fA 26) (fD 26) ["self", "words"] (spOf (GT cA) K m_Reader_link) := by
  refine fs_of (N := ["self", "words", "one", "other", "needs", "end", "link", "apart", "point"]) (s := m_Reader_link_body) T.F26 sc26 (fun cdv A outer s0 H E hr => ?_)
  have h65 := units65 hr
  have h1 := units1 hr
  have nd := sc26.nd
  have hp := owns (P := P) (w := w) (K := K) (mg := mg) (base := base) (N := ["self", "words", "one", "other", "needs", "end", "link", "apart", "point"]) (qual := "Reader.link") (sc := defScope st26) (f := fA 26) (cd := cdv) (A := A) (outer := outer) (s := s0) (H := H) (E := E)
  exact (rs_cons (rs_exp (re_meth T.cl_Reader T.me22 (nm_ne (by decide +kernel)) (re_var 0) (ok_22 T) (hr.mono (by first | decide | omega)) T.b22 (ra_cons (re_cmp opGe (re_b1 cLen (by rfl) T.z_len (by decide +kernel) (re_var 1)) re_int) ra_nil)))
    (rs_cons (rs_set nd rfl (by first | exact .inl rfl | exact .inr rfl) (re_meth T.cl_Reader T.me24 (nm_ne (by decide +kernel)) (re_var 0) (ok_24 T) (hr.mono (by first | decide | omega)) T.b24 (ra_cons (re_ix h1 (re_var 1) re_int) ra_nil)))
    (rs_cons (rs_set nd rfl (by first | exact .inl rfl | exact .inr rfl) (re_meth T.cl_Reader T.me24 (nm_ne (by decide +kernel)) (re_var 0) (ok_24 T) (hr.mono (by first | decide | omega)) T.b24 (ra_cons (re_ix h1 (re_var 1) re_int) ra_nil)))
    (rs_cons (rs_exp (re_meth T.cl_Reader T.me22 (nm_ne (by decide +kernel)) (re_var 0) (ok_22 T) (hr.mono (by first | decide | omega)) T.b22 (ra_cons (re_cmp (opNe h65) (re_ix h1 (re_var 2) re_int) (re_ix h1 (re_var 3) re_int)) ra_nil)))
    (rs_cons (rs_set nd rfl (by first | exact .inl rfl | exact .inr rfl) (re_meth T.cl_Reader T.me25 (nm_ne (by decide +kernel)) (re_var 0) (ok_25 T) (hr.mono (by first | decide | omega)) T.b25 (ra_cons (re_sl (re_var 1) (ro_some re_int) ro_none) (ra_cons (re_tup (ra_cons (re_ix h1 (re_var 2) re_int) (ra_cons (re_ix h1 (re_var 3) re_int) ra_nil))) ra_nil))))
    (rs_cons (rs_for hp rfl (ri_tup (re_tup (ra_cons (re_var 2) (ra_cons (re_var 3) ra_nil)))) (rg_name nd rfl (by first | exact .inl rfl | exact .inr rfl)) (rs_one (rs_for hp rfl (ri_list (re_meth T.cl_Layout T.me19 (nm_ne (by decide +kernel)) (re_fld rfl T.a_layout (re_var 0)) (ok_19 T) (hr.mono (by first | decide | omega)) T.b19 (ra_cons (re_var 5) ra_nil))) (rg_name nd rfl (by first | exact .inl rfl | exact .inr rfl)) (rs_cons (rs_lock (ea := (eV 4)) (rs_setLc (j := 7) rfl nd rfl rfl (sw_true rfl rfl rfl (by decide +kernel)) (ri_keys (re_var 4)) (blkOk_by (N := ["self", "words", "one", "other", "needs", "end", "link", "apart", "point"]) (sc := defScope st26) (by decide +kernel)) (fun _ _ _ _ _ => pg_name (i := 8) nd rfl (Or.inl rfl)) (fun _ _ _ _ _ => rts_one (rt_cmp (opNe h65) (re_get2 h1 (re_fld rfl T.a_needs (re_var 6)) (re_var 8) (re_ix h1 (re_var 4) (re_var 8))) (re_ix h1 (re_var 4) (re_var 8)))) (fun _ _ _ _ _ => (re_var 8))))
    (rs_one (rs_exp (re_meth T.cl_Reader T.me22 (nm_ne (by decide +kernel)) (re_var 0) (ok_22 T) (hr.mono (by first | decide | omega)) T.b22 (ra_cons (re_cmp (opNe h65) (re_var 7) (re_lst ra_nil)) ra_nil))))))))
    (rs_one (rs_exp (re_m1 (T := 0) PySem.F.plainAttrs_list PySem.F.slot_list_append PySem.F.type_list_append mAppend (by decide) (re_fld rfl T.a_links (re_fld rfl T.a_layout (re_var 0))) (re_new T.mk_Link (ok_16 T) (hr.mono (by first | decide | omega)) (by rfl) T.g_Link T.b16 (ra_cons (re_var 2) (ra_cons (re_var 3) (ra_cons (re_var 4) ra_nil)))))))))))))
end Mn
end

section
set_option Elab.async false
set_option linter.all false
set_option maxRecDepth 100000
set_option maxHeartbeats 4000000
namespace Mn
open PySem PySem.Spec L2 TL
theorem sc27 : FnScope ["self", "text", "words", "word", "end"] ["self", "text"] (defScope st27) := ⟨rfl, rfl, rfl, by decide +kernel, rfl, by decide +kernel, by decide +kernel⟩
theorem ok_27 {P : Program} {w : World} {K : PySem.W.Frag} {mg : Str → Option Value} {base : Heap} {cA fA : Nat → Addr} {fD : Nat → FuncData} (T : Fx K w mg cA fA fD) : FnOk P w K mg base (L2.CX P w) 4 (fA 27) (fD 27) ["self", "text"] (spOf (GT cA) K m_Reader_take) := by
  refine fs_of (N := ["self", "text", "words", "word", "end"]) (s := m_Reader_take_body) T.F27 sc27 (fun cdv A outer s0 H E hr => ?_)
  have h65 := units65 hr
  have h1 := units1 hr
  have nd := sc27.nd
  have hp := owns (P := P) (w := w) (K := K) (mg := mg) (base := base) (N := ["self", "text", "words", "word", "end"]) (qual := "Reader.take") (sc := defScope st27) (f := fA 27) (cd := cdv) (A := A) (outer := outer) (s := s0) (H := H) (E := E)
  exact (rs_cons (rs_set nd rfl (by first | exact .inl rfl | exact .inr rfl) (re_m1 (T := 2) PySem.F.plainAttrs_str PySem.F.slot_str_split PySem.F.type_str_split mSplit (by decide) (re_var 1) (re_str [32] (by decide +kernel) (by decide +kernel))))
    (rs_cons (rs_set nd rfl (by first | exact .inl rfl | exact .inr rfl) (re_ix h1 (re_var 2) re_int))
    (rs_cons (rs_exp (re_meth T.cl_Reader T.me22 (nm_ne (by decide +kernel)) (re_var 0) (ok_22 T) (hr.mono (by first | decide | omega)) T.b22 (ra_cons (re_cmp (opIn h65) (re_var 3) (re_fld rfl T.a_counts (re_var 0))) ra_nil)))
    (rs_cons (rs_setIx h1 (re_fld rfl T.a_counts (re_var 0)) (re_var 3) (re_op opAdd (re_ix h1 (re_fld rfl T.a_counts (re_var 0)) (re_var 3)) re_int))
    (rs_cons (rs_exp (re_meth T.cl_Reader T.me22 (nm_ne (by decide +kernel)) (re_var 0) (ok_22 T) (hr.mono (by first | decide | omega)) T.b22 (ra_cons (re_cmp opLe (re_ix h1 (re_fld rfl T.a_counts (re_var 0)) (re_var 3)) (re_tab (by rfl) T.g_MOST (re_var 3))) ra_nil)))
    (rs_one (rs_if (rt_cmp (opEq h65) (re_var 3) (re_str [115, 101, 99, 116, 105, 111, 110] (by decide +kernel) (by decide +kernel))) (rs_cons (rs_exp (re_meth T.cl_Reader T.me22 (nm_ne (by decide +kernel)) (re_var 0) (ok_22 T) (hr.mono (by first | decide | omega)) T.b22 (ra_cons (re_cmp (opEq h65) (re_b1 cLen (by rfl) T.z_len (by decide +kernel) (re_var 2)) re_int) ra_nil)))
    (rs_one (rs_exp (re_m1 (T := 0) PySem.F.plainAttrs_list PySem.F.slot_list_append PySem.F.type_list_append mAppend (by decide) (re_fld rfl T.a_sections (re_fld rfl T.a_layout (re_var 0))) (re_meth T.cl_Reader T.me23 (nm_ne (by decide +kernel)) (re_var 0) (ok_23 T) (hr.mono (by first | decide | omega)) T.b23 (ra_cons (re_ix h1 (re_var 2) re_int) ra_nil)))))) (rs_one (rs_if (rt_cmp (opEq h65) (re_var 3) (re_str [112, 111, 105, 110, 116] (by decide +kernel) (by decide +kernel))) (rs_cons (rs_exp (re_meth T.cl_Reader T.me22 (nm_ne (by decide +kernel)) (re_var 0) (ok_22 T) (hr.mono (by first | decide | omega)) T.b22 (ra_cons (re_and (re_cmp (opEq h65) (re_b1 cLen (by rfl) T.z_len (by decide +kernel) (re_var 2)) re_int) (re_and (re_cmp (opEq h65) (re_ix h1 (re_var 2) re_int) (re_str [105, 110] (by decide +kernel) (by decide +kernel))) (re_one (re_cmp (opIn h65) (re_ix h1 (re_var 2) re_int) (re_fld rfl T.a_sections (re_fld rfl T.a_layout (re_var 0))))))) ra_nil)))
    (rs_one (rs_setIx h1 (re_fld rfl T.a_points (re_fld rfl T.a_layout (re_var 0))) (re_meth T.cl_Reader T.me23 (nm_ne (by decide +kernel)) (re_var 0) (ok_23 T) (hr.mono (by first | decide | omega)) T.b23 (ra_cons (re_ix h1 (re_var 2) re_int) ra_nil)) (re_ix h1 (re_var 2) re_int)))) (rs_one (rs_if (rt_cmp (opEq h65) (re_var 3) (re_str [115, 105, 103, 110, 97, 108] (by decide +kernel) (by decide +kernel))) (rs_cons (rs_exp (re_meth T.cl_Reader T.me22 (nm_ne (by decide +kernel)) (re_var 0) (ok_22 T) (hr.mono (by first | decide | omega)) T.b22 (ra_cons (re_and (re_cmp (opEq h65) (re_b1 cLen (by rfl) T.z_len (by decide +kernel) (re_var 2)) re_int) (re_one (re_cmp (opEq h65) (re_ix h1 (re_var 2) re_int) (re_str [97, 116] (by decide +kernel) (by decide +kernel))))) ra_nil)))
    (rs_cons (rs_set nd rfl (by first | exact .inl rfl | exact .inr rfl) (re_meth T.cl_Reader T.me24 (nm_ne (by decide +kernel)) (re_var 0) (ok_24 T) (hr.mono (by first | decide | omega)) T.b24 (ra_cons (re_ix h1 (re_var 2) re_int) ra_nil)))
    (rs_cons (rs_exp (re_meth T.cl_Reader T.me22 (nm_ne (by decide +kernel)) (re_var 0) (ok_22 T) (hr.mono (by first | decide | omega)) T.b22 (ra_cons (re_isN (re_meth T.cl_Layout T.me20 (nm_ne (by decide +kernel)) (re_fld rfl T.a_layout (re_var 0)) (ok_20 T) (hr.mono (by first | decide | omega)) T.b20 (ra_cons (re_var 4) ra_nil))) ra_nil)))
    (rs_one (rs_setIx h1 (re_fld rfl T.a_signals (re_fld rfl T.a_layout (re_var 0))) (re_meth T.cl_Reader T.me23 (nm_ne (by decide +kernel)) (re_var 0) (ok_23 T) (hr.mono (by first | decide | omega)) T.b23 (ra_cons (re_ix h1 (re_var 2) re_int) ra_nil)) (re_var 4)))))) (rs_one (rs_exp (re_meth T.cl_Reader T.me26 (nm_ne (by decide +kernel)) (re_var 0) (ok_26 T) (hr.mono (by first | decide | omega)) T.b26 (ra_cons (re_var 2) ra_nil)))))))))))))))
end Mn
end

section
set_option Elab.async false
set_option linter.all false
set_option maxRecDepth 100000
set_option maxHeartbeats 4000000
namespace Mn
open PySem PySem.Spec L2 TL
theorem sc28 : FnScope ["text", "reader", "last", "number", "row", "word", "order"] ["text"] (defScope st28) := ⟨rfl, rfl, rfl, by decide +kernel, rfl, by decide +kernel, by decide +kernel⟩
theorem ok_28 {P : Program} {w : World} {K : PySem.W.Frag} {mg : Str → Option Value} {base : Heap} {cA fA : Nat → Addr} {fD : Nat → FuncData} (T : Fx K w mg cA fA fD) : FnOk P w K mg base (L2.CX P w) 5 (fA 28) (fD 28) ["text"] (spOf (GT cA) K m_read_layout) := by
  refine fs_of (N := ["text", "reader", "last", "number", "row", "word", "order"]) (s := m_read_layout_body) T.F28 sc28 (fun cdv A outer s0 H E hr => ?_)
  have h65 := units65 hr
  have h1 := units1 hr
  have nd := sc28.nd
  have hp := owns (P := P) (w := w) (K := K) (mg := mg) (base := base) (N := ["text", "reader", "last", "number", "row", "word", "order"]) (qual := "read_layout") (sc := defScope st28) (f := fA 28) (cd := cdv) (A := A) (outer := outer) (s := s0) (H := H) (E := E)
  exact (rs_cons (rs_set nd rfl (by first | exact .inl rfl | exact .inr rfl) (re_new0 T.mk_Reader (ok_21 T) (hr.mono (by first | decide | omega)) (by rfl) T.g_Reader T.b21))
    (rs_cons (rs_set nd rfl (by first | exact .inl rfl | exact .inr rfl) (re_str [] (by decide +kernel) (by decide +kernel)))
    (rs_cons (rs_for hp rfl (ri_enum (by rfl) T.z_enumerate (re_m1 (T := 2) PySem.F.plainAttrs_str PySem.F.slot_str_split PySem.F.type_str_split mSplit (by decide) (re_var 0) (re_str [10] (by decide +kernel) (by decide +kernel)))) (rg_tup rfl (rgs_cons (rg_name nd rfl (by first | exact .inl rfl | exact .inr rfl)) (rgs_cons (rg_name nd rfl (by first | exact .inl rfl | exact .inr rfl)) rgs_nil))) (rs_cons (rs_setFld rfl T.a_row (re_var 1) (re_var 3))
    (rs_cons (rs_exp (re_meth T.cl_Reader T.me27 (nm_ne (by decide +kernel)) (re_var 1) (ok_27 T) (hr.mono (by first | decide | omega)) T.b27 (ra_cons (re_var 4) ra_nil)))
    (rs_cons (rs_set nd rfl (by first | exact .inl rfl | exact .inr rfl) (re_ix h1 (re_m1 (T := 2) PySem.F.plainAttrs_str PySem.F.slot_str_split PySem.F.type_str_split mSplit (by decide) (re_var 4) (re_str [32] (by decide +kernel) (by decide +kernel))) re_int))
    (rs_cons (rs_set nd rfl (by first | exact .inl rfl | exact .inr rfl) (re_lst (ra_cons (re_str [115, 101, 99, 116, 105, 111, 110] (by decide +kernel) (by decide +kernel)) (ra_cons (re_str [112, 111, 105, 110, 116] (by decide +kernel) (by decide +kernel)) (ra_cons (re_str [108, 105, 110, 107] (by decide +kernel) (by decide +kernel)) (ra_cons (re_str [115, 105, 103, 110, 97, 108] (by decide +kernel) (by decide +kernel)) ra_nil))))))
    (rs_cons (rs_exp (re_meth T.cl_Reader T.me22 (nm_ne (by decide +kernel)) (re_var 1) (ok_22 T) (hr.mono (by first | decide | omega)) T.b22 (ra_cons (re_or (re_cmp (opEq h65) (re_var 2) (re_str [] (by decide +kernel) (by decide +kernel))) (re_one (re_cmp opLe (re_m1 (T := 0) PySem.F.plainAttrs_list PySem.F.slot_list_index PySem.F.type_list_index (mIndex h65) (by decide) (re_var 6) (re_var 2)) (re_m1 (T := 0) PySem.F.plainAttrs_list PySem.F.slot_list_index PySem.F.type_list_index (mIndex h65) (by decide) (re_var 6) (re_var 5))))) ra_nil)))
    (rs_one (rs_set nd rfl (by first | exact .inl rfl | exact .inr rfl) (re_var 5)))))))))
    (rs_one (rs_ret (re_fld rfl T.a_layout (re_var 1)))))))
end Mn
end

section
set_option Elab.async false
set_option linter.all false
set_option maxRecDepth 100000
set_option maxHeartbeats 4000000
namespace Mn
open PySem PySem.Spec L2 TL
theorem sc29 : FnScope ["_law_row", "_law_many", "_law_found", "_law_cell"] ["_law_row", "_law_many"] (defScope st29) := ⟨rfl, rfl, rfl, by decide +kernel, rfl, by decide +kernel, by decide +kernel⟩
theorem ok_29 {P : Program} {w : World} {K : PySem.W.Frag} {mg : Str → Option Value} {base : Heap} {cA fA : Nat → Addr} {fD : Nat → FuncData} (T : Fx K w mg cA fA fD) : FnOk P w K mg base (L2.CX P w) 1 (fA 29) (fD 29) ["_law_row", "_law_many"] (spOf (GT cA) K m_law_taken) := by
  refine fs_of (N := ["_law_row", "_law_many", "_law_found", "_law_cell"]) (s := m_law_taken_body) T.F29 sc29 (fun cdv A outer s0 H E hr => ?_)
  have h65 := units65 hr
  have h1 := units1 hr
  have nd := sc29.nd
  have hp := owns (P := P) (w := w) (K := K) (mg := mg) (base := base) (N := ["_law_row", "_law_many", "_law_found", "_law_cell"]) (qual := "_law_taken") (sc := defScope st29) (f := fA 29) (cd := cdv) (A := A) (outer := outer) (s := s0) (H := H) (E := E)
  exact (rs_cons (rs_if (rt_cmp opGt (re_ix h1 (re_var 0) re_int) re_int) (rs_cons (rs_set nd rfl (by first | exact .inl rfl | exact .inr rfl) (re_op opMod (re_ix h1 (re_var 0) re_int) (re_var 1)))
    (rs_cons (rs_setIx h1 (re_var 0) re_int (re_op opDiv (re_ix h1 (re_var 0) re_int) (re_var 1)))
    (rs_one (rs_ret (re_var 2))))) rs_nil)
    (rs_cons (rs_setIx h1 (re_var 0) re_int (re_op opAdd (re_ix h1 (re_var 0) re_int) re_int))
    (rs_cons (rs_if (rt_cmp opGt (re_ix h1 (re_var 0) re_int) (re_b1 cLen (by rfl) T.z_len (by decide +kernel) (re_ix h1 (re_var 0) re_int))) (rs_cons (rs_setIx h1 (re_var 0) re_int (re_op opMod (re_op opAdd (re_op opMul (re_ix h1 (re_var 0) re_int) re_int) re_int) re_int))
    (rs_one (rs_ret (re_op opMod (re_op opDiv (re_ix h1 (re_var 0) re_int) re_int) (re_var 1))))) rs_nil)
    (rs_cons (rs_set nd rfl (by first | exact .inl rfl | exact .inr rfl) (re_ix h1 (re_ix h1 (re_var 0) re_int) (re_op opSub (re_ix h1 (re_var 0) re_int) re_int)))
    (rs_cons (rs_setIx h1 (re_var 0) re_int (re_op opMod (re_op opAdd (re_op opAdd (re_op opMul (re_ix h1 (re_var 0) re_int) re_int) (re_var 3)) re_int) re_int))
    (rs_cons (rs_if (rt_cmp opGe (re_var 3) (re_op opPow re_int re_int)) (rs_one (rs_setIx h1 (re_var 0) re_int (re_op opDiv (re_var 3) (re_var 1)))) rs_nil)
    (rs_one (rs_ret (re_op opMod (re_var 3) (re_var 1))))))))))
end Mn
end

section
set_option Elab.async false
set_option linter.all false
set_option maxRecDepth 100000
set_option maxHeartbeats 4000000
namespace Mn
open PySem PySem.Spec L2 TL
theorem sc30 : FnScope ["_law_row", "_law_st", "_law_one", "_law_others", "_law_p", "_law_a", "_law_b", "_law_way", "_law_more", "_law_end", "_law_q", "_law_c"] ["_law_row", "_law_st", "_law_one", "_law_others"] (defScope st30) := ⟨rfl, rfl, rfl, by decide +kernel, rfl, by decide +kernel, by decide +kernel⟩
theorem ok_30 {P : Program} {w : World} {K : PySem.W.Frag} {mg : Str → Option Value} {base : Heap} {cA fA : Nat → Addr} {fD : Nat → FuncData} (T : Fx K w mg cA fA fD) : FnOk P w K mg base (L2.CX P w) 2 (fA 30) (fD 30) ["_law_row", "_law_st", "_law_one", "_law_others"] (spOf (GT cA) K m_law_spread) := by
  refine fs_of (N := ["_law_row", "_law_st", "_law_one", "_law_others", "_law_p", "_law_a", "_law_b", "_law_way", "_law_more", "_law_end", "_law_q", "_law_c"]) (s := m_law_spread_body) T.F30 sc30 (fun cdv A outer s0 H E hr => ?_)
  have h65 := units65 hr
  have h1 := units1 hr
  have nd := sc30.nd
  have hp := owns (P := P) (w := w) (K := K) (mg := mg) (base := base) (N := ["_law_row", "_law_st", "_law_one", "_law_others", "_law_p", "_law_a", "_law_b", "_law_way", "_law_more", "_law_end", "_law_q", "_law_c"]) (qual := "_law_spread") (sc := defScope st30) (f := fA 30) (cd := cdv) (A := A) (outer := outer) (s := s0) (H := H) (E := E)
  exact (rs_cons (rs_set nd rfl (by first | exact .inl rfl | exact .inr rfl) (re_op opAdd (re_str [112] (by decide +kernel) (by decide +kernel)) (re_t1 cStr (by rfl) T.z_str (by decide +kernel) (re_op opMod (re_op opAdd (re_ix h1 (re_var 1) (re_str [116, 117, 114, 110] (by decide +kernel) (by decide +kernel))) (re_op opMul re_int (re_b1 cLen (by rfl) T.z_len (by decide +kernel) (re_ix h1 (re_var 1) (re_str [112, 111, 105, 110, 116, 115] (by decide +kernel) (by decide +kernel)))))) re_int))))
    (rs_cons (rs_setIx h1 (re_ix h1 (re_var 1) (re_str [112, 111, 105, 110, 116, 115] (by decide +kernel) (by decide +kernel))) (re_var 4) (re_ix h1 (re_var 2) re_int))
    (rs_cons (rs_set nd rfl (by first | exact .inl rfl | exact .inr rfl) (re_m1 (T := 0) PySem.F.plainAttrs_list PySem.F.slot_list_pop PySem.F.type_list_pop mPopL (by decide) (re_var 3) (re_call (ok_29 T) (hr.mono (by first | decide | omega)) (by rfl) T.g__law_taken T.F29.kp T.b29 (ra_cons (re_var 0) (ra_cons (re_b1 cLen (by rfl) T.z_len (by decide +kernel) (re_var 3)) ra_nil)))))
    (rs_cons (rs_set nd rfl (by first | exact .inl rfl | exact .inr rfl) (re_m1 (T := 0) PySem.F.plainAttrs_list PySem.F.slot_list_pop PySem.F.type_list_pop mPopL (by decide) (re_var 3) (re_call (ok_29 T) (hr.mono (by first | decide | omega)) (by rfl) T.g__law_taken T.F29.kp T.b29 (ra_cons (re_var 0) (ra_cons (re_b1 cLen (by rfl) T.z_len (by decide +kernel) (re_var 3)) ra_nil)))))
    (rs_cons (rs_exp (re_m1 (T := 0) PySem.F.plainAttrs_list PySem.F.slot_list_append PySem.F.type_list_append mAppend (by decide) (re_ix h1 (re_var 1) (re_str [108, 105, 110, 107, 115] (by decide +kernel) (by decide +kernel))) (re_tup (ra_cons (re_var 2) (ra_cons (re_var 5) (ra_cons (re_dct (rps_cons (re_var 4) (re_str [110] (by decide +kernel) (by decide +kernel)) rps_nil)) ra_nil))))))
    (rs_cons (rs_set nd rfl (by first | exact .inl rfl | exact .inr rfl) (re_call (ok_29 T) (hr.mono (by first | decide | omega)) (by rfl) T.g__law_taken T.F29.kp T.b29 (ra_cons (re_var 0) (ra_cons re_int ra_nil))))
    (rs_cons (rs_setLc (j := 8) rfl nd rfl rfl (sw_true rfl rfl rfl (by decide +kernel)) (ri_list (re_var 3)) (blkOk_by (N := ["_law_row", "_law_st", "_law_one", "_law_others", "_law_p", "_law_a", "_law_b", "_law_way", "_law_more", "_law_end", "_law_q", "_law_c"]) (sc := defScope st30) (by decide +kernel)) (fun _ _ _ _ _ => pg_name (i := 9) nd rfl (Or.inl rfl)) (fun _ _ _ _ _ => rts_one (rt_of (rw_or (rt_cmp (opNe h65) (re_ix h1 (re_var 9) re_int) (re_ix h1 (re_var 6) re_int)) (rw_or1 (rt_cmp (opEq h65) (re_var 7) re_int))))) (fun _ _ _ _ _ => (re_var 9)))
    (rs_cons (rs_if (rt_of (rw_or (rt_cmp (opEq h65) (re_var 8) (re_lst ra_nil)) (rw_or1 (rt_cmp opLt (re_var 7) re_int)))) (rs_cons (rs_exp (re_m1 (T := 0) PySem.F.plainAttrs_list PySem.F.slot_list_append PySem.F.type_list_append mAppend (by decide) (re_ix h1 (re_var 1) (re_str [108, 105, 110, 107, 115] (by decide +kernel) (by decide +kernel))) (re_tup (ra_cons (re_var 2) (ra_cons (re_var 6) (ra_cons (re_dct (rps_cons (re_var 4) (re_str [114] (by decide +kernel) (by decide +kernel)) rps_nil)) ra_nil))))))
    (rs_one (rs_ret (re_lst (ra_cons (re_var 5) (ra_cons (re_var 6) ra_nil)))))) rs_nil)
    (rs_cons (rs_set nd rfl (by first | exact .inl rfl | exact .inr rfl) (re_op opAdd (re_str [112] (by decide +kernel) (by decide +kernel)) (re_t1 cStr (by rfl) T.z_str (by decide +kernel) (re_op opMod (re_op opAdd (re_ix h1 (re_var 1) (re_str [116, 117, 114, 110] (by decide +kernel) (by decide +kernel))) (re_op opMul re_int (re_b1 cLen (by rfl) T.z_len (by decide +kernel) (re_ix h1 (re_var 1) (re_str [112, 111, 105, 110, 116, 115] (by decide +kernel) (by decide +kernel)))))) re_int))))
    (rs_cons (rs_set nd rfl (by first | exact .inl rfl | exact .inr rfl) (re_ix h1 (re_var 8) (re_call (ok_29 T) (hr.mono (by first | decide | omega)) (by rfl) T.g__law_taken T.F29.kp T.b29 (ra_cons (re_var 0) (ra_cons (re_b1 cLen (by rfl) T.z_len (by decide +kernel) (re_var 8)) ra_nil)))))
    (rs_cons (rs_setIx h1 (re_ix h1 (re_var 1) (re_str [112, 111, 105, 110, 116, 115] (by decide +kernel) (by decide +kernel))) (re_var 10) (re_ix h1 (re_lst (ra_cons (re_ix h1 (re_var 6) re_int) (ra_cons (re_ix h1 (re_var 2) re_int) ra_nil))) (re_op opSub (re_var 7) re_int)))
    (rs_cons (rs_exp (re_m1 (T := 0) PySem.F.plainAttrs_list PySem.F.slot_list_append PySem.F.type_list_append mAppend (by decide) (re_ix h1 (re_var 1) (re_str [108, 105, 110, 107, 115] (by decide +kernel) (by decide +kernel))) (re_tup (ra_cons (re_var 2) (ra_cons (re_var 6) (ra_cons (re_dct (rps_cons (re_var 4) (re_str [114] (by decide +kernel) (by decide +kernel)) (rps_cons (re_var 10) (re_str [110] (by decide +kernel) (by decide +kernel)) rps_nil))) ra_nil))))))
    (rs_cons (rs_exp (re_m1 (T := 0) PySem.F.plainAttrs_list PySem.F.slot_list_append PySem.F.type_list_append mAppend (by decide) (re_ix h1 (re_var 1) (re_str [108, 105, 110, 107, 115] (by decide +kernel) (by decide +kernel))) (re_tup (ra_cons (re_ix h1 (re_lst (ra_cons (re_var 11) (ra_cons (re_var 2) ra_nil))) (re_op opSub (re_var 7) re_int)) (ra_cons (re_ix h1 (re_lst (ra_cons (re_var 6) (ra_cons (re_var 11) ra_nil))) (re_op opSub (re_var 7) re_int)) (ra_cons (re_ix h1 (re_lst (ra_cons (re_dct (rps_cons (re_var 10) (re_str [114] (by decide +kernel) (by decide +kernel)) rps_nil)) (ra_cons (re_dct (rps_cons (re_var 4) (re_str [114] (by decide +kernel) (by decide +kernel)) (rps_cons (re_var 10) (re_str [114] (by decide +kernel) (by decide +kernel)) rps_nil))) ra_nil))) (re_op opSub (re_var 7) re_int)) ra_nil))))))
    (rs_one (rs_ret (re_lst (ra_cons (re_var 5) (ra_cons (re_var 6) (ra_cons (re_var 11) ra_nil)))))))))))))))))))
end Mn
end

section
set_option Elab.async false
set_option linter.all false
set_option maxRecDepth 100000
set_option maxHeartbeats 4000000
namespace Mn
open PySem PySem.Spec L2 TL
theorem sc31 : FnScope ["_law_row", "_law_turn", "_law_st", "_law_k", "_law_names", "_law_j"] ["_law_row"] (defScope st31) := ⟨rfl, rfl, rfl, by decide +kernel, rfl, by decide +kernel, by decide +kernel⟩
theorem ok_31 {P : Program} {w : World} {K : PySem.W.Frag} {mg : Str → Option Value} {base : Heap} {cA fA : Nat → Addr} {fD : Nat → FuncData} (T : Fx K w mg cA fA fD) : FnOk P w K mg base (L2.CX P w) 2 (fA 31) (fD 31) ["_law_row"] (spOf (GT cA) K m_law_tracks) := by
  refine fs_of (N := ["_law_row", "_law_turn", "_law_st", "_law_k", "_law_names", "_law_j"]) (s := m_law_tracks_body) T.F31 sc31 (fun cdv A outer s0 H E hr => ?_)
  have h65 := units65 hr
  have h1 := units1 hr
  have nd := sc31.nd
  have hp := owns (P := P) (w := w) (K := K) (mg := mg) (base := base) (N := ["_law_row", "_law_turn", "_law_st", "_law_k", "_law_names", "_law_j"]) (qual := "_law_tracks") (sc := defScope st31) (f := fA 31) (cd := cdv) (A := A) (outer := outer) (s := s0) (H := H) (E := E)
  exact (rs_cons (rs_set nd rfl (by first | exact .inl rfl | exact .inr rfl) (re_call (ok_29 T) (hr.mono (by first | decide | omega)) (by rfl) T.g__law_taken T.F29.kp T.b29 (ra_cons (re_var 0) (ra_cons re_int ra_nil))))
    (rs_cons (rs_set nd rfl (by first | exact .inl rfl | exact .inr rfl) (re_dct (rps_cons (re_str [115, 101, 99, 116, 105, 111, 110, 115] (by decide +kernel) (by decide +kernel)) (re_lst ra_nil) (rps_cons (re_str [112, 111, 105, 110, 116, 115] (by decide +kernel) (by decide +kernel)) re_d0 (rps_cons (re_str [108, 105, 110, 107, 115] (by decide +kernel) (by decide +kernel)) (re_lst ra_nil) (rps_cons (re_str [115, 105, 103, 110, 97, 108, 115] (by decide +kernel) (by decide +kernel)) re_d0 (rps_cons (re_str [116, 117, 114, 110] (by decide +kernel) (by decide +kernel)) (re_var 1) rps_nil)))))))
    (rs_cons (rs_for hp rfl (ri_rng1 (by rfl) T.z_range (re_op opAdd re_int (re_call (ok_29 T) (hr.mono (by first | decide | omega)) (by rfl) T.g__law_taken T.F29.kp T.b29 (ra_cons (re_var 0) (ra_cons re_int ra_nil))))) (rg_name nd rfl (by first | exact .inl rfl | exact .inr rfl)) (rs_cons (rs_setLc (j := 4) rfl nd rfl rfl (sw_true rfl rfl rfl (by decide +kernel)) (ri_rng1 (by rfl) T.z_range (re_op opAdd re_int (re_call (ok_29 T) (hr.mono (by first | decide | omega)) (by rfl) T.g__law_taken T.F29.kp T.b29 (ra_cons (re_var 0) (ra_cons re_int ra_nil))))) (blkOk_by (N := ["_law_row", "_law_turn", "_law_st", "_law_k", "_law_names", "_law_j"]) (sc := defScope st31) (by decide +kernel)) (fun _ _ _ _ _ => pg_name (i := 5) nd rfl (Or.inl rfl)) (fun _ _ _ _ _ => rts_nil) (fun _ _ _ _ _ => (re_op opAdd (re_ix h1 (re_str [97, 98, 99, 100, 101] (by decide +kernel) (by decide +kernel)) (re_var 5)) (re_t1 cStr (by rfl) T.z_str (by decide +kernel) (re_op opMod (re_op opAdd (re_var 1) (re_op opMul re_int (re_var 3))) re_int)))))
    (rs_cons (rs_setIx h1 (re_var 2) (re_str [115, 101, 99, 116, 105, 111, 110, 115] (by decide +kernel) (by decide +kernel)) (re_op opAdd (re_ix h1 (re_var 2) (re_str [115, 101, 99, 116, 105, 111, 110, 115] (by decide +kernel) (by decide +kernel))) (re_var 4)))
    (rs_cons (rs_setIx h1 (re_ix h1 (re_var 2) (re_str [115, 105, 103, 110, 97, 108, 115] (by decide +kernel) (by decide +kernel))) (re_op opAdd (re_str [122] (by decide +kernel) (by decide +kernel)) (re_t1 cStr (by rfl) T.z_str (by decide +kernel) (re_op opMod (re_op opAdd (re_var 1) (re_op opMul re_int (re_var 3))) re_int))) (re_tup (ra_cons (re_ix h1 (re_var 4) re_int) (ra_cons re_int ra_nil))))
    (rs_one (rs_for hp rfl (ri_rng1 (by rfl) T.z_range (re_op opSub (re_b1 cLen (by rfl) T.z_len (by decide +kernel) (re_var 4)) re_int)) (rg_name nd rfl (by first | exact .inl rfl | exact .inr rfl)) (rs_one (rs_exp (re_m1 (T := 0) PySem.F.plainAttrs_list PySem.F.slot_list_append PySem.F.type_list_append mAppend (by decide) (re_ix h1 (re_var 2) (re_str [108, 105, 110, 107, 115] (by decide +kernel) (by decide +kernel))) (re_tup (ra_cons (re_tup (ra_cons (re_ix h1 (re_var 4) (re_var 5)) (ra_cons re_int ra_nil))) (ra_cons (re_tup (ra_cons (re_ix h1 (re_var 4) (re_op opAdd (re_var 5) re_int)) (ra_cons re_int ra_nil))) (ra_cons re_d0 ra_nil)))))))))))))
    (rs_one (rs_ret (re_var 2))))))
end Mn
end

section
set_option Elab.async false
set_option linter.all false
set_option maxRecDepth 100000
set_option maxHeartbeats 4000000
namespace Mn
open PySem PySem.Spec L2 TL
theorem sc32 : FnScope ["_law_row", "_law_word", "_law_turn", "_law_names", "_law_k", "_law_st", "_law_free", "_law_name", "_law_one", "_law_others", "_law_end", "_law_used", "_law_other", "_law_side"] ["_law_row"] (defScope st32) := ⟨rfl, rfl, rfl, by decide +kernel, rfl, by decide +kernel, by decide +kernel⟩
theorem ok_32 {P : Program} {w : World} {K : PySem.W.Frag} {mg : Str → Option Value} {base : Heap} {cA fA : Nat → Addr} {fD : Nat → FuncData} (T : Fx K w mg cA fA fD) : FnOk P w K mg base (L2.CX P w) 3 (fA 32) (fD 32) ["_law_row"] (spOf (GT cA) K m_law_station) := by
  refine fs_of (N := ["_law_row", "_law_word", "_law_turn", "_law_names", "_law_k", "_law_st", "_law_free", "_law_name", "_law_one", "_law_others", "_law_end", "_law_used", "_law_other", "_law_side"]) (s := m_law_station_body) T.F32 sc32 (fun cdv A outer s0 H E hr => ?_)
  have h65 := units65 hr
  have h1 := units1 hr
  have nd := sc32.nd
  have hp := owns (P := P) (w := w) (K := K) (mg := mg) (base := base) (N := ["_law_row", "_law_word", "_law_turn", "_law_names", "_law_k", "_law_st", "_law_free", "_law_name", "_law_one", "_law_others", "_law_end", "_law_used", "_law_other", "_law_side"]) (qual := "_law_station") (sc := defScope st32) (f := fA 32) (cd := cdv) (A := A) (outer := outer) (s := s0) (H := H) (E := E)
  exact (rs_cons (rs_if (rt_cmp (opEq h65) (re_call (ok_29 T) (hr.mono (by first | decide | omega)) (by rfl) T.g__law_taken T.F29.kp T.b29 (ra_cons (re_var 0) (ra_cons re_int ra_nil))) re_int) (rs_one (rs_ret (re_call (ok_31 T) (hr.mono (by first | decide | omega)) (by rfl) T.g__law_tracks T.F31.kp T.b31 (ra_cons (re_var 0) ra_nil)))) rs_nil)
    (rs_cons (rs_set nd rfl (by first | exact .inl rfl | exact .inr rfl) (re_op opMul (re_ix h1 (re_str [97, 98, 99, 100, 101, 102, 103, 104, 105, 106, 107, 108, 109, 110, 111, 113, 114, 115, 116, 117, 118, 119, 120, 121] (by decide +kernel) (by decide +kernel)) (re_call (ok_29 T) (hr.mono (by first | decide | omega)) (by rfl) T.g__law_taken T.F29.kp T.b29 (ra_cons (re_var 0) (ra_cons re_int ra_nil)))) (re_op opAdd re_int (re_call (ok_29 T) (hr.mono (by first | decide | omega)) (by rfl) T.g__law_taken T.F29.kp T.b29 (ra_cons (re_var 0) (ra_cons re_int ra_nil))))))
    (rs_cons (rs_set nd rfl (by first | exact .inl rfl | exact .inr rfl) (re_call (ok_29 T) (hr.mono (by first | decide | omega)) (by rfl) T.g__law_taken T.F29.kp T.b29 (ra_cons (re_var 0) (ra_cons re_int ra_nil))))
    (rs_cons (rs_setLc (j := 3) rfl nd rfl rfl (sw_true rfl rfl rfl (by decide +kernel)) (ri_rng1 (by rfl) T.z_range (re_op opAdd re_int (re_call (ok_29 T) (hr.mono (by first | decide | omega)) (by rfl) T.g__law_taken T.F29.kp T.b29 (ra_cons (re_var 0) (ra_cons re_int ra_nil))))) (blkOk_by (N := ["_law_row", "_law_word", "_law_turn", "_law_names", "_law_k", "_law_st", "_law_free", "_law_name", "_law_one", "_law_others", "_law_end", "_law_used", "_law_other", "_law_side"]) (sc := defScope st32) (by decide +kernel)) (fun _ _ _ _ _ => pg_name (i := 4) nd rfl (Or.inl rfl)) (fun _ _ _ _ _ => rts_nil) (fun _ _ _ _ _ => (re_op opAdd (re_var 1) (re_t1 cStr (by rfl) T.z_str (by decide +kernel) (re_op opMod (re_op opAdd (re_var 2) (re_op opMul re_int (re_var 4))) re_int)))))
    (rs_cons (rs_set nd rfl (by first | exact .inl rfl | exact .inr rfl) (re_dct (rps_cons (re_str [115, 101, 99, 116, 105, 111, 110, 115] (by decide +kernel) (by decide +kernel)) (re_var 3) (rps_cons (re_str [112, 111, 105, 110, 116, 115] (by decide +kernel) (by decide +kernel)) re_d0 (rps_cons (re_str [108, 105, 110, 107, 115] (by decide +kernel) (by decide +kernel)) (re_lst ra_nil) (rps_cons (re_str [115, 105, 103, 110, 97, 108, 115] (by decide +kernel) (by decide +kernel)) re_d0 (rps_cons (re_str [116, 117, 114, 110] (by decide +kernel) (by decide +kernel)) (re_var 2) rps_nil)))))))
    (rs_cons (rs_set nd rfl (by first | exact .inl rfl | exact .inr rfl) (re_op opAdd (re_lc rfl nd (ri_list (re_var 3)) (blkOk_by (N := ["_law_row", "_law_word", "_law_turn", "_law_names", "_law_k", "_law_st", "_law_free", "_law_name", "_law_one", "_law_others", "_law_end", "_law_used", "_law_other", "_law_side"]) (sc := defScope st32) (by decide +kernel)) (fun _ _ _ _ _ => pg_name (i := 7) nd rfl (Or.inl rfl)) (fun _ _ _ _ _ => rts_nil) (fun _ _ _ _ _ => (re_tup (ra_cons (re_var 7) (ra_cons re_int ra_nil))))) (re_lc rfl nd (ri_list (re_var 3)) (blkOk_by (N := ["_law_row", "_law_word", "_law_turn", "_law_names", "_law_k", "_law_st", "_law_free", "_law_name", "_law_one", "_law_others", "_law_end", "_law_used", "_law_other", "_law_side"]) (sc := defScope st32) (by decide +kernel)) (fun _ _ _ _ _ => pg_name (i := 7) nd rfl (Or.inl rfl)) (fun _ _ _ _ _ => rts_nil) (fun _ _ _ _ _ => (re_tup (ra_cons (re_var 7) (ra_cons re_int ra_nil)))))))
    (rs_cons (rs_for hp rfl (ri_rng1 (by rfl) T.z_range (re_call (ok_29 T) (hr.mono (by first | decide | omega)) (by rfl) T.g__law_taken T.F29.kp T.b29 (ra_cons (re_var 0) (ra_cons re_int ra_nil)))) (rg_name nd rfl (by first | exact .inl rfl | exact .inr rfl)) (rs_cons (rs_set nd rfl (by first | exact .inl rfl | exact .inr rfl) (re_if (rt_cmp (opNe h65) (re_var 6) (re_lst ra_nil)) (re_ix h1 (re_var 6) (re_call (ok_29 T) (hr.mono (by first | decide | omega)) (by rfl) T.g__law_taken T.F29.kp T.b29 (ra_cons (re_var 0) (ra_cons (re_b1 cLen (by rfl) T.z_len (by decide +kernel) (re_var 6)) ra_nil)))) (re_tup (ra_cons (re_str [] (by decide +kernel) (by decide +kernel)) (ra_cons re_int ra_nil)))))
    (rs_cons (rs_setLc (j := 9) rfl nd rfl rfl (sw_true rfl rfl rfl (by decide +kernel)) (ri_list (re_var 6)) (blkOk_by (N := ["_law_row", "_law_word", "_law_turn", "_law_names", "_law_k", "_law_st", "_law_free", "_law_name", "_law_one", "_law_others", "_law_end", "_law_used", "_law_other", "_law_side"]) (sc := defScope st32) (by decide +kernel)) (fun _ _ _ _ _ => pg_name (i := 10) nd rfl (Or.inl rfl)) (fun _ _ _ _ _ => rts_one (rt_cmp (opNe h65) (re_ix h1 (re_var 10) re_int) (re_ix h1 (re_var 8) re_int))) (fun _ _ _ _ _ => (re_var 10)))
    (rs_cons (rs_set nd rfl (by first | exact .inl rfl | exact .inr rfl) (re_lst (ra_cons (re_var 8) ra_nil)))
    (rs_cons (rs_if (rt_of (rw_and (rt_cmp opGt (re_b1 cLen (by rfl) T.z_len (by decide +kernel) (re_var 9)) re_int) (rw_and (rt_cmp opLt (re_b1 cLen (by rfl) T.z_len (by decide +kernel) (re_ix h1 (re_var 5) (re_str [112, 111, 105, 110, 116, 115] (by decide +kernel) (by decide +kernel)))) re_int) (rw_and1 (rt_cmp (opEq h65) (re_call (ok_29 T) (hr.mono (by first | decide | omega)) (by rfl) T.g__law_taken T.F29.kp T.b29 (ra_cons (re_var 0) (ra_cons re_int ra_nil))) re_int))))) (rs_one (rs_set nd rfl (by first | exact .inl rfl | exact .inr rfl) (re_op opAdd (re_var 11) (re_call (ok_30 T) (hr.mono (by first | decide | omega)) (by rfl) T.g__law_spread T.F30.kp T.b30 (ra_cons (re_var 0) (ra_cons (re_var 5) (ra_cons (re_var 8) (ra_cons (re_var 9) ra_nil)))))))) (rs_one (rs_if (rt_cmp (opNe h65) (re_var 9) (re_lst ra_nil)) (rs_cons (rs_set nd rfl (by first | exact .inl rfl | exact .inr rfl) (re_ix h1 (re_var 9) (re_call (ok_29 T) (hr.mono (by first | decide | omega)) (by rfl) T.g__law_taken T.F29.kp T.b29 (ra_cons (re_var 0) (ra_cons (re_b1 cLen (by rfl) T.z_len (by decide +kernel) (re_var 9)) ra_nil)))))
    (rs_cons (rs_exp (re_m1 (T := 0) PySem.F.plainAttrs_list PySem.F.slot_list_append PySem.F.type_list_append mAppend (by decide) (re_ix h1 (re_var 5) (re_str [108, 105, 110, 107, 115] (by decide +kernel) (by decide +kernel))) (re_tup (ra_cons (re_var 8) (ra_cons (re_var 12) (ra_cons re_d0 ra_nil))))))
    (rs_one (rs_exp (re_m1 (T := 0) PySem.F.plainAttrs_list PySem.F.slot_list_append PySem.F.type_list_append mAppend (by decide) (re_var 11) (re_var 12)))))) rs_nil)))
    (rs_one (rs_setLc (j := 6) rfl nd rfl rfl (sw_true rfl rfl rfl (by decide +kernel)) (ri_list (re_var 6)) (blkOk_by (N := ["_law_row", "_law_word", "_law_turn", "_law_names", "_law_k", "_law_st", "_law_free", "_law_name", "_law_one", "_law_others", "_law_end", "_law_used", "_law_other", "_law_side"]) (sc := defScope st32) (by decide +kernel)) (fun _ _ _ _ _ => pg_name (i := 10) nd rfl (Or.inl rfl)) (fun _ _ _ _ _ => rts_one (rt_cmp (opNotIn h65) (re_var 10) (re_var 11))) (fun _ _ _ _ _ => (re_var 10)))))))))
    (rs_cons (rs_for hp rfl (ri_list (re_var 3)) (rg_name nd rfl (by first | exact .inl rfl | exact .inr rfl)) (rs_one (rs_for hp rfl (ri_rng1 (by rfl) T.z_range re_int) (rg_name nd rfl (by first | exact .inl rfl | exact .inr rfl)) (rs_one (rs_if (rt_of (rw_and (rt_cmp opGt (re_call (ok_29 T) (hr.mono (by first | decide | omega)) (by rfl) T.g__law_taken T.F29.kp T.b29 (ra_cons (re_var 0) (ra_cons re_int ra_nil))) re_int) (rw_and1 (rt_cmp opLt (re_b1 cLen (by rfl) T.z_len (by decide +kernel) (re_ix h1 (re_var 5) (re_str [115, 105, 103, 110, 97, 108, 115] (by decide +kernel) (by decide +kernel)))) re_int)))) (rs_one (rs_setIx h1 (re_ix h1 (re_var 5) (re_str [115, 105, 103, 110, 97, 108, 115] (by decide +kernel) (by decide +kernel))) (re_op opAdd (re_str [122] (by decide +kernel) (by decide +kernel)) (re_t1 cStr (by rfl) T.z_str (by decide +kernel) (re_op opMod (re_op opAdd (re_var 2) (re_op opMul re_int (re_b1 cLen (by rfl) T.z_len (by decide +kernel) (re_ix h1 (re_var 5) (re_str [115, 105, 103, 110, 97, 108, 115] (by decide +kernel) (by decide +kernel)))))) re_int))) (re_tup (ra_cons (re_var 7) (ra_cons (re_var 13) ra_nil))))) rs_nil)))))
    (rs_one (rs_ret (re_var 5)))))))))))
end Mn
end

section
set_option Elab.async false
set_option linter.all false
set_option maxRecDepth 100000
set_option maxHeartbeats 4000000
namespace Mn
open PySem PySem.Spec L2 TL
theorem sc33 : FnScope ["_law_end"] ["_law_end"] (defScope st33) := ⟨rfl, rfl, rfl, by decide +kernel, rfl, by decide +kernel, by decide +kernel⟩
theorem ok_33 {P : Program} {w : World} {K : PySem.W.Frag} {mg : Str → Option Value} {base : Heap} {cA fA : Nat → Addr} {fD : Nat → FuncData} (T : Fx K w mg cA fA fD) : FnOk P w K mg base (L2.CX P w) 1 (fA 33) (fD 33) ["_law_end"] (spOf (GT cA) K m_law_end_text) := by
  refine fs_of (N := ["_law_end"]) (s := m_law_end_text_body) T.F33 sc33 (fun cdv A outer s0 H E hr => ?_)
  have h65 := units65 hr
  have h1 := units1 hr
  have nd := sc33.nd
  have hp := owns (P := P) (w := w) (K := K) (mg := mg) (base := base) (N := ["_law_end"]) (qual := "_law_end_text") (sc := defScope st33) (f := fA 33) (cd := cdv) (A := A) (outer := outer) (s := s0) (H := H) (E := E)
  exact (rs_one (rs_ret (re_op opAdd (re_op opAdd (re_ix h1 (re_var 0) re_int) (re_str [46] (by decide +kernel) (by decide +kernel))) (re_t1 cStr (by rfl) T.z_str (by decide +kernel) (re_ix h1 (re_var 0) re_int)))))
end Mn
end

section
set_option Elab.async false
set_option linter.all false
set_option maxRecDepth 100000
set_option maxHeartbeats 4000000
namespace Mn
open PySem PySem.Spec L2 TL
theorem sc34 : FnScope ["_law_st", "_law_rows", "_law_name", "_law_one", "_law_other", "_law_needs", "_law_told", "_law_point"] ["_law_st"] (defScope st34) := ⟨rfl, rfl, rfl, by decide +kernel, rfl, by decide +kernel, by decide +kernel⟩
theorem ok_34 {P : Program} {w : World} {K : PySem.W.Frag} {mg : Str → Option Value} {base : Heap} {cA fA : Nat → Addr} {fD : Nat → FuncData} (T : Fx K w mg cA fA fD) : FnOk P w K mg base (L2.CX P w) 2 (fA 34) (fD 34) ["_law_st"] (spOf (GT cA) K m_law_text) := by
  refine fs_of (N := ["_law_st", "_law_rows", "_law_name", "_law_one", "_law_other", "_law_needs", "_law_told", "_law_point"]) (s := m_law_text_body) T.F34 sc34 (fun cdv A outer s0 H E hr => ?_)
  have h65 := units65 hr
  have h1 := units1 hr
  have nd := sc34.nd
  have hp := owns (P := P) (w := w) (K := K) (mg := mg) (base := base) (N := ["_law_st", "_law_rows", "_law_name", "_law_one", "_law_other", "_law_needs", "_law_told", "_law_point"]) (qual := "_law_text") (sc := defScope st34) (f := fA 34) (cd := cdv) (A := A) (outer := outer) (s := s0) (H := H) (E := E)
  exact (rs_cons (rs_setLc (j := 1) rfl nd rfl rfl (sw_true rfl rfl rfl (by decide +kernel)) (ri_list (re_ix h1 (re_var 0) (re_str [115, 101, 99, 116, 105, 111, 110, 115] (by decide +kernel) (by decide +kernel)))) (blkOk_by (N := ["_law_st", "_law_rows", "_law_name", "_law_one", "_law_other", "_law_needs", "_law_told", "_law_point"]) (sc := defScope st34) (by decide +kernel)) (fun _ _ _ _ _ => pg_name (i := 2) nd rfl (Or.inl rfl)) (fun _ _ _ _ _ => rts_nil) (fun _ _ _ _ _ => (re_op opAdd (re_str [115, 101, 99, 116, 105, 111, 110, 32] (by decide +kernel) (by decide +kernel)) (re_var 2))))
    (rs_cons (rs_set nd rfl (by first | exact .inl rfl | exact .inr rfl) (re_op opAdd (re_var 1) (re_lock (ea := (eOp pIx (eV 0) (eC (.str [112, 111, 105, 110, 116, 115])))) (re_lc rfl nd (ri_keys (re_ix h1 (re_var 0) (re_str [112, 111, 105, 110, 116, 115] (by decide +kernel) (by decide +kernel)))) (blkOk_by (N := ["_law_st", "_law_rows", "_law_name", "_law_one", "_law_other", "_law_needs", "_law_told", "_law_point"]) (sc := defScope st34) (by decide +kernel)) (fun _ _ _ _ _ => pg_name (i := 2) nd rfl (Or.inl rfl)) (fun _ _ _ _ _ => rts_nil) (fun _ _ _ _ _ => (re_op opAdd (re_op opAdd (re_op opAdd (re_str [112, 111, 105, 110, 116, 32] (by decide +kernel) (by decide +kernel)) (re_var 2)) (re_str [32, 105, 110, 32] (by decide +kernel) (by decide +kernel))) (re_ix h1 (re_ix h1 (re_var 0) (re_str [112, 111, 105, 110, 116, 115] (by decide +kernel) (by decide +kernel))) (re_var 2))))))))
    (rs_cons (rs_for hp rfl (ri_list (re_ix h1 (re_var 0) (re_str [108, 105, 110, 107, 115] (by decide +kernel) (by decide +kernel)))) (rg_tup rfl (rgs_cons (rg_name nd rfl (by first | exact .inl rfl | exact .inr rfl)) (rgs_cons (rg_name nd rfl (by first | exact .inl rfl | exact .inr rfl)) (rgs_cons (rg_name nd rfl (by first | exact .inl rfl | exact .inr rfl)) rgs_nil)))) (rs_cons (rs_set nd rfl (by first | exact .inl rfl | exact .inr rfl) (re_op opAdd (re_op opAdd (re_op opAdd (re_str [108, 105, 110, 107, 32] (by decide +kernel) (by decide +kernel)) (re_call (ok_33 T) (hr.mono (by first | decide | omega)) (by rfl) T.g__law_end_text T.F33.kp T.b33 (ra_cons (re_var 3) ra_nil))) (re_str [32] (by decide +kernel) (by decide +kernel))) (re_call (ok_33 T) (hr.mono (by first | decide | omega)) (by rfl) T.g__law_end_text T.F33.kp T.b33 (ra_cons (re_var 4) ra_nil))))
    (rs_cons (rs_if (rt_cmp (opNe h65) (re_var 5) re_d0) (rs_one (rs_set nd rfl (by first | exact .inl rfl | exact .inr rfl) (re_op opAdd (re_op opAdd (re_var 6) (re_str [32, 119, 104, 101, 110, 32] (by decide +kernel) (by decide +kernel))) (re_m1 (T := 2) PySem.F.plainAttrs_str PySem.F.slot_str_join PySem.F.type_str_join mJoin (by decide) (re_str [32, 97, 110, 100, 32] (by decide +kernel) (by decide +kernel)) (re_lc rfl nd (ri_list (re_b1 (cSorted rfl) (by rfl) T.z_sorted (by decide +kernel) (re_var 5))) (blkOk_by (N := ["_law_st", "_law_rows", "_law_name", "_law_one", "_law_other", "_law_needs", "_law_told", "_law_point"]) (sc := defScope st34) (by decide +kernel)) (fun _ _ _ _ _ => pg_name (i := 7) nd rfl (Or.inl rfl)) (fun _ _ _ _ _ => rts_nil) (fun _ _ _ _ _ => (re_op opAdd (re_op opAdd (re_var 7) (re_str [32] (by decide +kernel) (by decide +kernel))) (re_ix h1 (re_var 5) (re_var 7))))))))) rs_nil)
    (rs_one (rs_exp (re_m1 (T := 0) PySem.F.plainAttrs_list PySem.F.slot_list_append PySem.F.type_list_append mAppend (by decide) (re_var 1) (re_var 6)))))))
    (rs_cons (rs_set nd rfl (by first | exact .inl rfl | exact .inr rfl) (re_op opAdd (re_var 1) (re_lock (ea := (eOp pIx (eV 0) (eC (.str [115, 105, 103, 110, 97, 108, 115])))) (re_lc rfl nd (ri_keys (re_ix h1 (re_var 0) (re_str [115, 105, 103, 110, 97, 108, 115] (by decide +kernel) (by decide +kernel)))) (blkOk_by (N := ["_law_st", "_law_rows", "_law_name", "_law_one", "_law_other", "_law_needs", "_law_told", "_law_point"]) (sc := defScope st34) (by decide +kernel)) (fun _ _ _ _ _ => pg_name (i := 2) nd rfl (Or.inl rfl)) (fun _ _ _ _ _ => rts_nil) (fun _ _ _ _ _ => (re_op opAdd (re_op opAdd (re_op opAdd (re_str [115, 105, 103, 110, 97, 108, 32] (by decide +kernel) (by decide +kernel)) (re_var 2)) (re_str [32, 97, 116, 32] (by decide +kernel) (by decide +kernel))) (re_call (ok_33 T) (hr.mono (by first | decide | omega)) (by rfl) T.g__law_end_text T.F33.kp T.b33 (ra_cons (re_ix h1 (re_ix h1 (re_var 0) (re_str [115, 105, 103, 110, 97, 108, 115] (by decide +kernel) (by decide +kernel))) (re_var 2)) ra_nil))))))))
    (rs_one (rs_ret (re_m1 (T := 2) PySem.F.plainAttrs_str PySem.F.slot_str_join PySem.F.type_str_join mJoin (by decide) (re_str [10] (by decide +kernel) (by decide +kernel)) (re_var 1))))))))
end Mn
end

section
set_option Elab.async false
set_option linter.all false
set_option maxRecDepth 100000
set_option maxHeartbeats 4000000
namespace Mn
open PySem PySem.Spec L2 TL
theorem sc35 : FnScope ["_law_st", "_law_end", "_law_found", "_law_name"] ["_law_st", "_law_end"] (defScope st35) := ⟨rfl, rfl, rfl, by decide +kernel, rfl, by decide +kernel, by decide +kernel⟩
theorem ok_35 {P : Program} {w : World} {K : PySem.W.Frag} {mg : Str → Option Value} {base : Heap} {cA fA : Nat → Addr} {fD : Nat → FuncData} (T : Fx K w mg cA fA fD) : FnOk P w K mg base (L2.CX P w) 1 (fA 35) (fD 35) ["_law_st", "_law_end"] (spOf (GT cA) K m_law_signal_at) := by
  refine fs_of (N := ["_law_st", "_law_end", "_law_found", "_law_name"]) (s := m_law_signal_at_body) T.F35 sc35 (fun cdv A outer s0 H E hr => ?_)
  have h65 := units65 hr
  have h1 := units1 hr
  have nd := sc35.nd
  have hp := owns (P := P) (w := w) (K := K) (mg := mg) (base := base) (N := ["_law_st", "_law_end", "_law_found", "_law_name"]) (qual := "_law_signal_at") (sc := defScope st35) (f := fA 35) (cd := cdv) (A := A) (outer := outer) (s := s0) (H := H) (E := E)
  exact (rs_cons (rs_lock (ea := (eOp pIx (eV 0) (eC (.str [115, 105, 103, 110, 97, 108, 115])))) (rs_setLc (j := 2) rfl nd rfl rfl (sw_true rfl rfl rfl (by decide +kernel)) (ri_keys (re_ix h1 (re_var 0) (re_str [115, 105, 103, 110, 97, 108, 115] (by decide +kernel) (by decide +kernel)))) (blkOk_by (N := ["_law_st", "_law_end", "_law_found", "_law_name"]) (sc := defScope st35) (by decide +kernel)) (fun _ _ _ _ _ => pg_name (i := 3) nd rfl (Or.inl rfl)) (fun _ _ _ _ _ => rts_one (rt_cmp (opEq h65) (re_ix h1 (re_ix h1 (re_var 0) (re_str [115, 105, 103, 110, 97, 108, 115] (by decide +kernel) (by decide +kernel))) (re_var 3)) (re_var 1))) (fun _ _ _ _ _ => (re_var 3))))
    (rs_one (rs_ret (re_if (rt_cmp (opNe h65) (re_var 2) (re_lst ra_nil)) (re_ix h1 (re_var 2) re_int) re_non))))
end Mn
end

section
set_option Elab.async false
set_option linter.all false
set_option maxRecDepth 100000
set_option maxHeartbeats 4000000
namespace Mn
open PySem PySem.Spec L2 TL
theorem sc36 : FnScope ["_law_st", "_law_begin", "_law_end", "_law_sections", "_law_needs", "_law_found", "_law_one", "_law_other", "_law_wants", "_law_section", "_law_side", "_law_apart", "_law_point", "_law_more", "_law_out", "_law_target", "_law_link"] ["_law_st", "_law_begin", "_law_end", "_law_sections", "_law_needs"] (defScope st36) := ⟨rfl, rfl, rfl, by decide +kernel, rfl, by decide +kernel, by decide +kernel⟩
theorem ok_36 {P : Program} {w : World} {K : PySem.W.Frag} {mg : Str → Option Value} {base : Heap} {cA fA : Nat → Addr} {fD : Nat → FuncData} (T : Fx K w mg cA fA fD) : ∀ n : Nat, FnOk P w K mg base (L2.CX P w) (2 * n + 4) (fA 36) (fD 36) ["_law_st", "_law_begin", "_law_end", "_law_sections", "_law_needs"] (spOf (GT cA) K (m_law_ways n))
  | 0 => fn_bad
  | n + 1 => by
    have hR := ok_36 (P := P) (base := base) T n
    have hL : 4 ≤ 2 * n + 4 := by omega
    refine fs_of (k := 2 * n + 5) (N := ["_law_st", "_law_begin", "_law_end", "_law_sections", "_law_needs", "_law_found", "_law_one", "_law_other", "_law_wants", "_law_section", "_law_side", "_law_apart", "_law_point", "_law_more", "_law_out", "_law_target", "_law_link"]) (s := m_law_ways_body (m_law_ways n)) T.F36 sc36 (fun cdv A outer s0 H E hr => ?_)
    have h65 := units65 hr
    have h1 := units1 hr
    have nd := sc36.nd
    have hp := owns (P := P) (w := w) (K := K) (mg := mg) (base := base) (N := ["_law_st", "_law_begin", "_law_end", "_law_sections", "_law_needs", "_law_found", "_law_one", "_law_other", "_law_wants", "_law_section", "_law_side", "_law_apart", "_law_point", "_law_more", "_law_out", "_law_target", "_law_link"]) (qual := "_law_ways") (sc := defScope st36) (f := fA 36) (cd := cdv) (A := A) (outer := outer) (s := s0) (H := H) (E := E)
    exact (rs_cons (rs_set nd rfl (by first | exact .inl rfl | exact .inr rfl) (re_lst ra_nil))
    (rs_cons (rs_for hp rfl (ri_list (re_ix h1 (re_var 0) (re_str [108, 105, 110, 107, 115] (by decide +kernel) (by decide +kernel)))) (rg_tup rfl (rgs_cons (rg_name nd rfl (by first | exact .inl rfl | exact .inr rfl)) (rgs_cons (rg_name nd rfl (by first | exact .inl rfl | exact .inr rfl)) (rgs_cons (rg_name nd rfl (by first | exact .inl rfl | exact .inr rfl)) rgs_nil)))) (rs_cons (rs_if (rt_cmp (opNotIn h65) (re_var 2) (re_tup (ra_cons (re_var 6) (ra_cons (re_var 7) ra_nil)))) (rs_one rs_cont) rs_nil)
    (rs_cons (rs_asg (re_if (rt_cmp (opEq h65) (re_var 2) (re_var 7)) (re_var 6) (re_var 7)) (rg_tup rfl (rgs_cons (rg_name nd rfl (by first | exact .inl rfl | exact .inr rfl)) (rgs_cons (rg_name nd rfl (by first | exact .inl rfl | exact .inr rfl)) rgs_nil))))
    (rs_cons (rs_lock (ea := (eV 8)) (rs_setLc (j := 11) rfl nd rfl rfl (sw_true rfl rfl rfl (by decide +kernel)) (ri_keys (re_var 8)) (blkOk_by (N := ["_law_st", "_law_begin", "_law_end", "_law_sections", "_law_needs", "_law_found", "_law_one", "_law_other", "_law_wants", "_law_section", "_law_side", "_law_apart", "_law_point", "_law_more", "_law_out", "_law_target", "_law_link"]) (sc := defScope st36) (by decide +kernel)) (fun _ _ _ _ _ => pg_name (i := 12) nd rfl (Or.inl rfl)) (fun _ _ _ _ _ => rts_one (rt_cmp (opNe h65) (re_get2 h1 (re_var 4) (re_var 12) (re_ix h1 (re_var 8) (re_var 12))) (re_ix h1 (re_var 8) (re_var 12)))) (fun _ _ _ _ _ => (re_var 12))))
    (rs_cons (rs_if (rt_of (rw_or (rt_cmp (opEq h65) (re_var 9) (re_var 1)) (rw_or (rt_cmp (opIn h65) (re_var 9) (re_var 3)) (rw_or1 (rt_cmp (opNe h65) (re_var 11) (re_lst ra_nil)))))) (rs_one rs_cont) rs_nil)
    (rs_cons (rs_set nd rfl (by first | exact .inl rfl | exact .inr rfl) (re_t1 cDict (by rfl) T.z_dict (by decide +kernel) (re_var 4)))
    (rs_cons (rs_lock (ea := (eV 8)) (rs_for hp rfl (ri_keys (re_var 8)) (rg_name nd rfl (by first | exact .inl rfl | exact .inr rfl)) (rs_one (rs_setIx h1 (re_var 13) (re_var 12) (re_ix h1 (re_var 8) (re_var 12))))))
    (rs_cons (rs_set nd rfl (by first | exact .inl rfl | exact .inr rfl) (re_tup (ra_cons (re_var 9) (ra_cons (re_op opSub re_int (re_var 10)) ra_nil))))
    (rs_cons (rs_set nd rfl (by first | exact .inl rfl | exact .inr rfl) (re_call (ok_35 T) (hr.mono (by first | decide | omega)) (by rfl) T.g__law_signal_at T.F35.kp T.b35 (ra_cons (re_var 0) (ra_cons (re_var 14) ra_nil))))
    (rs_one (rs_if (rt_of (rw_or (rt_notN (re_var 15)) (rw_or1 (rt_cmp (opEq h65) (re_lc rfl nd (ri_list (re_ix h1 (re_var 0) (re_str [108, 105, 110, 107, 115] (by decide +kernel) (by decide +kernel)))) (blkOk_by (N := ["_law_st", "_law_begin", "_law_end", "_law_sections", "_law_needs", "_law_found", "_law_one", "_law_other", "_law_wants", "_law_section", "_law_side", "_law_apart", "_law_point", "_law_more", "_law_out", "_law_target", "_law_link"]) (sc := defScope st36) (by decide +kernel)) (fun _ _ _ _ _ => pg_name (i := 16) nd rfl (Or.inl rfl)) (fun _ _ _ _ _ => rts_one (rt_cmp (opIn h65) (re_var 14) (re_sl (re_var 16) ro_none (ro_some re_int)))) (fun _ _ _ _ _ => re_int)) (re_lst ra_nil))))) (rs_one (rs_exp (re_m1 (T := 0) PySem.F.plainAttrs_list PySem.F.slot_list_append PySem.F.type_list_append mAppend (by decide) (re_var 5) (re_tup (ra_cons (re_var 15) (ra_cons (re_op opAdd (re_var 3) (re_lst (ra_cons (re_var 9) ra_nil))) (ra_cons (re_var 13) ra_nil))))))) (rs_one (rs_set nd rfl (by first | exact .inl rfl | exact .inr rfl) (re_op opAdd (re_var 5) (re_call hR (hr.mono (by first | omega | decide)) (by rfl) T.g__law_ways T.F36.kp T.b36 (ra_cons (re_var 0) (ra_cons (re_var 1) (ra_cons (re_var 14) (ra_cons (re_op opAdd (re_var 3) (re_lst (ra_cons (re_var 9) ra_nil))) (ra_cons (re_var 13) ra_nil))))))))))))))))))))
    (rs_one (rs_ret (re_var 5)))))
end Mn
end

section
set_option Elab.async false
set_option linter.all false
set_option maxRecDepth 100000
set_option maxHeartbeats 4000000
namespace Mn
open PySem PySem.Spec L2 TL
theorem sc37 : FnScope ["_law_st", "_law_found", "_law_signal", "_law_end", "_law_target", "_law_sections", "_law_needs", "_law_wants", "_law_point"] ["_law_st"] (defScope st37) := ⟨rfl, rfl, rfl, by decide +kernel, rfl, by decide +kernel, by decide +kernel⟩
theorem ok_37 {P : Program} {w : World} {K : PySem.W.Frag} {mg : Str → Option Value} {base : Heap} {cA fA : Nat → Addr} {fD : Nat → FuncData} (T : Fx K w mg cA fA fD) : FnOk P w K mg base (L2.CX P w) 69 (fA 37) (fD 37) ["_law_st"] (spOf (GT cA) K m_law_routes) := by
  refine fs_of (N := ["_law_st", "_law_found", "_law_signal", "_law_end", "_law_target", "_law_sections", "_law_needs", "_law_wants", "_law_point"]) (s := m_law_routes_body) T.F37 sc37 (fun cdv A outer s0 H E hr => ?_)
  have h65 := units65 hr
  have h1 := units1 hr
  have nd := sc37.nd
  have hp := owns (P := P) (w := w) (K := K) (mg := mg) (base := base) (N := ["_law_st", "_law_found", "_law_signal", "_law_end", "_law_target", "_law_sections", "_law_needs", "_law_wants", "_law_point"]) (qual := "_law_routes") (sc := defScope st37) (f := fA 37) (cd := cdv) (A := A) (outer := outer) (s := s0) (H := H) (E := E)
  exact (rs_cons (rs_set nd rfl (by first | exact .inl rfl | exact .inr rfl) (re_lst ra_nil))
    (rs_cons (rs_lock (ea := (eOp pIx (eV 0) (eC (.str [115, 105, 103, 110, 97, 108, 115])))) (rs_for hp rfl (ri_keys (re_ix h1 (re_var 0) (re_str [115, 105, 103, 110, 97, 108, 115] (by decide +kernel) (by decide +kernel)))) (rg_name nd rfl (by first | exact .inl rfl | exact .inr rfl)) (rs_cons (rs_set nd rfl (by first | exact .inl rfl | exact .inr rfl) (re_ix h1 (re_ix h1 (re_var 0) (re_str [115, 105, 103, 110, 97, 108, 115] (by decide +kernel) (by decide +kernel))) (re_var 2)))
    (rs_one (rs_for hp rfl (ri_list (re_call (ok_36 T 32) (hr.mono (by first | omega | decide)) (by rfl) T.g__law_ways T.F36.kp T.b36 (ra_cons (re_var 0) (ra_cons (re_ix h1 (re_var 3) re_int) (ra_cons (re_var 3) (ra_cons (re_lst ra_nil) (ra_cons re_d0 ra_nil))))))) (rg_tup rfl (rgs_cons (rg_name nd rfl (by first | exact .inl rfl | exact .inr rfl)) (rgs_cons (rg_name nd rfl (by first | exact .inl rfl | exact .inr rfl)) (rgs_cons (rg_name nd rfl (by first | exact .inl rfl | exact .inr rfl)) rgs_nil)))) (rs_cons (rs_set nd rfl (by first | exact .inl rfl | exact .inr rfl) (re_t1 cTuple (by rfl) T.z_tuple (by decide +kernel) (re_lc rfl nd (ri_list (re_b1 (cSorted rfl) (by rfl) T.z_sorted (by decide +kernel) (re_var 6))) (blkOk_by (N := ["_law_st", "_law_found", "_law_signal", "_law_end", "_law_target", "_law_sections", "_law_needs", "_law_wants", "_law_point"]) (sc := defScope st37) (by decide +kernel)) (fun _ _ _ _ _ => pg_name (i := 8) nd rfl (Or.inl rfl)) (fun _ _ _ _ _ => rts_nil) (fun _ _ _ _ _ => (re_tup (ra_cons (re_var 8) (ra_cons (re_ix h1 (re_var 6) (re_var 8)) ra_nil)))))))
    (rs_one (rs_exp (re_m1 (T := 0) PySem.F.plainAttrs_list PySem.F.slot_list_append PySem.F.type_list_append mAppend (by decide) (re_var 1) (re_tup (ra_cons (re_var 2) (ra_cons (re_var 4) (ra_cons (re_t1 cTuple (by rfl) T.z_tuple (by decide +kernel) (re_var 5)) (ra_cons (re_var 7) ra_nil))))))))))))))
    (rs_one (rs_ret (re_var 1)))))
end Mn
end

section
set_option Elab.async false
set_option linter.all false
set_option maxRecDepth 100000
set_option maxHeartbeats 4000000
namespace Mn
open PySem PySem.Spec L2 TL
theorem sc7 : FnScope ["self", "layout", "point"] ["self", "layout"] (defScope st7) := ⟨rfl, rfl, rfl, by decide +kernel, rfl, by decide +kernel, by decide +kernel⟩
theorem ok_7 {P : Program} {w : World} {K : PySem.W.Frag} {mg : Str → Option Value} {base : Heap} {cA fA : Nat → Addr} {fD : Nat → FuncData} (T : Fx K w mg cA fA fD) : FnOk P w K mg base (L2.CX P w) 70 (fA 7) (fD 7) ["self", "layout"] (spOf (GT cA) K m_Desk_init__) := by
  refine fs_of (N := ["self", "layout", "point"]) (s := m_Desk_init___body) T.F7 sc7 (fun cdv A outer s0 H E hr => ?_)
  have h65 := units65 hr
  have h1 := units1 hr
  have nd := sc7.nd
  have hp := owns (P := P) (w := w) (K := K) (mg := mg) (base := base) (N := ["self", "layout", "point"]) (qual := "Desk.__init__") (sc := defScope st7) (f := fA 7) (cd := cdv) (A := A) (outer := outer) (s := s0) (H := H) (E := E)
  exact (rs_cons (rs_setFld rfl T.a_layout (re_var 0) (re_var 1))
    (rs_cons (rs_setFld rfl T.a_routes (re_var 0) (re_call (ok_6 T) (hr.mono (by first | decide | omega)) (by rfl) T.g_routes_of T.F6.kp T.b6 (ra_cons (re_var 1) ra_nil)))
    (rs_cons (rs_setFld rfl T.a_lies (re_var 0) re_d0)
    (rs_cons (rs_lock (ea := (eFld cs_points 4 (eV 1))) (rs_for hp rfl (ri_keys (re_fld rfl T.a_points (re_var 1))) (rg_name nd rfl (by first | exact .inl rfl | exact .inr rfl)) (rs_one (rs_setIx h1 (re_fld rfl T.a_lies (re_var 0)) (re_var 2) (re_str [110] (by decide +kernel) (by decide +kernel))))))
    (rs_cons (rs_setFld rfl T.a_laid (re_var 0) re_d0)
    (rs_cons (rs_setFld rfl T.a_trains (re_var 0) re_d0)
    (rs_one (rs_setFld rfl T.a_rows (re_var 0) (re_lst ra_nil)))))))))
end Mn
end

section
set_option Elab.async false
set_option linter.all false
set_option maxRecDepth 100000
set_option maxHeartbeats 4000000
namespace Mn
open PySem PySem.Spec L2 TL
theorem sc38 : FnScope ["_law_layout", "_law_way", "e", "_law_others"] ["_law_layout", "_law_way"] (defScope st38) := ⟨rfl, rfl, rfl, by decide +kernel, rfl, by decide +kernel, by decide +kernel⟩
theorem ok_38 {P : Program} {w : World} {K : PySem.W.Frag} {mg : Str → Option Value} {base : Heap} {cA fA : Nat → Addr} {fD : Nat → FuncData} (T : Fx K w mg cA fA fD) : FnOk P w K mg base (L2.CX P w) 72 (fA 38) (fD 38) ["_law_layout", "_law_way"] (spOf (GT cA) K m_law_too_many) := by
  refine fs_of (N := ["_law_layout", "_law_way", "e", "_law_others"]) (s := m_law_too_many_body) T.F38 sc38 (fun cdv A outer s0 H E hr => ?_)
  have h65 := units65 hr
  have h1 := units1 hr
  have nd := sc38.nd
  have hp := owns (P := P) (w := w) (K := K) (mg := mg) (base := base) (N := ["_law_layout", "_law_way", "e", "_law_others"]) (qual := "_law_too_many") (sc := defScope st38) (f := fA 38) (cd := cdv) (A := A) (outer := outer) (s := s0) (H := H) (E := E)
  exact (rs_cons (rs_try nd rfl rfl (fun pn xe => (rs_one (rs_if (rt_cmp (opEq h65) (re_var 1) re_int) (rs_one (rs_exp (re_call (ok_6 T) (hr.mono (by first | decide | omega)) (by rfl) T.g_routes_of T.F6.kp T.b6 (ra_cons (re_var 0) ra_nil)))) (rs_one (rs_exp (re_new T.mk_Desk (ok_7 T) (hr.mono (by first | decide | omega)) (by rfl) T.g_Desk T.b7 (ra_cons (re_var 0) ra_nil))))))) (.nm (i := 2) (names_of (G := GT cA) (ci := 10) T.x_HouseError (by rfl)) rfl rfl (exm_of (G := GT cA) (ci := 10) T.x_HouseError T.s_HouseError (by intro c h; simp at h ⊢; omega)) (fun a0 oe d pn y hy hz hd hf => (rs_cons (rs_set nd rfl (by first | exact .inl rfl | exact .inr rfl) (re_isHeldT (T.xc y.c (okB_c hy (by intro c h; simp at h ⊢; omega))) hz hd hf (by rfl) T.z_isinstance (pa_kc (by rfl) T.x_BadBook.gl (pa_kc (by rfl) T.x_BadLayout.gl (pa_kc (by rfl) T.x_Barred.gl (pa_kc (by rfl) T.x_NoSuch.gl pa_kn)))) (.cons (.own _) (.cons (.own _) (.cons (.own _) (.cons (.own _) .nil)))) (by simp) (T.k_BadBook_BadLayout_Barred_NoSuch y.c (okB_c hy (by intro c h; simp at h ⊢; omega))) (re_var 2)))
    (rs_one (rs_ret (re_and (re_isHeld (T.xc y.c (okB_c hy (by intro c h; simp at h ⊢; omega))) hz hd hf (by rfl) T.z_isinstance (by rfl) T.x_TooMany.gl (T.k_TooMany y.c (okB_c hy (by intro c h; simp at h ⊢; omega))) (re_var 2)) (re_and (re_isHeldB (T.xc y.c (okB_c hy (by intro c h; simp at h ⊢; omega))) hz hd hf (by rfl) T.z_isinstance (by rfl) T.z_ValueError (T.k_ValueError y.c (okB_c hy (by intro c h; simp at h ⊢; omega))) (re_var 2)) (re_one (re_not (re_var 3))))))))) (by intro y a d ρ m; by_cases hi : 2 < ρ.length <;> by_cases hq : dxO y m = true <;> simp [hi, hq, pHeld, pXf, List.getElem?_set] <;> (repeat' split) <;> first | rfl | simp_all [sGone]) .nil))
    (rs_one (rs_ret re_bl)))
end Mn
end

section
set_option Elab.async false
set_option linter.all false
set_option maxRecDepth 100000
set_option maxHeartbeats 4000000
namespace Mn
open PySem PySem.Spec L2 TL
theorem sc39 : FnScope ["_law_script", "_law_row", "_law_st", "_law_layout", "_law_due", "_law_turn", "_law_found", "_law_route"] ["_law_script"] (defScope st39) := ⟨rfl, rfl, rfl, by decide +kernel, rfl, by decide +kernel, by decide +kernel⟩
theorem ok_39 {P : Program} {w : World} {K : PySem.W.Frag} {mg : Str → Option Value} {base : Heap} {cA fA : Nat → Addr} {fD : Nat → FuncData} (T : Fx K w mg cA fA fD) : FnOk P w K mg base (L2.CX P w) 73 (fA 39) (fD 39) ["_law_script"] (spOf (GT cA) K m_law_k05) := by
  refine fs_of (N := ["_law_script", "_law_row", "_law_st", "_law_layout", "_law_due", "_law_turn", "_law_found", "_law_route"]) (s := m_law_k05_body) T.F39 sc39 (fun cdv A outer s0 H E hr => ?_)
  have h65 := units65 hr
  have h1 := units1 hr
  have nd := sc39.nd
  have hp := owns (P := P) (w := w) (K := K) (mg := mg) (base := base) (N := ["_law_script", "_law_row", "_law_st", "_law_layout", "_law_due", "_law_turn", "_law_found", "_law_route"]) (qual := "law") (sc := defScope st39) (f := fA 39) (cd := cdv) (A := A) (outer := outer) (s := s0) (H := H) (E := E)
  exact (rs_cons (rs_set nd rfl (by first | exact .inl rfl | exact .inr rfl) (re_lst (ra_cons (re_var 0) (ra_cons re_int (ra_cons re_int (ra_cons re_int ra_nil))))))
    (rs_cons (rs_set nd rfl (by first | exact .inl rfl | exact .inr rfl) (re_call (ok_32 T) (hr.mono (by first | decide | omega)) (by rfl) T.g__law_station T.F32.kp T.b32 (ra_cons (re_var 1) ra_nil)))
    (rs_cons (rs_set nd rfl (by first | exact .inl rfl | exact .inr rfl) (re_call (ok_28 T) (hr.mono (by first | decide | omega)) (by rfl) T.g_read_layout T.F28.kp T.b28 (ra_cons (re_call (ok_34 T) (hr.mono (by first | decide | omega)) (by rfl) T.g__law_text T.F34.kp T.b34 (ra_cons (re_var 2) ra_nil)) ra_nil)))
    (rs_cons (rs_set nd rfl (by first | exact .inl rfl | exact .inr rfl) (re_call (ok_37 T) (hr.mono (by first | decide | omega)) (by rfl) T.g__law_routes T.F37.kp T.b37 (ra_cons (re_var 2) ra_nil)))
    (rs_cons (rs_if (rt_cmp opGt (re_b1 cLen (by rfl) T.z_len (by decide +kernel) (re_var 4)) re_int) (rs_one (rs_ret (re_and (re_call (ok_38 T) (hr.mono (by first | decide | omega)) (by rfl) T.g__law_too_many T.F38.kp T.b38 (ra_cons (re_var 3) (ra_cons re_int ra_nil))) (re_one (re_call (ok_38 T) (hr.mono (by first | decide | omega)) (by rfl) T.g__law_too_many T.F38.kp T.b38 (ra_cons (re_var 3) (ra_cons re_int ra_nil))))))) rs_nil)
    (rs_cons (rs_for hp rfl (ri_rng1 (by rfl) T.z_range re_int) (rg_name nd rfl (by first | exact .inl rfl | exact .inr rfl)) (rs_cons (rs_set nd rfl (by first | exact .inl rfl | exact .inr rfl) (re_call (ok_6 T) (hr.mono (by first | decide | omega)) (by rfl) T.g_routes_of T.F6.kp T.b6 (ra_cons (re_var 3) ra_nil)))
    (rs_cons (rs_if (rt_of (rw_or (rt_not (rt_val (re_isList (by rfl) T.z_isinstance (by rfl) T.z_list (re_var 6)))) (rw_or1 (rt_cmp (opNe h65) (re_lc rfl nd (ri_list (re_var 6)) (blkOk_by (N := ["_law_script", "_law_row", "_law_st", "_law_layout", "_law_due", "_law_turn", "_law_found", "_law_route"]) (sc := defScope st39) (by decide +kernel)) (fun _ _ _ _ _ => pg_name (i := 7) nd rfl (Or.inl rfl)) (fun _ _ _ _ _ => rts_nil) (fun _ _ _ _ _ => (re_meth0 T.cl_Route T.me1 (nm_ne (by decide +kernel)) (re_var 7) (ok_1 T) (hr.mono (by first | decide | omega)) T.b1))) (re_var 4))))) (rs_one (rs_ret re_bl)) rs_nil)
    (rs_one (rs_exp (re_m1 (T := 0) PySem.F.plainAttrs_list PySem.F.slot_list_append PySem.F.type_list_append mAppend (by decide) (re_var 6) re_int))))))
    (rs_one (rs_ret re_bl))))))))
end Mn
end

section
set_option Elab.async false
set_option linter.all false
set_option maxRecDepth 100000
set_option maxHeartbeats 8000000
namespace Mn
open PySem PySem.Spec L2 TL
/-- the law's def promises True -/
def spEnd (K : PySem.W.Frag) : Sp := fun vs H Q E => ∀ cA : Nat → Addr, spOf (GT cA) K m_law_k05 vs H Q E
theorem sp_end (law_true : ∀ ns : List Int, ns.length ≤ 63 → ∃ m, m_law_k05 [.fls (ns.map .int)] [] = .ok (.bl true) m) (K : PySem.W.Frag) (H : Hp) (a : Addr) (ns : List Int) (hl : ns.length ≤ 63) (hO : Only H) (hS : SqL K H a (ns.map V.int)) :
    spEnd K [.ref a] H (fun v _ => v = .bl true) fun _ _ _ => False := by
  intro cA
  obtain ⟨m, e⟩ := law_true ns hl
  have hf : Frz K H a (ns.map V.int) := by
    rcases hS with (h | ⟨o, h⟩) | h
    · rcases hO a with z | ⟨o, xs, z⟩
      · rw [z] at h; cases h
      · rw [z] at h; cases h
    · exact .inl ⟨o, h⟩
    · exact .inr h
  refine ⟨[], [], [.fls (ns.map .int)], ⟨rfl, .nil, fun i o b e1 _ => by simp at e1⟩, .cons (.fls hf RDs.ints) .nil, ?_⟩
  rw [e]
  intro ι' H' v _ _ _ r
  cases r
  rfl
theorem law_end {l : PySem.W.OpenLaw} {q : Program} {loose : List Str} {XP : (Str → Option Value) → Heap → Prop} {YP : World → Heap → Prop} {d : DefRec} {K : Params → PySem.W.Frag} (law_true : ∀ ns : List Int, ns.length ≤ 63 → ∃ m, m_law_k05 [.fls (ns.map .int)] [] = .ok (.bl true) m)
    (hn : l.most = some 63) (hdf : d.params.defaults = []) (hd : d.name = "law") (hY : ∀ (w : World) (h : Heap), YP w h → (K w.params).In h)
    (F : ∀ (w : World) (mg : Str → Option Value) (fa : Addr) (h : Heap), (K w.params).In h → h.Ns mainGlobals mg → mg "law" = some (.ref fa) →
      ∃ (cA fA : Nat → Addr) (fD : Nat → FuncData), Fx (K w.params) w mg cA fA fD ∧ fA 39 = fa ∧ ∀ (s : Shared) (v : Value), BindsTo s (fD 39) ⟨[v], []⟩ [("_law_script", v)]) :
    PySem.W.WalkO q loose XP YP l.row.toRowW d [] (fun f vs => PySem.call f vs) := by
  refine L2.walk_of (n := 63) (k := 73) (x := "_law_script") (K := K) (CX := fun w => L2.CX l.prog w) (sp := fun w => spEnd (K w.params)) hn (by decide) hdf ⟨rfl, by decide, by decide⟩ hY (fun w mg fa h KX G hmg => ?_)
    (fun w H a ns hl hO hS => sp_end law_true (K w.params) H a ns hl hO hS) fun w H s e s' h => ?_
  · rw [hd] at hmg
    obtain ⟨cA, fA, fD, T, ef, hb⟩ := F w mg fa h KX G hmg
    refine ⟨fD 39, hb, fun base _ _ => ?_⟩
    have := ok_39 (P := l.prog) (w := w) (base := base) T
    rw [ef] at this
    exact this.imp fun vs H Q E h => h cA
  · obtain ⟨_, _, _, _, _, _, _, _, _, _, _, _, z⟩ := h
    exact z
end Mn
end

section
set_option linter.all false
namespace Mn
/-! ### heaps -/
theorem get_set_self {m : M} {i : Nat} {o o' : O} (h : m[i]? = some o) : (m.set i o')[i]? = some o' := by
  have : i < m.length := (List.getElem?_eq_some_iff.mp h).1
  simp [this]
theorem get_set_ne {m : M} {i j : Nat} {o : O} (h : i ≠ j) : (m.set i o)[j]? = m[j]? := by simp [h]
theorem get_push {m : M} {i : Nat} {o o' : O} (h : m[i]? = some o) : (m ++ [o'])[i]? = some o := by
  have : i < m.length := (List.getElem?_eq_some_iff.mp h).1
  rw [List.getElem?_append_left this]; exact h
theorem get_new {m : M} {o : O} : (m ++ [o])[m.length]? = some o := by simp
theorem get_lt {m : M} {i : Nat} {o : O} (h : m[i]? = some o) : i < m.length := (List.getElem?_eq_some_iff.mp h).1
theorem set_same {m : M} {i : Nat} {o : O} (h : m[i]? = some o) : m.set i o = m := by
  have hi := get_lt h
  refine List.ext_getElem? fun j => ?_
  by_cases e : i = j
  · subst e; rw [get_set_self h, h]
  · rw [get_set_ne e]
theorem set_set {m : M} {i : Nat} {o o' : O} : (m.set i o).set i o' = m.set i o' := by simp
/-- all but the places in S stand -/
structure Up (S : List Nat) (m m' : M) : Prop where
  le : m.length ≤ m'.length
  get : ∀ i o, m[i]? = some o → i ∉ S → m'[i]? = some o
theorem Up.refl (S : List Nat) (m : M) : Up S m m := ⟨Nat.le_refl _, fun _ _ h _ => h⟩
theorem Up.trans {S S' : List Nat} {m m1 m2 : M} (a : Up S m m1) (b : Up S' m1 m2) (h : ∀ i ∈ S', i ∈ S ∨ m.length ≤ i) : Up S m m2 := by
  refine ⟨Nat.le_trans a.le b.le, fun i o e hi => b.get i o (a.get i o e hi) fun z => ?_⟩
  rcases h i z with q | q
  · exact hi q
  · have := get_lt e; omega
theorem Up.mono {S S' : List Nat} {m m1 : M} (a : Up S m m1) (h : ∀ i ∈ S, i ∈ S' ∨ m.length ≤ i) : Up S' m m1 :=
  ⟨a.le, fun i o e hi => a.get i o e fun z => by
    rcases h i z with q | q
    · exact hi q
    · have := get_lt e; omega⟩
theorem Up.push {m : M} {o : O} : Up [] m (m ++ [o]) := ⟨by simp, fun i o e _ => get_push e⟩
theorem Up.set {m : M} {i : Nat} {o : O} : Up [i] m (m.set i o) := ⟨by simp, fun j o e h => by rw [get_set_ne (by simpa using fun z => h (by simp [z]))]; exact e⟩
theorem Up.then {S : List Nat} {m m1 m2 : M} (a : Up S m m1) (b : Up [] m1 m2) : Up S m m2 := a.trans b fun _ h => nomatch h
theorem Up.same {S : List Nat} {m m1 m2 : M} (a : Up S m m1) (b : Up S m1 m2) : Up S m m2 := a.trans b fun _ h => .inl h
end Mn
end

section
set_option linter.all false
namespace Mn
/-! ### _law_taken -/
def rowO (scr : List Int) (p s c : Int) : O := .lst [.fls (scr.map .int), .int p, .int s, .int c]
def Row (m : M) (r : Nat) (scr : List Int) : Prop := ∃ p s c : Int, 0 ≤ p ∧ m[r]? = some (rowO scr p s c)
theorem Row.up {S : List Nat} {m m' : M} {r : Nat} {scr : List Int} (h : Row m r scr) (u : Up S m m') (hr : r ∉ S) : Row m' r scr := by
  obtain ⟨p, s, c, h1, h2⟩ := h
  exact ⟨p, s, c, h1, u.get _ _ h2 hr⟩
theorem fm_ok {n : Nat} (hn : 0 < n) (x : Int) : ∃ k : Nat, k < n ∧ x.fmod (n : Int) = (k : Int) := by
  rw [Int.fmod_eq_emod_of_nonneg _ (by omega)]
  have h1 := Int.emod_nonneg x (show (n : Int) ≠ 0 by omega)
  have h2 := Int.emod_lt_of_pos x (show 0 < (n : Int) by omega)
  exact ⟨(x % (n : Int)).toNat, by omega, by omega⟩
theorem set_set' {m : M} {i : Nat} {o o' : O} : (m.set i o).set i o' = m.set i o' := by simp
theorem taken_ok {m : M} {r : Nat} {N : Int} {scr : List Int} (h : Row m r scr) (hn : 0 < N) (hn2 : N < 1000) :
    ∃ (k : Nat) (m' : M), (k : Int) < N ∧ m_law_taken [.ref r, .int N] m = .ok (.int (k : Int)) m' ∧ Row m' r scr ∧ Up [r] m m' ∧ m'.length = m.length := by
  obtain ⟨p, s, c, hp, h⟩ := h
  have hn0 : N ≠ 0 := by omega
  have hna : N.natAbs < 1073741824 := by omega
  have fin : ∀ (x : Int) (p' s' c' : Int), 0 ≤ p' → m_law_taken [.ref r, .int N] m = .ok (.int (x.fmod N)) (m.set r (rowO scr p' s' c')) →
      ∃ (k : Nat) (m' : M), (k : Int) < N ∧ m_law_taken [.ref r, .int N] m = .ok (.int (k : Int)) m' ∧ Row m' r scr ∧ Up [r] m m' ∧ m'.length = m.length := fun x p' s' c' hp' e => by
    obtain ⟨k, hk, ek⟩ := fm_ok (n := N.toNat) (by omega) x
    have : ((N.toNat : Nat) : Int) = N := by omega
    rw [this] at ek
    exact ⟨k, _, by omega, by rw [e, ek], ⟨p', s', c', hp', get_set_self h⟩, Up.set, by simp⟩
  unfold rowO at h
  have s0 : ∀ (a b c d v : D) (m : M), setOb (some (.lst [a, b, c, d])) r (.int 0) v m = some (m.set r (.lst [v, b, c, d])) := fun a b c d v m => setOb_lst (k := 0) (by simp)
  have s1 : ∀ (a b c d v : D) (m : M), setOb (some (.lst [a, b, c, d])) r (.int 1) v m = some (m.set r (.lst [a, v, c, d])) := fun a b c d v m => setOb_lst (k := 1) (by simp)
  have s2 : ∀ (a b c d v : D) (m : M), setOb (some (.lst [a, b, c, d])) r (.int 2) v m = some (m.set r (.lst [a, b, v, d])) := fun a b c d v m => setOb_lst (k := 2) (by simp)
  have s3 : ∀ (a b c d v : D) (m : M), setOb (some (.lst [a, b, c, d])) r (.int 3) v m = some (m.set r (.lst [a, b, c, v])) := fun a b c d v m => setOb_lst (k := 3) (by simp)
  have gs : ∀ o, (m.set r o)[r]? = some o := fun o => get_set_self h
  have mul : ∀ (x : Int) (m : M), pMul (.int x) (.int 48271) m = .ok (.int (x * 48271)) m := fun x m => pMul_r (by decide)
  have md : ∀ (x : Int) (m : M), pMod (.int x) (.int 2147483647) m = .ok (.int (x.fmod 2147483647)) m := fun x m => pMod_ok (by decide)
  have dv : ∀ (x : Int) (m : M), pDiv (.int x) (.int 7) m = .ok (.int (x.fdiv 7)) m := fun x m => pDiv_ok (by decide) (by decide)
  have mdN : ∀ (x : Int) (m : M), pMod (.int x) (.int N) m = .ok (.int (x.fmod N)) m := fun x m => pMod_ok hn0
  have dvN : ∀ (x : Int) (m : M), pDiv (.int x) (.int N) m = .ok (.int (x.fdiv N)) m := fun x m => pDiv_ok hn0 hna
  have pw : ∀ (m : M), pPow (.int 10) (.int 18) m = .ok (.int 1000000000000000000) m := fun m => by simp [pPow]
  by_cases hc : 0 < c
  · refine fin c p s (c.fdiv N) hp ?_
    simp [m_law_taken, m_law_taken_body, h, hc, mdN, dvN, s0, s1, s2, s3, rowO]
  · by_cases hl : (scr.length : Int) < p + 1
    · refine fin ((s * 48271 + 11).fmod 2147483647 |>.fdiv 7) (p + 1) ((s * 48271 + 11).fmod 2147483647) c (by omega) ?_
      simp [m_law_taken, m_law_taken_body, h, gs, hc, hl, mul, md, dv, mdN, dvN, s0, s1, s2, s3, rowO]
    · have hlt : p.toNat < scr.length := by omega
      have hp1 : p + 1 - 1 = p := by omega
      have at0 : atI (scr.map D.int) p = some (.int scr[p.toNat]) := by
        have := @atI_nat _ (scr.map D.int) p.toNat
        rw [show ((p.toNat : Nat) : Int) = p by omega] at this
        rw [this]; simp [hlt]
      by_cases hb : (1000000000000000000 : Int) ≤ scr[p.toNat]
      · refine fin scr[p.toNat] (p + 1) ((s * 48271 + scr[p.toNat] + 11).fmod 2147483647) (scr[p.toNat].fdiv N) (by omega) ?_
        simp [m_law_taken, m_law_taken_body, h, gs, hc, hl, hp1, at0, hb, pw, mul, md, dv, mdN, dvN, s0, s1, s2, s3, rowO]
      · refine fin scr[p.toNat] (p + 1) ((s * 48271 + scr[p.toNat] + 11).fmod 2147483647) c (by omega) ?_
        simp [m_law_taken, m_law_taken_body, h, gs, hc, hl, hp1, at0, hb, pw, mul, md, dv, mdN, dvN, s0, s1, s2, s3, rowO]
end Mn
end

section
set_option linter.all false
namespace Mn
/-! ### comprehensions, loops, locks -/
theorem lcGo_pure {α : Type} {i : Nat} {ρ : Fr} {chk : M → Bool} {t : MT} {e : ME} {m : M} (F : α → D) (b : α → Bool) (g : α → D) (hc : chk m = true) :
    ∀ (xs : List α) (acc : List D), (∀ x ∈ xs, t (ρ.set i (some (F x))) m = .ok (b x) m) → (∀ x ∈ xs, b x = true → e (ρ.set i (some (F x))) m = .ok (g x) m) →
      lcGo i ρ chk t e (xs.map F) acc m = .ok (acc ++ (xs.filter b).map g) m
  | [], acc, _, _ => by simp [lcGo, hc]
  | x :: r, acc, ht, he => by
    have h1 := ht x (by simp)
    have ih := fun acc => lcGo_pure F b g hc r acc (fun y hy => ht y (by simp [hy])) (fun y hy => he y (by simp [hy]))
    by_cases hb : b x = true
    · have h2 := he x (by simp) hb
      simp [lcGo, hc, h1, hb, h2, ih]
    · simp only [Bool.not_eq_true] at hb
      simp [lcGo, hc, h1, hb, ih]
theorem lc_pure {α : Type} {i : Nat} {ρ : Fr} {it : MI} {chk : M → Bool} {t : MT} {e : ME} {m0 m : M} (F : α → D) (b : α → Bool) (g : α → D) (xs : List α)
    (hi : it ρ m0 = .ok (xs.map F, chk) m) (hc : chk m = true) (hl : xs.length ≤ 1000) (ht : ∀ x ∈ xs, t (ρ.set i (some (F x))) m = .ok (b x) m)
    (he : ∀ x ∈ xs, b x = true → e (ρ.set i (some (F x))) m = .ok (g x) m) :
    eLc i it t e ρ m0 = .ok (.ref m.length) (m ++ [.lst ((xs.filter b).map g)]) := by
  have hl2 : (xs.map F).length ≤ LIM := by simp [LIM]; omega
  simp only [eLc, hi, R.bind_ok, hl2, if_true, lcGo_pure F b g hc xs [] ht he, List.nil_append]
theorem lc_map {α : Type} {i : Nat} {ρ : Fr} {it : MI} {chk : M → Bool} {e : ME} {m0 m : M} (F : α → D) (g : α → D) (xs : List α)
    (hi : it ρ m0 = .ok (xs.map F, chk) m) (hc : chk m = true) (hl : xs.length ≤ 1000)
    (he : ∀ x ∈ xs, e (ρ.set i (some (F x))) m = .ok (g x) m) :
    eLc i it tYes e ρ m0 = .ok (.ref m.length) (m ++ [.lst (xs.map g)]) := by
  have := lc_pure (t := tYes) (i := i) (ρ := ρ) (e := e) F (fun _ => true) g xs hi hc hl (fun _ _ => rfl) (fun x hx _ => he x hx)
  rw [List.filter_eq_self.mpr (by simp)] at this
  exact this
theorem for_inv {α : Type} {g : MG} {chk : M → Bool} {body : MS} (F : α → D) (xs : List α) (P : List α → Fr → M → Prop)
    (step : ∀ pre x post ρ m, xs = pre ++ x :: post → P pre ρ m → chk m = true ∧ ∃ ρ1 ρ' m', g (F x) ρ m = .ok ρ1 m ∧ (body ρ1 m = .nx ρ' m' ∨ body ρ1 m = .ct ρ' m') ∧ P (pre ++ [x]) ρ' m')
    (fin : ∀ ρ m, P xs ρ m → chk m = true) :
    ∀ (post pre : List α) (ρ : Fr) (m : M), xs = pre ++ post → P pre ρ m → ∃ ρ' m', forGo g chk body (post.map F) ρ m = .nx ρ' m' ∧ P xs ρ' m'
  | [], pre, ρ, m, e, h => by
    have e' : xs = pre := by simpa using e
    subst e'
    exact ⟨ρ, m, by simp [forGo, fin ρ m h], h⟩
  | x :: post, pre, ρ, m, e, h => by
    obtain ⟨hc, ρ1, ρ', m', h1, h2, h3⟩ := step pre x post ρ m e h
    obtain ⟨ρ2, m2, h4, h5⟩ := for_inv F xs P step fin post (pre ++ [x]) ρ' m' (by simp [e]) h3
    refine ⟨ρ2, m2, ?_, h5⟩
    rcases h2 with h2 | h2 <;> simp [forGo, hc, h1, h2, h4]
theorem for_all {α : Type} {g : MG} {it : MI} {chk : M → Bool} {body : MS} {ρ : Fr} {m m1 : M} (F : α → D) (xs : List α) (P : List α → Fr → M → Prop)
    (hi : it ρ m = .ok (xs.map F, chk) m1)
    (h0 : P [] ρ m1)
    (step : ∀ pre x post ρ m, xs = pre ++ x :: post → P pre ρ m → chk m = true ∧ ∃ ρ1 ρ' m', g (F x) ρ m = .ok ρ1 m ∧ (body ρ1 m = .nx ρ' m' ∨ body ρ1 m = .ct ρ' m') ∧ P (pre ++ [x]) ρ' m')
    (fin : ∀ ρ m, P xs ρ m → chk m = true) :
    ∃ ρ' m', sFor g it body ρ m = .nx ρ' m' ∧ P xs ρ' m' := by
  obtain ⟨ρ', m', h1, h2⟩ := for_inv F xs P step fin xs [] ρ m1 (by simp) h0
  exact ⟨ρ', m', by simp [hi, h1], h2⟩
theorem lock_nx {e : ME} {s : MS} {ρ ρ2 : Fr} {m m' m2 : M} {a : Nat} {kvs : List (Ky × D)} (h1 : e ρ m = .ok (.ref a) m') (h2 : m[a]? = some (.dct false kvs))
    (h3 : s ρ (m.set a (.dct true kvs)) = .nx ρ2 m2) (h4 : m2[a]? = some (.dct true kvs)) : sLock e s ρ m = .nx ρ2 (m2.set a (.dct false kvs)) := by
  simp [sLock, h1, h2, h3, isObj, h4]
theorem lock_rt {e : ME} {s : MS} {ρ : Fr} {d : D} {m m' m2 : M} {a : Nat} {kvs : List (Ky × D)} (h1 : e ρ m = .ok (.ref a) m') (h2 : m[a]? = some (.dct false kvs))
    (h3 : s ρ (m.set a (.dct true kvs)) = .rt d m2) (h4 : m2[a]? = some (.dct true kvs)) : sLock e s ρ m = .rt d (m2.set a (.dct false kvs)) := by
  simp [sLock, h1, h2, h3, isObj, h4]
theorem elock_ok {e x : ME} {ρ : Fr} {v : D} {m m' m2 : M} {a : Nat} {kvs : List (Ky × D)} (h1 : e ρ m = .ok (.ref a) m') (h2 : m[a]? = some (.dct false kvs))
    (h3 : x ρ (m.set a (.dct true kvs)) = .ok v m2) (h4 : m2[a]? = some (.dct true kvs)) : eLock e x ρ m = .ok v (m2.set a (.dct false kvs)) := by
  simp [eLock, h1, h2, h3, isObj, h4]
def ik1 (o : Option O) (a : Nat) (m : M) : R (List D × (M → Bool)) := match o with
  | some (.dct true kvs) => .ok (keysOf kvs, fun m => isObj m a (.dct true kvs)) m
  | _ => .bad
@[simp] theorem iKeys_eq {e ρ m} : iKeys e ρ m = it1 (fun x m1 => match x with
  | .ref a => ik1 m1[a]? a m1
  | _ => .bad) (e ρ m) := nr rfl
@[simp] theorem ik1_ok {kvs a m} : ik1 (some (.dct true kvs)) a m = .ok (keysOf kvs, fun m => isObj m a (.dct true kvs)) m := nr rfl
/-- after the lock, all is as before -/
theorem unlock_push {m : M} {a : Nat} {o o' : O} {l : List O} (h : m[a]? = some o) : ((m.set a o') ++ l).set a o = m ++ l := by
  have hl := get_lt h
  rw [List.set_append_left _ _ (by simpa using hl)]
  simp [set_same h]
/-! ### texts -/
def tKv (x : Tx × Tx) : Ky × D := (.inr x.1, .str x.2)
theorem getKv_t {kvs : List (Tx × Tx)} {k v : Tx} (hn : (kvs.map (·.1)).Nodup) (h : (k, v) ∈ kvs) : getKv (kvs.map tKv) (.inr k) = some (.str v) := by
  induction kvs with
  | nil => simp at h
  | cons x r ih =>
    obtain ⟨k', v'⟩ := x
    simp only [List.map_cons, List.nodup_cons] at hn
    simp only [List.map_cons, tKv, getKv_cons]
    rcases List.mem_cons.mp h with h | h
    · cases h; simp
    · have : k' ≠ k := fun e => hn.1 (by rw [e]; exact List.mem_map.mpr ⟨_, h, rfl⟩)
      simp only [Sum.inr.injEq, this, if_false]
      exact ih hn.2 h
theorem getKv_no {α : Type} {kvs : List (Tx × α)} {f : α → D} {k : Tx} (h : k ∉ kvs.map (·.1)) : getKv (kvs.map fun x => (.inr x.1, f x.2)) (.inr k) = none := by
  induction kvs with
  | nil => rfl
  | cons x r ih =>
    simp only [List.map_cons, List.mem_cons, not_or] at h
    simp only [List.map_cons, getKv_cons]
    rw [if_neg (by simpa using fun e => h.1 e.symm)]
    exact ih h.2
theorem putKv_new {α : Type} {kvs : List (Tx × α)} {f : α → D} {k : Tx} {v : α} (h : k ∉ kvs.map (·.1)) :
    putKv (kvs.map fun x => ((.inr x.1 : Ky), f x.2)) (.inr k) (f v) = (kvs ++ [(k, v)]).map fun x => (.inr x.1, f x.2) := by
  unfold putKv
  rw [if_neg ?_]
  · simp
  · simp only [List.any_map, List.any_eq_true, Function.comp_apply, decide_eq_true_eq, Sum.inr.injEq, not_exists, not_and]
    intro x hx e
    exact h (List.mem_map.mpr ⟨x, hx, e⟩)
theorem keysOf_t {α : Type} {kvs : List (Tx × α)} {f : α → D} : keysOf (kvs.map fun x => ((.inr x.1 : Ky), f x.2)) = kvs.map fun x => .str x.1 := by
  simp [keysOf, kD]
theorem allStr_map {α : Type} {xs : List α} {f : α → Tx} : allStr (xs.map fun x => .str (f x)) = some (xs.map f) := by
  induction xs with
  | nil => rfl
  | cons x r ih => simp [allStr, ih]
theorem allStr_str {xs : List Tx} : allStr (xs.map D.str) = some xs := by
  have := allStr_map (xs := xs) (f := id)
  simpa using this
def joOb (s : Tx) (o : Option O) (m : M) : R D := match o with
  | some (.lst xs) => match allStr xs with
    | some ys => if (ys.map (·.length)).sum + ys.length * s.length ≤ LIM then .ok (.str (joinT s ys)) m else .bad
    | none => .bad
  | _ => .bad
@[simp] theorem pJoin_ref {s a m} : pJoin (.str s) (.ref a) m = joOb s m[a]? m := nr rfl
theorem sum_le {ys : List Tx} {k : Nat} (h : ∀ y ∈ ys, y.length ≤ k) : (ys.map (·.length)).sum ≤ ys.length * k := by
  induction ys with
  | nil => simp
  | cons y r ih =>
    have h1 := h y (by simp)
    have h2 := ih fun z hz => h z (by simp [hz])
    simp only [List.map_cons, List.sum_cons, List.length_cons, Nat.add_mul]
    omega
theorem joOb_ok {s : Tx} {ys : List Tx} {m : M} (hs : s.length ≤ 10) (hn : ys.length ≤ 1000) (h : ∀ y ∈ ys, y.length ≤ 900) :
    joOb s (some (.lst (ys.map D.str))) m = .ok (.str (joinT s ys)) m := by
  have h1 := sum_le h
  have h2 : ys.length * s.length ≤ 1000 * 10 := Nat.mul_le_mul hn hs
  have h3 : ys.length * 900 ≤ 1000 * 900 := Nat.mul_le_mul_right 900 hn
  simp only [joOb, allStr_str]
  rw [if_pos (by simp only [LIM]; omega)]
theorem cat_ok {a b : Tx} {m} (h : a.length + b.length ≤ 1000) : pAdd (.str a) (.str b) m = .ok (.str (a ++ b)) m := pAdd_str (by simp only [LIM]; omega)
end Mn
end

section
set_option linter.all false
namespace Mn
/-! ### stations -/
abbrev Ed := Tx × Nat
def edD (e : Ed) : D := .tup [.str e.1, .int (e.2 : Int)]
def edT (e : Ed) : Tx := e.1 ++ [46] ++ numT e.2
structure Lk where
  one : Ed
  other : Ed
  needs : List (Tx × Tx)
structure St where
  secs : List Tx
  pts : List (Tx × Tx)
  lks : List Lk
  sgs : List (Tx × Ed)
  turn : Nat
/-! equality and membership of plain data -/
theorem tree_ed {n m} (e : Ed) : tree (n + 2) m (edD e) = some (.tup [.str e.1, .int (e.2 : Int)]) := by simp [edD, tree, treesW]
def edTr (e : Ed) : T := .tup [.str e.1, .int (e.2 : Int)]
theorem edTr_inj {a b : Ed} : edTr a = edTr b ↔ a = b := by
  obtain ⟨a1, a2⟩ := a
  obtain ⟨b1, b2⟩ := b
  simp only [edTr, T.tup.injEq, List.cons.injEq, T.str.injEq, T.int.injEq, and_true, Prod.mk.injEq]
  exact ⟨fun h => ⟨h.1, by have := h.2; omega⟩, fun h => ⟨h.1, by have := h.2; omega⟩⟩
theorem treesW_map {α : Type} {f : D → Option T} {xs : List α} (F : α → D) (G : α → T) (h : ∀ x ∈ xs, f (F x) = some (G x)) : treesW f (xs.map F) = some (xs.map G) := by
  induction xs with
  | nil => rfl
  | cons x r ih => simp [treesW, h x (by simp), ih fun y hy => h y (by simp [hy])]
theorem noBls_map {α : Type} {xs : List α} (G : α → T) (h : ∀ x ∈ xs, T.noBl (G x) = true) : T.noBls (xs.map G) = true := by
  induction xs with
  | nil => rfl
  | cons x r ih => simp [T.noBls, h x (by simp), ih fun y hy => h y (by simp [hy])]
@[simp] theorem noBl_edTr {e : Ed} : T.noBl (edTr e) = true := by simp [edTr, T.noBl, T.noBls]
@[simp] theorem noBl_str {s} : T.noBl (.str s) = true := rfl
theorem tree_lst {α : Type} {n m a} {xs : List α} (F : α → D) (G : α → T) (h : m[a]? = some (.lst (xs.map F))) (hF : ∀ x ∈ xs, tree n m (F x) = some (G x)) : tree (n + 1) m (.ref a) = some (.lst (xs.map G)) := by
  simp [tree, h, treesW_map F G hF]
theorem tree_tup {α : Type} {n m} {xs : List α} (F : α → D) (G : α → T) (hF : ∀ x ∈ xs, tree n m (F x) = some (G x)) : tree (n + 1) m (.tup (xs.map F)) = some (.tup (xs.map G)) := by
  simp [tree, treesW_map F G hF]
theorem mem_inj {α : Type} {G : α → T} (hG : ∀ a b, G a = G b ↔ a = b) {x : α} {xs : List α} : G x ∈ xs.map G ↔ x ∈ xs := by
  simp [List.mem_map, hG]
theorem inO_strs {m a} {xs : List Tx} {s : Tx} (h : m[a]? = some (.lst (xs.map D.str))) : inO m (.str s) (.ref a) = some (decide (s ∈ xs)) := by
  have h1 : tree DEP m (.ref a) = some (.lst (xs.map T.str)) := tree_lst D.str T.str h (fun _ _ => by simp [tree])
  have h2 : tree DEP m (.str s) = some (.str s) := by simp [tree, DEP]
  have h3 := noBls_map (xs := xs) T.str fun _ _ => rfl
  have h4 : (T.str s ∈ xs.map T.str) ↔ s ∈ xs := mem_inj fun a b => by simp
  simp [inO, h, h1, h2, h3]
theorem inO_eds {m a} {xs : List Ed} {e : Ed} (h : m[a]? = some (.lst (xs.map edD))) : inO m (edD e) (.ref a) = some (decide (e ∈ xs)) := by
  have h1 : tree DEP m (.ref a) = some (.lst (xs.map edTr)) := tree_lst edD edTr h fun x _ => tree_ed (n := 27) x
  have h2 : tree DEP m (edD e) = some (edTr e) := tree_ed (n := 28) e
  have h3 := noBls_map (xs := xs) edTr fun _ _ => by simp
  have h4 : (edTr e ∈ xs.map edTr) ↔ e ∈ xs := mem_inj fun a b => edTr_inj
  simp only [inO, h, h1, h2, h3, noBl_edTr, h4, Bool.and_self, if_true]
theorem inO_tstrs {m} {xs : List Tx} {s : Tx} : inO m (.str s) (.tup (xs.map D.str)) = some (decide (s ∈ xs)) := by
  have h1 : tree DEP m (.tup (xs.map D.str)) = some (.tup (xs.map T.str)) := tree_tup D.str T.str (fun _ _ => by simp [tree])
  have h2 : tree DEP m (.str s) = some (.str s) := by simp [tree, DEP]
  have h3 := noBls_map (xs := xs) T.str fun _ _ => rfl
  have h4 : (T.str s ∈ xs.map T.str) ↔ s ∈ xs := mem_inj fun a b => by simp
  simp [inO, h1, h2, h3]
theorem inO_t2 {m} {s a b : Tx} : inO m (.str s) (.tup [.str a, .str b]) = some (decide (s = a ∨ s = b)) := by
  have := inO_tstrs (m := m) (xs := [a, b]) (s := s)
  simpa using this
theorem inO_teds {m} {xs : List Ed} {s : Ed} : inO m (edD s) (.tup (xs.map edD)) = some (decide (s ∈ xs)) := by
  have h1 : tree DEP m (.tup (xs.map edD)) = some (.tup (xs.map edTr)) := tree_tup edD edTr fun x _ => tree_ed (n := 27) x
  have h2 : tree DEP m (edD s) = some (edTr s) := tree_ed (n := 28) s
  have h3 := noBls_map (xs := xs) edTr fun _ _ => by simp
  have h4 : (edTr s ∈ xs.map edTr) ↔ s ∈ xs := mem_inj fun a b => edTr_inj
  simp only [inO, h1, h2, h3, noBl_edTr, h4, Bool.and_self, if_true]
theorem inO_e2 {m} {s a b : Ed} : inO m (edD s) (.tup [edD a, edD b]) = some (decide (s = a ∨ s = b)) := by
  have := inO_teds (m := m) (xs := [a, b]) (s := s)
  simpa using this
theorem eqO_eds {m} {a b : Ed} : eqO m (edD a) (edD b) = some (decide (a = b)) := by
  have h1 : tree DEP m (edD a) = some (edTr a) := tree_ed (n := 28) a
  have h2 : tree DEP m (edD b) = some (edTr b) := tree_ed (n := 28) b
  simp [eqO, h1, h2, okEq, edTr_inj]
theorem inO_key {α : Type} {m a lk} {xs : List (Tx × α)} {f : α → D} {s : Tx} (h : m[a]? = some (.dct lk (xs.map fun x => (.inr x.1, f x.2)))) :
    inO m (.str s) (.ref a) = some (decide (s ∈ xs.map (·.1))) := by
  simp only [inO, h, toKy_str]
  congr 1
  by_cases hs : s ∈ xs.map (·.1)
  · rw [decide_eq_true hs]
    clear h
    induction xs with
    | nil => simp at hs
    | cons x r ih =>
      simp only [List.map_cons, getKv_cons]
      by_cases e : x.1 = s
      · simp [e]
      · rw [if_neg (by simpa using e)]
        exact ih (by simpa [show ¬ s = x.1 from fun z => e z.symm] using hs)
  · rw [getKv_no hs, decide_eq_false hs]; rfl
theorem eqO_nil {α : Type} {m a b} {xs : List α} (F : α → D) (G : α → T) (hG : ∀ x ∈ xs, T.noBl (G x) = true) (h : m[a]? = some (.lst (xs.map F))) (hb : m[b]? = some (.lst [])) (hF : ∀ x ∈ xs, tree 29 m (F x) = some (G x)) :
    eqO m (.ref a) (.ref b) = some (decide (xs = [])) := by
  have h1 : tree DEP m (.ref a) = some (.lst (xs.map G)) := tree_lst F G h hF
  have h2 : tree DEP m (.ref b) = some (.lst []) := by simp [tree, DEP, hb, treesW]
  have h3 := noBls_map G hG
  simp [eqO, h1, h2, okEq, T.noBl, h3, T.noBls]
theorem eqO_nil_s {m a b} {xs : List Tx} (h : m[a]? = some (.lst (xs.map D.str))) (hb : m[b]? = some (.lst [])) : eqO m (.ref a) (.ref b) = some (decide (xs = [])) :=
  eqO_nil D.str T.str (fun _ _ => rfl) h hb fun _ _ => by simp [tree]
theorem eqO_nil_e {m a b} {xs : List Ed} (h : m[a]? = some (.lst (xs.map edD))) (hb : m[b]? = some (.lst [])) : eqO m (.ref a) (.ref b) = some (decide (xs = [])) :=
  eqO_nil edD edTr (fun _ _ => by simp) h hb fun x _ => tree_ed (n := 27) x
theorem eqO_dnil {m a b} {lk : Bool} {xs : List (Ky × D)} (h : m[a]? = some (.dct lk xs)) (hb : m[b]? = some (.dct false [])) : eqO m (.ref a) (.ref b) = some (decide (xs = [])) := by
  have h1 : tree DEP m (.ref a) = none := by simp [tree, DEP, h]
  cases xs with
  | nil => simp [eqO, h1, h, hb]
  | cons x r => simp [eqO, h1, h, hb]
/-! ### the texts -/
def secT : Tx := [115, 101, 99, 116, 105, 111, 110]
def poiT : Tx := [112, 111, 105, 110, 116]
def linT : Tx := [108, 105, 110, 107]
def sigT : Tx := [115, 105, 103, 110, 97, 108]
def whenT : Tx := [32, 119, 104, 101, 110, 32]
def andT : Tx := [32, 97, 110, 100, 32]
def ndT (ns : List (Tx × Tx)) : Tx := if ns = [] then [] else whenT ++ joinT andT (ns.map fun a => a.1 ++ [32] ++ a.2)
def rowS (s : Tx) : Tx := [115, 101, 99, 116, 105, 111, 110, 32] ++ s
def rowP (p : Tx × Tx) : Tx := [112, 111, 105, 110, 116, 32] ++ p.1 ++ [32, 105, 110, 32] ++ p.2
def rowL (k : Lk) : Tx := [108, 105, 110, 107, 32] ++ edT k.one ++ [32] ++ edT k.other ++ ndT k.needs
def rowG (g : Tx × Ed) : Tx := [115, 105, 103, 110, 97, 108, 32] ++ g.1 ++ [32, 97, 116, 32] ++ edT g.2
def rowsOf (st : St) : List Tx := st.secs.map rowS ++ st.pts.map rowP ++ st.lks.map rowL ++ st.sgs.map rowG
def textOf (st : St) : Tx := joinT [10] (rowsOf st)
/-- sorted by name; two at most -/
def nrm (ns : List (Tx × Tx)) : List (Tx × Tx) := match ns with
  | [a, b] => if b.1 < a.1 then [b, a] else [a, b]
  | l => l
def nrmL (k : Lk) : Lk := { k with needs := nrm k.needs }
def nrmS (st : St) : St := { st with lks := st.lks.map nrmL }
theorem sort_keys {ns : List (Tx × Tx)} (h : ns.length ≤ 2) : sortT (ns.map (·.1)) = (nrm ns).map (·.1) := by
  match ns, h with
  | [], _ => rfl
  | [a], _ => rfl
  | [a, b], _ =>
    simp only [List.map, sortT, List.foldr, insT, nrm]
    split <;> rfl
theorem nrm_mem {ns : List (Tx × Tx)} {x : Tx × Tx} : x ∈ nrm ns ↔ x ∈ ns := by
  unfold nrm
  split
  · split <;> simp [or_comm]
  · rfl
theorem nrm_len {ns : List (Tx × Tx)} : (nrm ns).length = ns.length := by
  unfold nrm
  split
  · split <;> rfl
  · rfl
theorem nrm_nil {ns : List (Tx × Tx)} : nrm ns = [] ↔ ns = [] := by
  rw [← List.length_eq_zero_iff, nrm_len, List.length_eq_zero_iff]
theorem numT_1 {n : Nat} (h : n < 10) : numT n = [48 + n] := by
  have : n = 0 ∨ n = 1 ∨ n = 2 ∨ n = 3 ∨ n = 4 ∨ n = 5 ∨ n = 6 ∨ n = 7 ∨ n = 8 ∨ n = 9 := by omega
  rcases this with e | e | e | e | e | e | e | e | e | e <;> subst e <;> rfl
def edOk (e : Ed) : Prop := e.1.length ≤ 6 ∧ e.2 < 2
theorem edT_len {e : Ed} (h : edOk e) : (edT e).length ≤ 8 := by
  have h2 := h.2
  have h1 := h.1
  simp only [edT, numT_1 (show e.2 < 10 by omega), List.length_append, List.length_cons, List.length_nil]
  omega
theorem end_text_ok {e : Ed} {m : M} (h : edOk e) : m_end_text [edD e] m = .ok (.str (edT e)) m := by
  have h1 := h.1
  have h2 := h.2
  have s1 : pAdd (.str e.1) (.str [46]) m = .ok (.str (e.1 ++ [46])) m := cat_ok (by simp; omega)
  have s2 : pAdd (.str (e.1 ++ [46])) (.str (numT e.2)) m = .ok (.str (edT e)) m := cat_ok (by simp [numT_1 (show e.2 < 10 by omega)]; omega)
  simp [m_end_text, m_end_text_body, edD, s1, s2, pStr_nat (show e.2 < 1000 by omega)]
theorem law_end_text_ok {e : Ed} {m : M} (h : edOk e) : m_law_end_text [edD e] m = .ok (.str (edT e)) m := end_text_ok h
end Mn
end

section
set_option linter.all false
namespace Mn
/-! ### heaps with a tail -/
theorem get_app {m : M} {a : Nat} {o : O} (h : m[a]? = some o) (l : List O) : (m ++ l)[a]? = some o := by
  rw [List.getElem?_append_left (get_lt h)]; exact h
@[simp] theorem get_off {m l : M} {k : Nat} : (m ++ l)[m.length + k]? = l[k]? := by
  rw [List.getElem?_append_right (by omega)]; congr 1; omega
@[simp] theorem get_off0 {m l : M} : (m ++ l)[m.length]? = l[0]? := by
  rw [List.getElem?_append_right (by omega)]; congr 1; omega
theorem Up.app {m l : M} : Up [] m (m ++ l) := ⟨by simp, fun i o e _ => get_app e l⟩
theorem unlock_app {m : M} {a : Nat} {o o' : O} {l : List O} (h : m[a]? = some o) : ((m.set a o') ++ l).set a o = m ++ l := unlock_push h
theorem get_set_app {m : M} {a : Nat} {o o' : O} {l : List O} (h : m[a]? = some o) : (m.set a o' ++ l)[a]? = some o' := get_app (get_set_self h) l
def eKv (x : Tx × Ed) : Ky × D := (.inr x.1, edD x.2)
theorem getKv_e {kvs : List (Tx × Ed)} {k : Tx} {v : Ed} (hn : (kvs.map (·.1)).Nodup) (h : (k, v) ∈ kvs) : getKv (kvs.map eKv) (.inr k) = some (edD v) := by
  induction kvs with
  | nil => simp at h
  | cons x r ih =>
    obtain ⟨k', v'⟩ := x
    simp only [List.map_cons, List.nodup_cons] at hn
    simp only [List.map_cons, eKv, getKv_cons]
    rcases List.mem_cons.mp h with h | h
    · cases h; simp
    · have : k' ≠ k := fun e => hn.1 (by rw [e]; exact List.mem_map.mpr ⟨_, h, rfl⟩)
      simp only [Sum.inr.injEq, this, if_false]
      exact ih hn.2 h
/-! ### needs -/
structure NdOk (ns : List (Tx × Tx)) : Prop where
  len : ns.length ≤ 2
  nd : (ns.map (·.1)).Nodup
  sz : ∀ n ∈ ns, n.1.length ≤ 6 ∧ n.2.length ≤ 1
theorem pSorted_keys {ns : List (Tx × Tx)} {x : D} {m : M} (hl : ns.length ≤ 2) (h : itemsOf x m = some (ns.map fun a => .str a.1)) :
    pSorted x m = .ok (.ref m.length) (m ++ [.lst ((nrm ns).map fun a => .str a.1)]) := by
  have h2 : (ns.map fun a => D.str a.1).length < 64 := by simp; omega
  simp only [pSorted, h, h2, if_true, allStr_map]
  have := sort_keys hl
  rw [this, List.map_map]; rfl
theorem nd_elem {ns : List (Tx × Tx)} {ρ : Fr} {m : M} {i j n : Nat} (ok : NdOk ns) (hn : m[n]? = some (.dct false (ns.map tKv))) (hj : ρ[j]? = some (some (.ref n))) (hi : i < ρ.length) (hij : i ≠ j) :
    ∀ x ∈ nrm ns, eOp pAdd (eOp pAdd (eV i) (eC (.str [32]))) (eOp pIx (eV j) (eV i)) (ρ.set i (some (.str x.1))) m = .ok (.str (x.1 ++ [32] ++ x.2)) m := by
  intro x hx
  have hx := nrm_mem.mp hx
  have hz := ok.sz x hx
  have h1 : (ρ.set i (some (D.str x.1)))[i]? = some (some (D.str x.1)) := by simp [hi]
  have h2 : (ρ.set i (some (D.str x.1)))[j]? = some (some (D.ref n)) := by rw [List.getElem?_set_ne hij]; exact hj
  have h3 : getKv (ns.map tKv) (.inr x.1) = some (.str x.2) := getKv_t ok.nd hx
  have s1 : pAdd (.str x.1) (.str [32]) m = .ok (.str (x.1 ++ [32])) m := cat_ok (by simp; omega)
  have s2 : pAdd (.str (x.1 ++ [32])) (.str x.2) m = .ok (.str (x.1 ++ [32] ++ x.2)) m := cat_ok (by simp; omega)
  simp [-List.append_assoc, h1, h2, hn, h3, s1, s2]
theorem nd_join {ns : List (Tx × Tx)} {m : M} (ok : NdOk ns) : joOb andT (some (.lst ((nrm ns).map fun x => .str (x.1 ++ [32] ++ x.2)))) m = .ok (.str (joinT andT ((nrm ns).map fun x => x.1 ++ [32] ++ x.2))) m := by
  have := joOb_ok (s := andT) (ys := (nrm ns).map fun x => x.1 ++ [32] ++ x.2) (m := m) (by decide) (by have := ok.len; simp [nrm_len]; omega) (by
    intro y hy
    obtain ⟨x, hx, rfl⟩ := List.mem_map.mp hy
    have := ok.sz x (nrm_mem.mp hx)
    simp; omega)
  rw [List.map_map] at this
  exact this
theorem join_len {s : Tx} {ys : List Tx} {k : Nat} (h : ∀ y ∈ ys, y.length ≤ k) : (joinT s ys).length ≤ ys.length * (k + s.length) := by
  induction ys with
  | nil => simp [joinT]
  | cons y r ih =>
    have h1 := h y (by simp)
    have h2 := ih fun z hz => h z (by simp [hz])
    cases r with
    | nil => simp [joinT]; omega
    | cons z r => simp only [joinT, List.length_append, List.length_cons, Nat.add_mul] at h2 ⊢; omega
theorem ndT_len {ns : List (Tx × Tx)} (ok : NdOk ns) : (ndT (nrm ns)).length ≤ 60 := by
  have h1 := join_len (s := andT) (ys := (nrm ns).map fun x => x.1 ++ [32] ++ x.2) (k := 8) (by
    intro y hy
    obtain ⟨x, hx, rfl⟩ := List.mem_map.mp hy
    have := ok.sz x (nrm_mem.mp hx)
    simp; omega)
  have h2 := ok.len
  rw [List.length_map, nrm_len] at h1
  have h3 : ns.length * (8 + andT.length) ≤ 2 * (8 + andT.length) := Nat.mul_le_mul_right _ h2
  have h4 : andT.length = 5 := rfl
  have h5 : whenT.length = 6 := rfl
  unfold ndT
  split
  · simp
  · rw [List.length_append]; omega
theorem needs_text_ok {ns : List (Tx × Tx)} {m : M} {n : Nat} (ok : NdOk ns) (hn : m[n]? = some (.dct false (ns.map tKv))) :
    ∃ m', m_needs_text [.ref n] m = .ok (.str (ndT (nrm ns))) m' ∧ Up [] m m' := by
  have e1 : eqO (m ++ [.dct false []]) (.ref n) (.ref m.length) = some (decide (ns = [])) := by
    rw [eqO_dnil (get_app hn _) get_new]; simp
  by_cases h0 : ns = []
  · refine ⟨m ++ [.dct false []], ?_, Up.app⟩
    subst h0
    simp [m_needs_text, m_needs_text_body, e1, ndT, nrm]
  · have hz : ndT (nrm ns) = whenT ++ joinT andT ((nrm ns).map fun x => x.1 ++ [32] ++ x.2) := by simp [ndT, nrm_nil, h0]
    have hzl := ndT_len ok
    rw [hz] at hzl
    refine ⟨m ++ [.dct false [], .lst (ns.map fun a => .str a.1), .lst ((nrm ns).map fun a => .str a.1), .lst ((nrm ns).map fun x => .str (x.1 ++ [32] ++ x.2))], ?_, Up.app⟩
    have hn1 : (m ++ [.dct false []])[n]? = some (.dct false (ns.map tKv)) := get_app hn _
    have p1 : pList (.ref n) (m ++ [.dct false []]) = .ok (.ref (m.length + 1)) (m ++ [.dct false [], .lst (ns.map fun a => .str a.1)]) := by
      simp [pList, hn1]
      exact keysOf_t
    have p2 : pSorted (.ref (m.length + 1)) (m ++ [.dct false [], .lst (ns.map fun a => .str a.1)]) = _ := pSorted_keys (ns := ns) ok.len (by simp [itemsOf])
    have p3 := lc_map (i := 1) (ρ := [some (.ref n), none]) (it := iList (eUn pSorted (eUn pList (eV 0)))) (e := eOp pAdd (eOp pAdd (eV 1) (eC (.str [32]))) (eOp pIx (eV 0) (eV 1)))
      (m0 := m ++ [.dct false []]) (m := m ++ [.dct false [], .lst (ns.map fun a => .str a.1), .lst ((nrm ns).map fun a => .str a.1)]) (chk := fun M => isObj M (m.length + 2) (.lst ((nrm ns).map fun a => .str a.1)))
      (fun a => .str a.1) (fun x => .str (x.1 ++ [32] ++ x.2)) (nrm ns)
      (by simp [p1, p2]) (isObj_ok (by simp)) (by have := ok.len; rw [nrm_len]; omega) (nd_elem ok (get_app hn _) rfl (by simp) (by decide))
    have p4 := cat_ok (a := whenT) (b := joinT andT ((nrm ns).map fun x => x.1 ++ [32] ++ x.2)) (m := m ++ [.dct false [], .lst (ns.map fun a => .str a.1), .lst ((nrm ns).map fun a => .str a.1), .lst ((nrm ns).map fun x => .str (x.1 ++ [32] ++ x.2))]) (by rw [← List.length_append]; omega)
    have p5 := nd_join (m := m ++ [.dct false [], .lst (ns.map fun a => .str a.1), .lst ((nrm ns).map fun a => .str a.1), .lst ((nrm ns).map fun x => .str (x.1 ++ [32] ++ x.2))]) ok
    simp only [List.length_append, List.length_cons, List.length_nil, List.append_assoc, List.cons_append, List.nil_append] at p3
    simp only [whenT, andT, List.append_assoc, List.cons_append, List.nil_append] at p4 p5 hz
    simp [m_needs_text, m_needs_text_body, e1, h0, p3, p4, p5, hz]
end Mn
end

section
set_option linter.all false
namespace Mn
theorem Up.unlock {m m' : M} {a : Nat} {o : O} (u : Up [a] m m') (h : m[a]? = some o) : Up [] m (m'.set a o) := by
  refine ⟨by simpa using u.le, fun i o' e _ => ?_⟩
  by_cases ei : a = i
  · subst ei
    rw [h] at e; cases e
    have : a < m'.length := Nat.lt_of_lt_of_le (get_lt h) u.le
    simp [this]
  · rw [get_set_ne ei]
    exact u.get _ _ e (by simpa using fun z => ei z.symm)
theorem ne_of_get {m : M} {a b : Nat} {o o' : O} (h : m[a]? = some o) (h' : m[b]? = some o') (hne : o ≠ o') : a ≠ b := fun e => by
  subst e; rw [h] at h'; exact hne (by cases h'; rfl)
structure LayAt (m : M) (L s p l g : Nat) (st : St) : Prop where
  hL : m[L]? = some (.ins 1 [(3, .ref s), (4, .ref p), (5, .ref l), (6, .ref g)])
  hs : m[s]? = some (.lst (st.secs.map .str))
  hp : m[p]? = some (.dct false (st.pts.map tKv))
  hl : ∃ xs : List (Lk × Nat × Nat), st.lks = xs.map (·.1) ∧ m[l]? = some (.lst (xs.map fun x => .ref x.2.1)) ∧
    ∀ x ∈ xs, m[x.2.1]? = some (.ins 0 [(0, edD x.1.one), (1, edD x.1.other), (2, .ref x.2.2)]) ∧ m[x.2.2]? = some (.dct false (x.1.needs.map tKv))
  hg : m[g]? = some (.dct false (st.sgs.map eKv))
theorem LayAt.up {m m' : M} {L s p l g : Nat} {st : St} (h : LayAt m L s p l g st) (u : Up [] m m') : LayAt m' L s p l g st := by
  obtain ⟨h1, h2, h3, ⟨xs, a, b, c⟩, h5⟩ := h
  exact ⟨u.get _ _ h1 nofun, u.get _ _ h2 nofun, u.get _ _ h3 nofun, ⟨xs, a, u.get _ _ b nofun, fun x hx => ⟨u.get _ _ (c x hx).1 nofun, u.get _ _ (c x hx).2 nofun⟩⟩, u.get _ _ h5 nofun⟩
/-- sizes -/
structure Sz (st : St) : Prop where
  s1 : st.secs.length ≤ 30
  s2 : ∀ s ∈ st.secs, s.length ≤ 6
  p1 : st.pts.length ≤ 12
  p2 : ∀ p ∈ st.pts, p.1.length ≤ 6 ∧ p.2.length ≤ 6
  p3 : (st.pts.map (·.1)).Nodup
  l1 : st.lks.length ≤ 60
  l2 : ∀ k ∈ st.lks, edOk k.one ∧ edOk k.other ∧ NdOk k.needs
  g1 : st.sgs.length ≤ 16
  g2 : ∀ g ∈ st.sgs, g.1.length ≤ 6 ∧ edOk g.2
  g3 : (st.sgs.map (·.1)).Nodup
theorem row_ok {xs : List D} {m : M} {a : Nat} {v : D} (h : m[a]? = some (.lst xs)) (hl : xs.length ≤ 1000) : pAppend (.ref a) v m = .ok .non (m.set a (.lst (xs ++ [v]))) := by
  rw [pAppend_ref, h, appOb_ok (by simp only [LIM]; omega)]
def nrmRowL (k : Lk) : Tx := rowL (nrmL k)
theorem rowL_len {k : Lk} (h : edOk k.one ∧ edOk k.other ∧ NdOk k.needs) : (rowL (nrmL k)).length ≤ 90 := by
  have h1 := edT_len h.1
  have h2 := edT_len h.2.1
  have h3 := ndT_len h.2.2
  simp only [rowL, nrmL, List.length_append, List.length_cons, List.length_nil]
  omega
theorem rows_join {st : St} (z : Sz st) (m : M) : joOb [10] (some (.lst ((rowsOf (nrmS st)).map .str))) m = .ok (.str (textOf (nrmS st))) m := by
  refine joOb_ok (by decide) ?_ ?_
  · have := z.s1; have := z.p1; have := z.l1; have := z.g1
    simp [rowsOf, nrmS]; omega
  · intro y hy
    simp only [rowsOf, nrmS, List.mem_append, List.mem_map] at hy
    rcases hy with ((⟨x, hx, rfl⟩ | ⟨x, hx, rfl⟩) | ⟨x, ⟨k, hk, rfl⟩, rfl⟩) | ⟨x, hx, rfl⟩
    · have := z.s2 x hx; simp [rowS]; omega
    · have := z.p2 x hx; simp [rowP]; omega
    · have := rowL_len (z.l2 k hk); omega
    · have := z.g2 x hx; have := edT_len this.2; simp [rowG]; omega
theorem lock_rows {α : Type} {kvs : List (Tx × α)} {f : α → D} {e er : ME} {row : Tx × α → Tx} {m m1 : M} {p W : Nat} {d0 : D} {old : List D} {y0 w0 : Option D}
    (hp : m[p]? = some (.dct false (kvs.map fun x => (.inr x.1, f x.2)))) (hW : m.length ≤ W) (u1 : Up [] m m1) (r1 : m1[W]? = some (.lst old)) (hl : old.length + kvs.length ≤ 1000)
    (he : ∀ M y w, Up [p] m M → e [some d0, some (.ref W), y, w] M = .ok (.ref p) M)
    (her : ∀ x ∈ kvs, ∀ M w, Up [p] m M → M[p]? = some (.dct true (kvs.map fun x => (.inr x.1, f x.2))) → er [some d0, some (.ref W), some (.str x.1), w] M = .ok (.str (row x)) M) :
    ∃ ρ' m2, sLock e (sFor (gV 2) (iKeys e) (sExp (eM1 0 pAppend (eV 1) er))) [some d0, some (.ref W), y0, w0] m1 = .nx ρ' m2 ∧ (∃ y w, ρ' = [some d0, some (.ref W), y, w]) ∧
      Up [] m m2 ∧ m2[W]? = some (.lst (old ++ kvs.map fun x => .str (row x))) := by
  have pW : p ≠ W := by have := get_lt hp; omega
  have hp1 := u1.get _ _ hp nofun
  have uA : Up [p] m (m1.set p (.dct true (kvs.map fun x => (.inr x.1, f x.2)))) := (u1.mono (by simp)).same Up.set
  have l2 : (m1.set p (.dct true (kvs.map fun x => (.inr x.1, f x.2))))[p]? = some (.dct true (kvs.map fun x => (.inr x.1, f x.2))) := get_set_self hp1
  obtain ⟨ρ', m2, e1, ⟨y, w, e2⟩, e3, e4, e5⟩ := for_all (g := gV 2) (it := iKeys e) (chk := fun M => isObj M p (.dct true (kvs.map fun x => (.inr x.1, f x.2))))
    (body := sExp (eM1 0 pAppend (eV 1) er))
    (ρ := [some d0, some (.ref W), y0, w0]) (m := m1.set p (.dct true (kvs.map fun x => (.inr x.1, f x.2)))) (m1 := m1.set p (.dct true (kvs.map fun x => (.inr x.1, f x.2))))
    (fun x => .str x.1) kvs
    (fun pre ρ M => (∃ y w, ρ = [some d0, some (.ref W), y, w]) ∧ Up [p] m M ∧ M[p]? = some (.dct true (kvs.map fun x => (.inr x.1, f x.2))) ∧ M[W]? = some (.lst (old ++ pre.map fun x => .str (row x))))
    (by rw [iKeys_eq, he _ _ _ uA]; simp only [it1_ok, l2, ik1_ok]; rw [keysOf_t])
    ⟨⟨_, _, rfl⟩, uA, l2, by rw [get_set_ne pW]; simpa using r1⟩
    (by
      rintro pre x post ρ M hx ⟨⟨y, w, rfl⟩, c1, c2, c3⟩
      have hx2 : x ∈ kvs := by rw [hx]; simp
      have hlen : pre.length ≤ kvs.length := by rw [hx]; simp
      have b1 := her x hx2 M w c1 c2
      have b2 := row_ok (v := .str (row x)) c3 (by simp; omega)
      refine ⟨isObj_ok c2, [some d0, some (.ref W), some (.str x.1), w], [some d0, some (.ref W), some (.str x.1), w], M.set W (.lst ((old ++ pre.map fun x => .str (row x)) ++ [.str (row x)])), rfl, .inl ?_, ⟨_, _, rfl⟩, ?_, ?_, ?_⟩
      · simp only [sExp_eq, eM1_eq, eV_eq, List.getElem?_cons_succ, List.getElem?_cons_zero, vr_ok, m1_ok, isTy_ref, c3, tyOb_lst, beq_self_eq_true, if_true, b1, m2_ok, b2, R.calm_ok, ex1_ok]
      · exact c1.trans Up.set fun i hi => by simp at hi; omega
      · rw [get_set_ne pW.symm]; exact c2
      · rw [get_set_self c3]; simp)
    (fun ρ M q => isObj_ok q.2.2.1)
  subst e2
  refine ⟨_, _, lock_nx (he _ _ _ (u1.mono (by simp))) hp1 e1 e4, ⟨y, w, rfl⟩, e3.unlock hp, ?_⟩
  rw [get_set_ne pW]; exact e5
theorem layout_text_ok {m : M} {L s p l g : Nat} {st : St} (h : LayAt m L s p l g st) (z : Sz st) :
    ∃ m', m_layout_text [.ref L] m = .ok (.str (textOf (nrmS st))) m' ∧ Up [] m m' := by
  have h0 := h
  obtain ⟨h1, h2, h3, ⟨xs, x1, x2, x3⟩, h5⟩ := h
  have z1 := z.s1
  have z2 := z.p1
  have z3 := z.l1
  have z4 := z.g1
  have z5 : xs.length = st.lks.length := by rw [x1]; simp
  -- sections
  have a1 := lc_map (i := 2) (ρ := [some (.ref L), none, none, none]) (it := iList (eFld cs_sections 3 (eV 0))) (e := eOp pAdd (eC (.str [115, 101, 99, 116, 105, 111, 110, 32])) (eV 2))
    (m0 := m) (m := m) (chk := fun M => isObj M s (.lst (st.secs.map .str))) D.str (fun x => .str (rowS x)) st.secs
    (by simp [h1, h2]) (isObj_ok h2) (by omega) (by
      intro x hx
      have := z.s2 x hx
      have := cat_ok (a := [115, 101, 99, 116, 105, 111, 110, 32]) (b := x) (m := m) (by simp; omega)
      simp [-List.cons_append, rowS, this])
  obtain ⟨W, hW⟩ : ∃ W, W = m.length := ⟨_, rfl⟩
  rw [← hW] at a1
  obtain ⟨m1, hm1⟩ : ∃ m1, m1 = m ++ [.lst (st.secs.map fun x => .str (rowS x))] := ⟨_, rfl⟩
  rw [← hm1] at a1
  have u1 : Up [] m m1 := by rw [hm1]; exact Up.app
  have r1 : m1[W]? = some (.lst (st.secs.map fun x => .str (rowS x))) := by rw [hm1, hW]; simp
  have Lp : p ≠ L := ne_of_get h3 h1 nofun
  have Lg : g ≠ L := ne_of_get h5 h1 nofun
  -- points
  obtain ⟨_, m2, a2, ⟨y2, w2, rfl⟩, u2, r2⟩ := lock_rows (kvs := st.pts) (f := .str) (e := eFld cs_points 4 (eV 0))
    (er := eOp pAdd (eOp pAdd (eOp pAdd (eC (.str [112, 111, 105, 110, 116, 32])) (eV 2)) (eC (.str [32, 105, 110, 32]))) (eOp pIx (eFld cs_points 4 (eV 0)) (eV 2))) (row := rowP)
    (m := m) (m1 := m1) (p := p) (W := W) (d0 := .ref L) (y0 := none) (w0 := none) h3 (by omega) u1 r1 (by simp; omega)
    (by intro M y w u; simp [u.get _ _ h1 (by simpa using Lp.symm)])
    (by
      intro x hx M w u hM
      have g1 := u.get _ _ h1 (by simpa using Lp.symm)
      have g2 : getKv (st.pts.map fun x => (.inr x.1, .str x.2)) (.inr x.1) = some (.str x.2) := getKv_t z.p3 hx
      have := z.p2 x hx
      have s1 := cat_ok (a := [112, 111, 105, 110, 116, 32]) (b := x.1) (m := M) (by simp; omega)
      have s2 := cat_ok (a := [112, 111, 105, 110, 116, 32] ++ x.1) (b := [32, 105, 110, 32]) (m := M) (by simp; omega)
      have s3 := cat_ok (a := [112, 111, 105, 110, 116, 32] ++ x.1 ++ [32, 105, 110, 32]) (b := x.2) (m := M) (by simp; omega)
      simp only [List.cons_append, List.nil_append, List.append_assoc] at s1 s2 s3
      simp [rowP, s1, s2, s3, g1, hM, g2])
  -- links
  obtain ⟨_, m3, a3, ⟨y3, w3, rfl⟩, u3, r3⟩ := for_all (g := gV 3) (it := iList (eFld cs_links 5 (eV 0))) (chk := fun M => isObj M l (.lst (xs.map fun x => .ref x.2.1)))
    (body := sExp (eM1 0 pAppend (eV 1) (eOp pAdd (eOp pAdd (eOp pAdd (eOp pAdd (eC (.str [108, 105, 110, 107, 32])) (eFn m_end_text (aCons (eFld cs_one 0 (eV 3)) aNil))) (eC (.str [32]))) (eFn m_end_text (aCons (eFld cs_other 1 (eV 3)) aNil))) (eFn m_needs_text (aCons (eFld cs_needs 2 (eV 3)) aNil)))))
    (ρ := [some (.ref L), some (.ref W), y2, w2]) (m := m2) (m1 := m2) (fun x => .ref x.2.1) xs
    (fun pre ρ M => (∃ y w, ρ = [some (.ref L), some (.ref W), y, w]) ∧ Up [] m M ∧ M[W]? = some (.lst (((st.secs.map fun x => .str (rowS x)) ++ st.pts.map fun x => .str (rowP x)) ++ pre.map fun x => .str (rowL (nrmL x.1)))))
    (by simp [u2.get _ _ h1 nofun, u2.get _ _ x2 nofun]) ⟨⟨_, _, rfl⟩, u2, by simpa using r2⟩
    (by
      rintro pre x post ρ M hx ⟨⟨y, w, rfl⟩, c1, c2⟩
      have hx2 : x ∈ xs := by rw [hx]; simp
      have hlen : pre.length ≤ xs.length := by rw [hx]; simp
      obtain ⟨q1, q2⟩ := x3 x hx2
      obtain ⟨k1, k2, k3⟩ := z.l2 x.1 (by rw [x1]; exact List.mem_map.mpr ⟨x, hx2, rfl⟩)
      obtain ⟨M', t1, t2⟩ := needs_text_ok k3 (c1.get _ _ q2 nofun)
      have j1 := edT_len k1
      have j2 := edT_len k2
      have j3 := ndT_len k3
      have s1 := cat_ok (a := [108, 105, 110, 107, 32]) (b := edT x.1.one) (m := M) (by simp; omega)
      have s2 := cat_ok (a := [108, 105, 110, 107, 32] ++ edT x.1.one) (b := [32]) (m := M) (by simp; omega)
      have s3 := cat_ok (a := [108, 105, 110, 107, 32] ++ edT x.1.one ++ [32]) (b := edT x.1.other) (m := M) (by simp; omega)
      have s4 := cat_ok (a := [108, 105, 110, 107, 32] ++ edT x.1.one ++ [32] ++ edT x.1.other) (b := ndT (nrm x.1.needs)) (m := M') (by simp; omega)
      have c2' := t2.get _ _ c2 nofun
      have b2 := row_ok (v := .str (rowL (nrmL x.1))) c2' (by simp; omega)
      refine ⟨isObj_ok (c1.get _ _ x2 nofun), [some (.ref L), some (.ref W), y, some (.ref x.2.1)], [some (.ref L), some (.ref W), y, some (.ref x.2.1)], M'.set W (.lst ((((st.secs.map fun x => .str (rowS x)) ++ st.pts.map fun x => .str (rowP x)) ++ pre.map fun x => .str (rowL (nrmL x.1))) ++ [.str (rowL (nrmL x.1))])), rfl, .inl ?_, ⟨_, _, rfl⟩, ?_, ?_⟩
      · have e1 : ∀ M, m_end_text [edD x.1.one] M = .ok (.str (edT x.1.one)) M := fun M => end_text_ok k1
        have e2 : ∀ M, m_end_text [edD x.1.other] M = .ok (.str (edT x.1.other)) M := fun M => end_text_ok k2
        have g1 := c1.get _ _ q1 nofun
        have b1 : eOp pAdd (eOp pAdd (eOp pAdd (eOp pAdd (eC (.str [108, 105, 110, 107, 32])) (eFn m_end_text (aCons (eFld cs_one 0 (eV 3)) aNil))) (eC (.str [32]))) (eFn m_end_text (aCons (eFld cs_other 1 (eV 3)) aNil))) (eFn m_needs_text (aCons (eFld cs_needs 2 (eV 3)) aNil))
          [some (.ref L), some (.ref W), y, some (.ref x.2.1)] M = .ok (.str (rowL (nrmL x.1))) M' := by
          simp only [List.cons_append, List.nil_append, List.append_assoc] at s1 s2 s3 s4
          simp [g1, s1, s2, s3, s4, e1, e2, t1, rowL, nrmL]
        simp only [sExp_eq, eM1_eq, eV_eq, List.getElem?_cons_succ, List.getElem?_cons_zero, vr_ok, m1_ok, isTy_ref, c2, tyOb_lst, beq_self_eq_true, if_true, b1, m2_ok, b2, R.calm_ok, ex1_ok]
      · exact (c1.then t2).trans Up.set fun i hi => by simp at hi; omega
      · rw [get_set_self c2']; simp)
    (fun ρ M q => isObj_ok (q.2.1.get _ _ x2 nofun))
  -- signals
  obtain ⟨_, m4, a4, ⟨y4, w4, rfl⟩, u4, r4⟩ := lock_rows (kvs := st.sgs) (f := edD) (e := eFld cs_signals 6 (eV 0))
    (er := eOp pAdd (eOp pAdd (eOp pAdd (eC (.str [115, 105, 103, 110, 97, 108, 32])) (eV 2)) (eC (.str [32, 97, 116, 32]))) (eFn m_end_text (aCons (eOp pIx (eFld cs_signals 6 (eV 0)) (eV 2)) aNil))) (row := rowG)
    (m := m) (m1 := m3) (p := g) (W := W) (d0 := .ref L) (y0 := y3) (w0 := w3) h5 (by omega) u3 r3 (by simp; omega)
    (by intro M y w u; simp [u.get _ _ h1 (by simpa using Lg.symm)])
    (by
      intro x hx M w u hM
      have g1 := u.get _ _ h1 (by simpa using Lg.symm)
      have g2 : getKv (st.sgs.map fun x => (.inr x.1, edD x.2)) (.inr x.1) = some (edD x.2) := getKv_e z.g3 hx
      obtain ⟨j1, j2⟩ := z.g2 x hx
      have j3 := edT_len j2
      have e1 : m_end_text [edD x.2] M = .ok (.str (edT x.2)) M := end_text_ok j2
      have s1 := cat_ok (a := [115, 105, 103, 110, 97, 108, 32]) (b := x.1) (m := M) (by simp; omega)
      have s2 := cat_ok (a := [115, 105, 103, 110, 97, 108, 32] ++ x.1) (b := [32, 97, 116, 32]) (m := M) (by simp; omega)
      have s3 := cat_ok (a := [115, 105, 103, 110, 97, 108, 32] ++ x.1 ++ [32, 97, 116, 32]) (b := edT x.2) (m := M) (by simp; omega)
      simp only [List.cons_append, List.nil_append, List.append_assoc] at s1 s2 s3
      simp [rowG, s1, s2, s3, g1, hM, g2, e1])
  have jn := rows_join z m4
  have rr : (((st.secs.map fun x => D.str (rowS x)) ++ st.pts.map fun x => D.str (rowP x)) ++ xs.map fun x => D.str (rowL (nrmL x.1))) ++ (st.sgs.map fun x => D.str (rowG x)) = (rowsOf (nrmS st)).map .str := by
    simp [rowsOf, nrmS, x1, Function.comp_def]
  rw [rr] at r4
  refine ⟨m4, ?_, u4⟩
  simp only [m_layout_text, m_layout_text_body, mkFn_1, Nat.add_one_sub_one, List.replicate, sSeq_eq, sAsg_eq, a1, as1_ok, gDo_V, List.set_cons_succ, List.set_cons_zero, sq1_nx, a2, a3, a4, sRet_eq, eM1_eq, eC_eq, m1_ok, isTy_str, beq_self_eq_true, if_true, eV_eq, List.getElem?_cons_succ, List.getElem?_cons_zero, vr_ok, m2_ok, pJoin_ref, r4, jn, R.calm_ok, rt1_ok, fnK_rt]
end Mn
end

section
set_option linter.all false
namespace Mn
def lkD (x : Lk × Nat) : D := .tup [edD x.1.one, edD x.1.other, .ref x.2]
structure StAt (m : M) (d s p l g : Nat) (st : St) : Prop where
  hd : m[d]? = some (.dct false [(.inr [115, 101, 99, 116, 105, 111, 110, 115], .ref s), (.inr [112, 111, 105, 110, 116, 115], .ref p), (.inr [108, 105, 110, 107, 115], .ref l), (.inr [115, 105, 103, 110, 97, 108, 115], .ref g), (.inr [116, 117, 114, 110], .int (st.turn : Int))])
  hs : m[s]? = some (.lst (st.secs.map .str))
  hp : m[p]? = some (.dct false (st.pts.map tKv))
  hl : ∃ xs : List (Lk × Nat), st.lks = xs.map (·.1) ∧ m[l]? = some (.lst (xs.map lkD)) ∧ ∀ x ∈ xs, m[x.2]? = some (.dct false (x.1.needs.map tKv))
  hg : m[g]? = some (.dct false (st.sgs.map eKv))
/-- rows + [.. for name in d], d locked -/
theorem lock_cat {α : Type} {kvs : List (Tx × α)} {f : α → D} {e er : ME} {row : Tx × α → Tx} {m : M} {p W j : Nat} {ρ : Fr} {old : List Tx}
    (hp : m[p]? = some (.dct false (kvs.map fun x => (.inr x.1, f x.2)))) (hW : ρ[1]? = some (some (.ref W))) (r1 : m[W]? = some (.lst (old.map .str))) (hl : old.length + kvs.length ≤ 1000)
    (he : ∀ M, Up [p] m M → e ρ M = .ok (.ref p) M)
    (her : ∀ x ∈ kvs, ∀ M, Up [p] m M → M[p]? = some (.dct true (kvs.map fun x => (.inr x.1, f x.2))) → er (ρ.set j (some (.str x.1))) M = .ok (.str (row x)) M) :
    ∃ m2, eOp pAdd (eV 1) (eLock e (eLc j (iKeys e) tYes er)) ρ m = .ok (.ref (m.length + 1)) m2 ∧ Up [] m m2 ∧ m2[m.length + 1]? = some (.lst ((old ++ kvs.map row).map .str)) := by
  have pW : p ≠ W := ne_of_get hp r1 nofun
  have uA : Up [p] m (m.set p (.dct true (kvs.map fun x => (.inr x.1, f x.2)))) := Up.set
  have l2 : (m.set p (.dct true (kvs.map fun x => (.inr x.1, f x.2))))[p]? = some (.dct true (kvs.map fun x => (.inr x.1, f x.2))) := get_set_self hp
  have a1 := lc_map (i := j) (ρ := ρ) (it := iKeys e) (e := er) (m0 := m.set p (.dct true (kvs.map fun x => (.inr x.1, f x.2)))) (m := m.set p (.dct true (kvs.map fun x => (.inr x.1, f x.2))))
    (chk := fun M => isObj M p (.dct true (kvs.map fun x => (.inr x.1, f x.2)))) (fun x => .str x.1) (fun x => .str (row x)) kvs
    (by rw [iKeys_eq, he _ uA]; simp only [it1_ok, l2, ik1_ok]; rw [keysOf_t]) (isObj_ok l2) (by omega) (fun x hx => her x hx _ uA l2)
  have a2 := elock_ok (he _ (Up.refl _ _)) hp a1 (get_app l2 _)
  rw [unlock_app hp, List.length_set] at a2
  have a3 : pAdd (.ref W) (.ref m.length) (m ++ [.lst (kvs.map fun x => .str (row x))]) = .ok (.ref (m.length + 1)) (m ++ [.lst (kvs.map fun x => .str (row x)), .lst (old.map .str ++ kvs.map fun x => .str (row x))]) := by
    rw [pAdd_ref, get_app r1, get_off0]
    simp only [List.getElem?_cons_zero]
    rw [catOb_ok (by simp only [LIM, List.length_map]; omega)]
    simp
  refine ⟨m ++ [.lst (kvs.map fun x => .str (row x)), .lst (old.map .str ++ kvs.map fun x => .str (row x))], ?_, Up.app, by simp [Function.comp_def]⟩
  rw [eOp_eq, eV_eq, hW]
  simp only [vr_ok, op1_ok, a2, op2_ok, a3, R.calm_ok]
def lkBody : MS := (sSeq (sAsg (gV 6) (eOp pAdd (eOp pAdd (eOp pAdd (eC (.str [108, 105, 110, 107, 32])) (eFn m_law_end_text (aCons (eV 3) aNil))) (eC (.str [32]))) (eFn m_law_end_text (aCons (eV 4) aNil))))
    (sSeq (sIf (tV (eOp pNe (eV 5) eD0)) (sAsg (gV 6) (eOp pAdd (eOp pAdd (eV 6) (eC (.str [32, 119, 104, 101, 110, 32]))) (eM1 2 pJoin (eC (.str [32, 97, 110, 100, 32])) (eLc 7 (iList (eUn pSorted (eV 5))) tYes (eOp pAdd (eOp pAdd (eV 7) (eC (.str [32]))) (eOp pIx (eV 5) (eV 7))))))) sPass)
    (sExp (eM1 0 pAppend (eV 1) (eV 6)))))
theorem lkBody_ok {M : M} {x : Lk × Nat} {W : Nat} {d0 : D} {old : List D} {y0 y4 y5 : Option D} (c2 : M[W]? = some (.lst old)) (hl : old.length ≤ 1000) (q2 : M[x.2]? = some (.dct false (x.1.needs.map tKv)))
    (k1 : edOk x.1.one) (k2 : edOk x.1.other) (k3 : NdOk x.1.needs) :
    ∃ M', lkBody [some d0, some (.ref W), y0, some (edD x.1.one), some (edD x.1.other), some (.ref x.2), y4, y5] M = .nx [some d0, some (.ref W), y0, some (edD x.1.one), some (edD x.1.other), some (.ref x.2), some (.str (rowL (nrmL x.1))), y5] (M'.set W (.lst (old ++ [.str (rowL (nrmL x.1))]))) ∧ Up [] M M' := by
  have j1 := edT_len k1
  have j2 := edT_len k2
  have j3 := ndT_len k3
  have s1 := cat_ok (a := [108, 105, 110, 107, 32]) (b := edT x.1.one) (m := M) (by simp; omega)
  have s2 := cat_ok (a := [108, 105, 110, 107, 32] ++ edT x.1.one) (b := [32]) (m := M) (by simp; omega)
  have s3 := cat_ok (a := [108, 105, 110, 107, 32] ++ edT x.1.one ++ [32]) (b := edT x.1.other) (m := M) (by simp; omega)
  simp only [List.cons_append, List.nil_append, List.append_assoc] at s1 s2 s3
  have e1 : ∀ M, m_law_end_text [edD x.1.one] M = .ok (.str (edT x.1.one)) M := fun M => law_end_text_ok k1
  have e2 : ∀ M, m_law_end_text [edD x.1.other] M = .ok (.str (edT x.1.other)) M := fun M => law_end_text_ok k2
  have e3 : eqO (M ++ [.dct false []]) (.ref x.2) (.ref M.length) = some (decide (x.1.needs = [])) := by
    rw [eqO_dnil (get_app q2 _) get_new]; simp
  by_cases h0 : x.1.needs = []
  · refine ⟨M ++ [.dct false []], ?_, Up.app⟩
    have hz : rowL (nrmL x.1) = 108 :: 105 :: 110 :: 107 :: 32 :: (edT x.1.one ++ 32 :: edT x.1.other) := by simp [rowL, nrmL, h0, nrm, ndT]
    have c2' := get_app c2 [.dct false []]
    have b2 := row_ok (v := .str (rowL (nrmL x.1))) c2' hl
    rw [hz] at b2 ⊢
    rw [pAppend_ref] at b2
    simp [lkBody, e1, e2, e3, h0, s1, s2, s3, c2']
    rw [c2'] at b2
    simp [b2]
  · have t0 := rowL_len ⟨k1, k2, k3⟩
    obtain ⟨J, hJ⟩ : ∃ J, J = joinT andT ((nrm x.1.needs).map fun x => x.1 ++ [32] ++ x.2) := ⟨_, rfl⟩
    have hz : rowL (nrmL x.1) = 108 :: 105 :: 110 :: 107 :: 32 :: (edT x.1.one ++ 32 :: (edT x.1.other ++ 32 :: 119 :: 104 :: 101 :: 110 :: 32 :: J)) := by
      simp only [rowL, nrmL, ndT, nrm_nil, h0, if_false, ← hJ, whenT]; simp
    obtain ⟨mA, hA⟩ : ∃ mA, mA = M ++ [.dct false []] := ⟨_, rfl⟩
    have p2 : pSorted (.ref x.2) mA = .ok (.ref mA.length) (mA ++ [.lst ((nrm x.1.needs).map fun a => .str a.1)]) := pSorted_keys (ns := x.1.needs) k3.len (by rw [hA]; simp [itemsOf, get_app q2]; exact keysOf_t)
    have p3 := lc_map (i := 7) (ρ := [some d0, some (.ref W), y0, some (edD x.1.one), some (edD x.1.other), some (.ref x.2), some (.str (108 :: 105 :: 110 :: 107 :: 32 :: (edT x.1.one ++ 32 :: edT x.1.other))), y5]) (it := iList (eUn pSorted (eV 5))) (e := eOp pAdd (eOp pAdd (eV 7) (eC (.str [32]))) (eOp pIx (eV 5) (eV 7)))
      (m0 := mA) (m := mA ++ [.lst ((nrm x.1.needs).map fun a => .str a.1)]) (chk := fun M => isObj M mA.length (.lst ((nrm x.1.needs).map fun a => .str a.1)))
      (fun a => .str a.1) (fun x => .str (x.1 ++ [32] ++ x.2)) (nrm x.1.needs)
      (by simp [p2]) (isObj_ok (by simp)) (by have := k3.len; rw [nrm_len]; omega) (nd_elem k3 (get_app (by rw [hA]; exact get_app q2 _) _) rfl (by simp) (by decide))
    obtain ⟨mB, hB⟩ : ∃ mB, mB = mA ++ [.lst ((nrm x.1.needs).map fun a => .str a.1)] ++ [.lst ((nrm x.1.needs).map fun x => .str (x.1 ++ [32] ++ x.2))] := ⟨_, rfl⟩
    have uB : Up [] M mB := by rw [hB, hA, List.append_assoc, List.append_assoc]; exact Up.app
    obtain ⟨q0, hq⟩ : ∃ q0, q0 = (mA ++ [O.lst ((nrm x.1.needs).map fun a => .str a.1)]).length := ⟨_, rfl⟩
    have gB : mB[q0]? = some (.lst ((nrm x.1.needs).map fun x => .str (x.1 ++ [32] ++ x.2))) := by rw [hB, hq]; exact get_new
    rw [← hB, ← hq] at p3
    have p5 := nd_join (m := mB) k3
    rw [← hJ] at p5
    simp only [rowL, nrmL, ndT, nrm_nil, h0, if_false, ← hJ, List.length_append, List.length_cons, List.length_nil, whenT] at t0
    have p4 := cat_ok (a := 108 :: 105 :: 110 :: 107 :: 32 :: (edT x.1.one ++ 32 :: edT x.1.other)) (b := [32, 119, 104, 101, 110, 32]) (m := mA) (by simp; omega)
    have p6 := cat_ok (a := 108 :: 105 :: 110 :: 107 :: 32 :: (edT x.1.one ++ 32 :: edT x.1.other) ++ [32, 119, 104, 101, 110, 32]) (b := J) (m := mB) (by simp; omega)
    simp only [andT] at p5
    simp only [List.cons_append, List.nil_append, List.append_assoc] at p4 p6
    have b2 := row_ok (v := .str (rowL (nrmL x.1))) (uB.get _ _ c2 nofun) hl
    rw [pAppend_ref, uB.get _ _ c2 nofun] at b2
    refine ⟨mB, ?_, uB⟩
    rw [hz] at b2 ⊢
    rw [← hA] at e3
    rw [← gB] at p5
    simp [lkBody, e1, e2, ← hA, s1, s2, s3, e3, h0, p3, p4, p5, p6, uB.get _ _ c2 nofun, b2]
theorem law_text_ok {m : M} {d s p l g : Nat} {st : St} (h : StAt m d s p l g st) (z : Sz st) :
    ∃ m', m_law_text [.ref d] m = .ok (.str (textOf (nrmS st))) m' ∧ Up [] m m' := by
  obtain ⟨h1, h2, h3, ⟨xs, x1, x2, x3⟩, h5⟩ := h
  have z1 := z.s1
  have z2 := z.p1
  have z3 := z.l1
  have z4 := z.g1
  have z5 : xs.length = st.lks.length := by rw [x1]; simp
  have dp : p ≠ d := ne_of_get h3 h1 (by
    intro e
    have e := congrArg (fun o => match o with | O.dct _ ((k, D.str _) :: _) => 1 | O.dct _ ((k, _) :: _) => 2 | _ => 0) e
    cases hc : st.pts <;> simp [hc, tKv] at e)
  have dg : g ≠ d := ne_of_get h5 h1 (by
    intro e
    have e := congrArg (fun o => match o with | O.dct _ ((k, D.ref _) :: _) => 1 | _ => 0) e
    cases hc : st.sgs <;> simp [hc, eKv, edD] at e)
  -- sections
  have a1 := lc_map (i := 2) (ρ := [some (.ref d), none, none, none, none, none, none, none]) (it := iList (eOp pIx (eV 0) (eC (.str [115, 101, 99, 116, 105, 111, 110, 115])))) (e := eOp pAdd (eC (.str [115, 101, 99, 116, 105, 111, 110, 32])) (eV 2))
    (m0 := m) (m := m) (chk := fun M => isObj M s (.lst (st.secs.map .str))) D.str (fun x => .str (rowS x)) st.secs
    (by simp [h1, h2]) (isObj_ok h2) (by omega) (by
      intro x hx
      have := z.s2 x hx
      have := cat_ok (a := [115, 101, 99, 116, 105, 111, 110, 32]) (b := x) (m := m) (by simp; omega)
      simp [-List.cons_append, rowS, this])
  obtain ⟨m1, hm1⟩ : ∃ m1, m1 = m ++ [.lst (st.secs.map fun x => .str (rowS x))] := ⟨_, rfl⟩
  rw [← hm1] at a1
  have u1 : Up [] m m1 := by rw [hm1]; exact Up.app
  have r1 : m1[m.length]? = some (.lst ((st.secs.map rowS).map .str)) := by rw [hm1]; simp [Function.comp_def]
  -- points
  obtain ⟨m2, a2, u2, r2⟩ := lock_cat (kvs := st.pts) (f := .str) (e := eOp pIx (eV 0) (eC (.str [112, 111, 105, 110, 116, 115]))) (j := 2)
    (er := eOp pAdd (eOp pAdd (eOp pAdd (eC (.str [112, 111, 105, 110, 116, 32])) (eV 2)) (eC (.str [32, 105, 110, 32]))) (eOp pIx (eOp pIx (eV 0) (eC (.str [112, 111, 105, 110, 116, 115]))) (eV 2))) (row := rowP)
    (m := m1) (p := p) (W := m.length) (ρ := [some (.ref d), some (.ref m.length), none, none, none, none, none, none]) (u1.get _ _ h3 nofun) rfl r1 (by simp; omega)
    (by intro M u; simp [u.get _ _ (u1.get _ _ h1 nofun) (by simpa using dp.symm)])
    (by
      intro x hx M u hM
      have g1 := u.get _ _ (u1.get _ _ h1 nofun) (by simpa using dp.symm)
      have g2 : getKv (st.pts.map fun x => (.inr x.1, .str x.2)) (.inr x.1) = some (.str x.2) := getKv_t z.p3 hx
      have := z.p2 x hx
      have s1 := cat_ok (a := [112, 111, 105, 110, 116, 32]) (b := x.1) (m := M) (by simp; omega)
      have s2 := cat_ok (a := [112, 111, 105, 110, 116, 32] ++ x.1) (b := [32, 105, 110, 32]) (m := M) (by simp; omega)
      have s3 := cat_ok (a := [112, 111, 105, 110, 116, 32] ++ x.1 ++ [32, 105, 110, 32]) (b := x.2) (m := M) (by simp; omega)
      simp only [List.cons_append, List.nil_append, List.append_assoc] at s1 s2 s3
      simp [rowP, s1, s2, s3, g1, hM, g2])
  obtain ⟨W, hW⟩ : ∃ W, W = m1.length + 1 := ⟨_, rfl⟩
  rw [← hW] at a2 r2
  have u2 := u1.then u2
  have Wl : m.length ≤ W := by have := u1.le; omega
  -- links
  obtain ⟨_, m3, a3, ⟨y0, y1, y2, y3, y4, y5, rfl⟩, u3, r3⟩ := for_all (g := gTup [(gV 3), (gV 4), (gV 5)]) (it := iList (eOp pIx (eV 0) (eC (.str [108, 105, 110, 107, 115])))) (chk := fun M => isObj M l (.lst (xs.map lkD)))
    (body := lkBody)
    (ρ := [some (.ref d), some (.ref W), none, none, none, none, none, none]) (m := m2) (m1 := m2) lkD xs
    (fun pre ρ M => (∃ y0 y1 y2 y3 y4 y5 : Option D, ρ = [some (.ref d), some (.ref W), y0, y1, y2, y3, y4, y5]) ∧ Up [] m M ∧ M[W]? = some (.lst ((st.secs.map rowS ++ st.pts.map rowP ++ pre.map fun x => rowL (nrmL x.1)).map .str)))
    (by simp [u2.get _ _ h1 nofun, u2.get _ _ x2 nofun]) ⟨⟨none, none, none, none, none, none, rfl⟩, u2, by simpa using r2⟩
    (by
      rintro pre x post ρ M hx ⟨⟨y0, y1, y2, y3, y4, y5, rfl⟩, c1, c2⟩
      have hx2 : x ∈ xs := by rw [hx]; simp
      have hlen : pre.length ≤ xs.length := by rw [hx]; simp
      obtain ⟨k1, k2, k3⟩ := z.l2 x.1 (by rw [x1]; exact List.mem_map.mpr ⟨x, hx2, rfl⟩)
      obtain ⟨M', t1, t2⟩ := lkBody_ok (d0 := .ref d) (y0 := y0) (y4 := y4) (y5 := y5) c2 (by simp; omega) (c1.get _ _ (x3 x hx2) nofun) k1 k2 k3
      refine ⟨isObj_ok (c1.get _ _ x2 nofun), _, _, _, rfl, .inl t1, ⟨_, _, _, _, _, _, rfl⟩, ?_, ?_⟩
      · exact (c1.then t2).trans Up.set fun i hi => by simp at hi; omega
      · rw [get_set_self (t2.get _ _ c2 nofun)]; simp)
    (fun ρ M q => isObj_ok (q.2.1.get _ _ x2 nofun))
  -- signals
  obtain ⟨m4, a4, u4, r4⟩ := lock_cat (kvs := st.sgs) (f := edD) (e := eOp pIx (eV 0) (eC (.str [115, 105, 103, 110, 97, 108, 115]))) (j := 2)
    (er := eOp pAdd (eOp pAdd (eOp pAdd (eC (.str [115, 105, 103, 110, 97, 108, 32])) (eV 2)) (eC (.str [32, 97, 116, 32]))) (eFn m_law_end_text (aCons (eOp pIx (eOp pIx (eV 0) (eC (.str [115, 105, 103, 110, 97, 108, 115]))) (eV 2)) aNil))) (row := rowG)
    (m := m3) (p := g) (W := W) (ρ := [some (.ref d), some (.ref W), y0, y1, y2, y3, y4, y5]) (u3.get _ _ h5 nofun) rfl r3 (by simp; omega)
    (by intro M u; simp [u.get _ _ (u3.get _ _ h1 nofun) (by simpa using dg.symm)])
    (by
      intro x hx M u hM
      have g1 := u.get _ _ (u3.get _ _ h1 nofun) (by simpa using dg.symm)
      have g2 : getKv (st.sgs.map fun x => (.inr x.1, edD x.2)) (.inr x.1) = some (edD x.2) := getKv_e z.g3 hx
      obtain ⟨j1, j2⟩ := z.g2 x hx
      have j3 := edT_len j2
      have e1 : m_law_end_text [edD x.2] M = .ok (.str (edT x.2)) M := law_end_text_ok j2
      have s1 := cat_ok (a := [115, 105, 103, 110, 97, 108, 32]) (b := x.1) (m := M) (by simp; omega)
      have s2 := cat_ok (a := [115, 105, 103, 110, 97, 108, 32] ++ x.1) (b := [32, 97, 116, 32]) (m := M) (by simp; omega)
      have s3 := cat_ok (a := [115, 105, 103, 110, 97, 108, 32] ++ x.1 ++ [32, 97, 116, 32]) (b := edT x.2) (m := M) (by simp; omega)
      simp only [List.cons_append, List.nil_append, List.append_assoc] at s1 s2 s3
      simp [rowG, s1, s2, s3, g1, hM, g2, e1])
  have jn := rows_join z m4
  have rr : st.secs.map rowS ++ st.pts.map rowP ++ (xs.map fun x => rowL (nrmL x.1)) ++ st.sgs.map rowG = rowsOf (nrmS st) := by
    simp [rowsOf, nrmS, x1, Function.comp_def]
  rw [rr] at r4
  refine ⟨m4, ?_, u3.then u4⟩
  simp only [lkBody] at a3
  simp only [m_law_text, m_law_text_body, mkFn_1, Nat.add_one_sub_one, List.replicate, sSeq_eq, sAsg_eq, a1, as1_ok, gDo_V, List.set_cons_succ, List.set_cons_zero, sq1_nx, a2, a3, a4, sRet_eq, eM1_eq, eC_eq, m1_ok, isTy_str, beq_self_eq_true, if_true, eV_eq, List.getElem?_cons_succ, List.getElem?_cons_zero, vr_ok, m2_ok, pJoin_ref, r4, jn, R.calm_ok, rt1_ok, fnK_rt]
end Mn
end

section
set_option linter.all false
namespace Mn
/-! ### cutting texts -/
theorem splT_no {c : Nat} : ∀ {s acc : Tx}, c ∉ s → splT c acc s = [acc ++ s]
  | [], acc, _ => by simp [splT]
  | d :: r, acc, h => by
    simp only [List.mem_cons, not_or] at h
    simp only [splT, if_neg (Ne.symm h.1)]
    rw [splT_no h.2]; simp
theorem splT_cons {c : Nat} {b : Tx} : ∀ {a acc : Tx}, c ∉ a → splT c acc (a ++ c :: b) = (acc ++ a) :: splT c [] b
  | [], acc, _ => by simp [splT]
  | d :: r, acc, h => by
    simp only [List.mem_cons, not_or] at h
    simp only [List.cons_append, splT, if_neg (Ne.symm h.1)]
    rw [splT_cons h.2]; simp
theorem splT_join {c : Nat} : ∀ {rows : List Tx}, rows ≠ [] → (∀ r ∈ rows, c ∉ r) → splT c [] (joinT [c] rows) = rows
  | [], h, _ => absurd rfl h
  | [p], _, h => by simp [joinT, splT_no (h p (by simp))]
  | p :: q :: r, _, h => by
    have ih := splT_join (c := c) (rows := q :: r) (by simp) fun x hx => h x (by simp only [List.mem_cons] at hx ⊢; exact .inr hx)
    simp only [joinT, List.cons_append, List.nil_append]
    rw [splT_cons (h p (by simp)), ih]; simp
theorem parT_cons {c : Nat} {b : Tx} : ∀ {a acc : Tx}, c ∉ a → parT c acc (a ++ c :: b) = some (acc ++ a, b)
  | [], acc, _ => by simp [parT]
  | d :: r, acc, h => by
    simp only [List.mem_cons, not_or] at h
    simp only [List.cons_append, parT, if_neg (Ne.symm h.1)]
    rw [parT_cons h.2]; simp
def SIGNS : Tx := [97, 98, 99, 100, 101, 102, 103, 104, 105, 106, 107, 108, 109, 110, 111, 112, 113, 114, 115, 116, 117, 118, 119, 120, 121, 122, 48, 49, 50, 51, 52, 53, 54, 55, 56, 57]
structure good (s : Tx) : Prop where
  lo : 1 ≤ s.length
  hi : s.length ≤ 6
  sg : ∀ c ∈ s, c ∈ SIGNS
theorem good.no {s : Tx} (h : good s) {c : Nat} (hc : c ∉ SIGNS) : c ∉ s := fun e => hc (h.sg c e)
theorem good.n32 {s : Tx} (h : good s) : 32 ∉ s := h.no (by decide)
theorem good.n10 {s : Tx} (h : good s) : 10 ∉ s := h.no (by decide)
theorem good.n46 {s : Tx} (h : good s) : 46 ∉ s := h.no (by decide)
theorem edT_eq {e : Ed} (h : e.2 < 2) : edT e = e.1 ++ [46, 48 + e.2] := by simp [edT, numT_1 (show e.2 < 10 by omega)]
theorem edT_no {e : Ed} (g : good e.1) (h : e.2 < 2) {c : Nat} (hc : c ∉ SIGNS) (h2 : c ≠ 46) : c ∉ edT e := by
  rw [edT_eq h]
  simp only [List.mem_append, List.mem_cons, List.not_mem_nil, or_false, not_or]
  refine ⟨g.no hc, h2, fun e2 => hc ?_⟩
  have : e.2 = 0 ∨ e.2 = 1 := by omega
  rcases this with e3 | e3 <;> rw [e2, e3] <;> decide
theorem words_S {s : Tx} (g : good s) : splT 32 [] (rowS s) = [secT, s] := by
  have : rowS s = secT ++ 32 :: s := by simp [rowS, secT]
  rw [this, splT_cons (by decide), splT_no g.n32]; simp
theorem words_P {p : Tx × Tx} (g : good p.1) (g2 : good p.2) : splT 32 [] (rowP p) = [poiT, p.1, [105, 110], p.2] := by
  have : rowP p = poiT ++ 32 :: (p.1 ++ 32 :: ([105, 110] ++ 32 :: p.2)) := by simp [rowP, poiT]
  rw [this, splT_cons (by decide), splT_cons g.n32, splT_cons (by decide), splT_no g2.n32]; simp
theorem words_G {p : Tx × Ed} (g : good p.1) (g2 : good p.2.1) (h : p.2.2 < 2) : splT 32 [] (rowG p) = [sigT, p.1, [97, 116], edT p.2] := by
  have : rowG p = sigT ++ 32 :: (p.1 ++ 32 :: ([97, 116] ++ 32 :: edT p.2)) := by simp [rowG, sigT]
  rw [this, splT_cons (by decide), splT_cons g.n32, splT_cons (by decide), splT_no (edT_no g2 h (by decide) (by decide))]; simp
def whT : Tx := [119, 104, 101, 110]
def anT : Tx := [97, 110, 100]
def ndW (ns : List (Tx × Tx)) : List Tx := match ns with
  | [] => []
  | [a] => [whT, a.1, a.2]
  | a :: b :: _ => [whT, a.1, a.2, anT, b.1, b.2]
theorem words_L {k : Lk} (g1 : good k.one.1) (h1 : k.one.2 < 2) (g2 : good k.other.1) (h2 : k.other.2 < 2) (hl : k.needs.length ≤ 2) (hn : ∀ n ∈ k.needs, good n.1 ∧ 32 ∉ n.2) :
    splT 32 [] (rowL k) = linT :: edT k.one :: edT k.other :: ndW k.needs := by
  have e1 := edT_no g1 h1 (c := 32) (by decide) (by decide)
  have e2 := edT_no g2 h2 (c := 32) (by decide) (by decide)
  match hk : k.needs, hl with
  | [], _ =>
    have : rowL k = linT ++ 32 :: (edT k.one ++ 32 :: edT k.other) := by simp [rowL, linT, hk, ndT]
    rw [this, splT_cons (by decide), splT_cons e1, splT_no e2]; simp [ndW]
  | [a], _ =>
    have na := hn a (by simp [hk])
    have : rowL k = linT ++ 32 :: (edT k.one ++ 32 :: (edT k.other ++ 32 :: (whT ++ 32 :: (a.1 ++ 32 :: a.2)))) := by simp [rowL, linT, hk, ndT, whenT, whT, joinT]
    rw [this, splT_cons (by decide), splT_cons e1, splT_cons e2, splT_cons (by decide), splT_cons na.1.n32, splT_no na.2]; simp [ndW]
  | [a, b], _ =>
    have na := hn a (by simp [hk])
    have nb := hn b (by simp [hk])
    have : rowL k = linT ++ 32 :: (edT k.one ++ 32 :: (edT k.other ++ 32 :: (whT ++ 32 :: (a.1 ++ 32 :: (a.2 ++ 32 :: (anT ++ 32 :: (b.1 ++ 32 :: b.2))))))) := by simp [rowL, linT, hk, ndT, whenT, whT, joinT, andT, anT]
    rw [this, splT_cons (by decide), splT_cons e1, splT_cons e2, splT_cons (by decide), splT_cons na.1.n32, splT_cons na.2, splT_cons (by decide), splT_cons nb.1.n32, splT_no nb.2]; simp [ndW]
/-! ### the reader -/
structure RdAt (m : M) (a : Nat) (st : St) : Prop where
  hr : ∃ k : Int, m[a]? = some (.ins 2 [(7, .ref (a + 1)), (8, .int k), (9, .ref (a + 6))])
  hL : m[a + 1]? = some (.ins 1 [(3, .ref (a + 2)), (4, .ref (a + 3)), (5, .ref (a + 4)), (6, .ref (a + 5))])
  hs : m[a + 2]? = some (.lst (st.secs.map .str))
  hp : m[a + 3]? = some (.dct false (st.pts.map tKv))
  hl : ∃ xs : List (Lk × Nat × Nat), st.lks = xs.map (·.1) ∧ m[a + 4]? = some (.lst (xs.map fun x => .ref x.2.1)) ∧
    ∀ x ∈ xs, (a + 7 ≤ x.2.1 ∧ a + 7 ≤ x.2.2) ∧ m[x.2.1]? = some (.ins 0 [(0, edD x.1.one), (1, edD x.1.other), (2, .ref x.2.2)]) ∧ m[x.2.2]? = some (.dct false (x.1.needs.map tKv))
  hg : m[a + 5]? = some (.dct false (st.sgs.map eKv))
  hB : a + 7 ≤ m.length
def Cnt (m : M) (a n1 n2 n3 n4 : Nat) : Prop := m[a + 6]? = some (.dct false [(.inr secT, .int (n1 : Int)), (.inr poiT, .int (n2 : Int)), (.inr linT, .int (n3 : Int)), (.inr sigT, .int (n4 : Int))])
theorem RdAt.up6 {m m' : M} {a : Nat} {st : St} (h : RdAt m a st) (u : Up [a + 6] m m') : RdAt m' a st := by
  obtain ⟨⟨k, h0⟩, h1, h2, h3, ⟨xs, x1, x2, x3⟩, h5, h6⟩ := h
  exact ⟨⟨k, u.get _ _ h0 (by simp)⟩, u.get _ _ h1 (by simp), u.get _ _ h2 (by simp), u.get _ _ h3 (by simp), ⟨xs, x1, u.get _ _ x2 (by simp), fun x hx => ⟨(x3 x hx).1, u.get _ _ (x3 x hx).2.1 (by have := (x3 x hx).1; simp; omega), u.get _ _ (x3 x hx).2.2 (by have := (x3 x hx).1; simp; omega)⟩⟩, u.get _ _ h5 (by simp), Nat.le_trans h6 u.le⟩
theorem RdAt.up {m m' : M} {a : Nat} {st : St} (h : RdAt m a st) (u : Up [] m m') : RdAt m' a st := h.up6 (u.mono (by simp))
theorem RdAt.lay {m : M} {a : Nat} {st : St} (h : RdAt m a st) : LayAt m (a + 1) (a + 2) (a + 3) (a + 4) (a + 5) st := by
  obtain ⟨⟨k, h0⟩, h1, h2, h3, ⟨xs, x1, x2, x3⟩, h5, h6⟩ := h
  exact ⟨h1, h2, h3, ⟨xs, x1, x2, fun x hx => (x3 x hx).2⟩, h5⟩
@[simp] theorem must_ok {d : D} {m : M} : m_Reader_must [d, .bl true] m = .ok .non m := by
  simp [m_Reader_must, m_Reader_must_body]
@[simp] theorem inO_sig {m : M} {c : Nat} {s : Tx} : inO m (.str [c]) (.str s) = some (decide (c ∈ s)) := by simp [inO]
@[simp] theorem iStr_eq {e ρ m} : iStr e ρ m = it1 (fun x m1 => match x with
  | .str s => .ok (s.map (fun c => D.str [c]), fun _ => true) m1
  | _ => .bad) (e ρ m) := nr rfl
theorem len_ok {s : Tx} {m : M} (h : s.length ≤ 100000) : pLen (.str s) m = .ok (.int s.length) m := pLen_str (by simp only [LIM]; omega)
theorem fresh_ok {m : M} {a : Nat} {st : St} {name : Tx} (h : RdAt m a st) (g : good name) (n1 : name ∉ st.secs) (n2 : name ∉ st.pts.map (·.1)) (n3 : name ∉ st.sgs.map (·.1)) :
    ∃ m', m_Reader_fresh [.ref a, .str name] m = .ok (.str name) m' ∧ Up [] m m' := by
  obtain ⟨k, h0⟩ := h.hr
  refine ⟨m ++ [.lst [], .lst []], ?_, Up.app⟩
  have h0' := get_app h0 [.lst [], .lst []]
  have h1' := get_app h.hL [.lst [], .lst []]
  have e1 := inO_strs (s := name) (get_app h.hs [.lst [], .lst []])
  have e2 := inO_key (s := name) (f := D.str) (get_app h.hp [.lst [], .lst []])
  have e3 := inO_key (s := name) (f := edD) (get_app h.hg [.lst [], .lst []])
  simp only [n1, n2, n3, decide_false] at e1 e2 e3
  have p1 := lc_pure (i := 2) (ρ := [some (.ref a), some (.str name), none]) (it := iStr (eV 1)) (chk := fun _ => true) (t := tV (eOp pNotIn (eV 2) (eC (.str SIGNS)))) (e := eV 2) (m0 := m) (m := m)
    (fun c => .str [c]) (fun c => !decide (c ∈ SIGNS)) (fun c => .str [c]) name (by simp) rfl (by have := g.hi; omega) (by intro x _; simp) (by intro x _ _; simp)
  have p2 : name.filter (fun c => !decide (c ∈ SIGNS)) = [] := by
    rw [List.filter_eq_nil_iff]; intro c hc; simp [g.sg c hc]
  rw [p2] at p1
  simp only [SIGNS, List.map_nil] at p1
  have e4 : eqO (m ++ [.lst [], .lst []]) (.ref m.length) (.ref (m.length + 1)) = some true := by
    rw [eqO_nil_s (xs := []) (by simp) (by simp)]; simp
  have hlo := g.lo
  have hhi := g.hi
  have i1 : (1 : Int) ≤ name.length := by omega
  have i2 : (name.length : Int) ≤ 6 := by omega
  simp [m_Reader_fresh, m_Reader_fresh_body, h0, len_ok (show name.length ≤ 100000 by omega), i1, i2, p1, e4, h0', h1', e1, e2, e3]
end Mn
end

section
set_option linter.all false
namespace Mn
theorem end_ok {m : M} {a : Nat} {st : St} {e : Ed} (h : RdAt m a st) (g : good e.1) (h2 : e.2 < 2) (hm : e.1 ∈ st.secs) :
    m_Reader_end [.ref a, .str (edT e)] m = .ok (edD e) m := by
  obtain ⟨k, h0⟩ := h.hr
  have hhi := g.hi
  have p1 : pPartition (.str (edT e)) (.str [46]) m = .ok (.tup [.str e.1, .str [46], .str [48 + e.2]]) m := by
    have : (edT e).length ≤ LIM := by rw [edT_eq h2]; simp [LIM]; omega
    simp only [pPartition, this, if_true]
    rw [edT_eq h2, parT_cons g.n46]; simp
  have e1 := inO_strs (s := e.1) h.hs
  simp only [hm, decide_true] at e1
  have e2 : inO m (.str [48 + e.2]) (.tup [.str [48], .str [49]]) = some true := by
    rw [inO_t2]
    have : e.2 = 0 ∨ e.2 = 1 := by omega
    rcases this with e3 | e3 <;> simp [e3]
  have e3 : pInt (.str [48 + e.2]) m = .ok (.int e.2) m := by
    have : e.2 = 0 ∨ e.2 = 1 := by omega
    rcases this with e3 | e3 <;> rw [e3] <;> rfl
  simp [m_Reader_end, m_Reader_end_body, p1, h0, h.hL, e1, e2, e3, edD]
/-! needs -/
def liesBody : MS := (sSeq (sExp (eMeth 2 m_Reader_must (eV 0) (aCons (eOr (eOp pEq (eV 4) (eC (.int 0))) (eOp pEq (eOp pIx (eV 1) (eV 4)) (eC (.str [97, 110, 100])))) aNil)))
    (sSeq (sAsg (gV 5) (eOp pIx (eV 1) (eOp pAdd (eV 4) (eC (.int 1)))))
    (sSeq (sExp (eMeth 2 m_Reader_must (eV 0) (aCons (eAnd (eOp pIn (eV 5) (eFld cs_points 4 (eFld cs_layout 7 (eV 0)))) (eAnd (eOp pNotIn (eV 5) (eV 3)) (eOp pIn (eOp pIx (eV 1) (eOp pAdd (eV 4) (eC (.int 2)))) (eTup (aCons (eC (.str [110])) (aCons (eC (.str [114])) aNil)))))) aNil)))
    (sSeq (sExp (eMeth 2 m_Reader_must (eV 0) (aCons (eOp pIn (eOp pIx (eFld cs_points 4 (eFld cs_layout 7 (eV 0))) (eV 5)) (eV 2)) aNil)))
    (sSeq (sExp (eMeth 2 m_Reader_must (eV 0) (aCons (eOr (eOp pEq (eV 3) eD0) (eOp pGt (eV 5) (eOp pIx (eUn pSorted (eUn pList (eV 3))) (eUn pNeg (eC (.int 1)))))) aNil)))
    (sSetIx (eV 3) (eV 5) (eOp pIx (eV 1) (eOp pAdd (eV 4) (eC (.int 2))))))))))
theorem liesBody_ok {m : M} {a w f : Nat} {at_ : Int} {st : St} {ws : List D} {s1 s2 t0 q sec x : Tx} {fo : List (Tx × Tx)} {z : Option D} (h : RdAt m a st)
    (hw : m[w]? = some (.lst ws)) (hf : m[f]? = some (.dct false (fo.map tKv))) (w0 : atI ws at_ = some (.str t0)) (w0' : at_ = 0 ∨ t0 = [97, 110, 100])
    (w1 : atI ws (at_ + 1) = some (.str q)) (w2 : atI ws (at_ + 2) = some (.str x)) (hx : x = [110] ∨ x = [114]) (pn : (st.pts.map (·.1)).Nodup) (hq : (q, sec) ∈ st.pts) (hs : sec = s1 ∨ sec = s2)
    (hfo : fo = [] ∨ ∃ b, fo = [b] ∧ b.1 < q) :
    ∃ M', liesBody [some (.ref a), some (.ref w), some (.tup [.str s1, .str s2]), some (.ref f), some (.int at_), z] m = .nx [some (.ref a), some (.ref w), some (.tup [.str s1, .str s2]), some (.ref f), some (.int at_), some (.str q)] (M'.set f (.dct false ((fo ++ [(q, x)]).map tKv))) ∧ Up [] m M' := by
  obtain ⟨k, h0⟩ := h.hr
  have qn : q ∉ fo.map (·.1) := by
    rcases hfo with rfl | ⟨b, rfl, hb⟩
    · simp
    · simp only [List.map_cons, List.map_nil, List.mem_singleton]
      intro e; rw [e] at hb; exact absurd hb (List.lt_irrefl _)
  have e1 := inO_key (s := q) (f := D.str) h.hp
  have : q ∈ st.pts.map (·.1) := List.mem_map.mpr ⟨_, hq, rfl⟩
  simp only [this, decide_true] at e1
  have e2 := inO_key (s := q) (f := D.str) hf
  simp only [qn, decide_false] at e2
  have e3 : inO m (.str x) (.tup [.str [110], .str [114]]) = some true := by rw [inO_t2]; simp [hx]
  have e4 : inO m (.str sec) (.tup [.str s1, .str s2]) = some true := by rw [inO_t2]; simp [hs]
  have e5 : getKv (st.pts.map tKv) (.inr q) = some (.str sec) := getKv_t pn hq
  have e7 : putKv (fo.map tKv) (.inr q) (.str x) = (fo ++ [(q, x)]).map tKv := putKv_new (f := D.str) qn
  have c0 : (if at_ = 0 then (R.ok (D.bl true) m) else R.ok (.bl (decide (t0 = [97, 110, 100]))) m) = .ok (.bl true) m := by
    rcases w0' with e | e <;> simp [e]
  rcases hfo with rfl | ⟨b, rfl, hb⟩
  · have e6 : eqO (m ++ [.dct false []]) (.ref f) (.ref m.length) = some true := by rw [eqO_dnil (get_app hf _) get_new]; simp
    refine ⟨m ++ [.dct false []], ?_, Up.app⟩
    simp [liesBody, h0, w0, hw, c0, w1, w2, h.hL, h.hp, e1, e2, e3, e4, e5, e6, get_app hw, get_app hf]
    rw [setOb_dct (by simp [LIM])]
    simp at e7
    simp [e7]
  · have e6 : eqO (m ++ [.dct false []]) (.ref f) (.ref m.length) = some false := by rw [eqO_dnil (get_app hf _) get_new]; simp
    obtain ⟨mA, hA⟩ : ∃ mA, mA = m ++ [.dct false []] := ⟨_, rfl⟩
    have uA : Up [] m mA := by rw [hA]; exact Up.app
    have p1 : pList (.ref f) mA = .ok (.ref mA.length) (mA ++ [.lst [.str b.1]]) := by
      simp [pList, uA.get _ _ hf nofun, keysOf, tKv, kD]
    have p2 : pSorted (.ref mA.length) (mA ++ [.lst [.str b.1]]) = _ := pSorted_keys (ns := [b]) (by simp) (by simp [itemsOf])
    simp only [List.length_append, List.length_cons, List.length_nil, nrm, List.map_cons, List.map_nil, List.append_assoc, List.cons_append, List.nil_append] at p2
    obtain ⟨mB, hB⟩ : ∃ mB, mB = mA ++ [.lst [.str b.1], .lst [.str b.1]] := ⟨_, rfl⟩
    have uB : Up [] mA mB := by rw [hB]; exact Up.app
    have gB : mB[mA.length + 1]? = some (.lst [.str b.1]) := by rw [hB]; simp
    have p3 : atI [D.str b.1] (-1) = some (.str b.1) := by simp [atI, ixN]
    rw [← hB] at p2
    have u := uA.then uB
    refine ⟨mB, ?_, u⟩
    rw [← hA] at e6
    simp [liesBody, h0, w0, hw, c0, w1, w2, h.hL, h.hp, e1, e2, e3, e4, e5, ← hA, e6, p1, p2, p3, gB, hb, u.get _ _ hw nofun, u.get _ _ hf nofun]
    rw [setOb_dct (by simp [LIM])]
    simp at e7
    simp [e7]
structure NeedOk (st : St) (k : Lk) : Prop where
  len : k.needs.length ≤ 2
  srt : k.needs.Pairwise fun a b => a.1 < b.1
  ok : ∀ n ∈ k.needs, (∃ sec, (n.1, sec) ∈ st.pts ∧ (sec = k.one.1 ∨ sec = k.other.1)) ∧ (n.2 = [110] ∨ n.2 = [114])
def r3k (j : Int) (m : M) : R (List D × (M → Bool)) := if 0 ≤ j ∧ j < 1000000 then .ok ((List.range ((j.toNat + 2) / 3)).map fun (k : Nat) => D.int ((k : Int) * 3), fun _ => true) m else .bad
theorem iRng3_k {x : MA} {ρ : Fr} {m : M} {j : Int} (h : x ρ m = .ok [.int 0, .int j, .int 3] m) : iRng3 x ρ m = r3k j m := by
  unfold iRng3; rw [h]; rfl
theorem r3k_ok {m : M} {n : Nat} (hn : n < 1000) : r3k (n : Int) m = .ok ((List.range ((n + 2) / 3)).map fun (k : Nat) => D.int ((k : Int) * 3), fun _ => true) m := by
  have h1 : (0 : Int) ≤ n := by omega
  have h2 : (n : Int) < 1000000 := by omega
  unfold r3k
  rw [if_pos ⟨h1, h2⟩, Int.toNat_natCast]
theorem rng3_ok {x : MA} {ρ : Fr} {m : M} {n : Nat} (h : x ρ m = .ok [.int 0, .int (n : Int), .int 3] m) (hn : n < 1000) :
    iRng3 x ρ m = .ok ((List.range ((n + 2) / 3)).map fun (k : Nat) => D.int ((k : Int) * 3), fun _ => true) m := by
  rw [iRng3_k h, r3k_ok hn]
theorem lies_ok {m : M} {a w : Nat} {st : St} {k : Lk} (h : RdAt m a st) (hw : m[w]? = some (.lst ((ndW k.needs).map .str))) (pn : (st.pts.map (·.1)).Nodup) (ok : NeedOk st k) :
    ∃ M', m_Reader_lies_of [.ref a, .ref w, .tup [.str k.one.1, .str k.other.1]] m = .ok (.ref m.length) M' ∧ M'[m.length]? = some (.dct false (k.needs.map tKv)) ∧ Up [] m M' := by
  obtain ⟨kk, h0⟩ := h.hr
  obtain ⟨mA, hA⟩ : ∃ mA, mA = m ++ [.dct false [], .lst []] := ⟨_, rfl⟩
  obtain ⟨f, hf⟩ : ∃ f, f = m.length := ⟨_, rfl⟩
  have uA : Up [] m mA := by rw [hA]; exact Up.app
  have hA' := uA.get _ _ h0 nofun
  have wA := uA.get _ _ hw nofun
  have fA : mA[f]? = some (.dct false (([] : List (Tx × Tx)).map tKv)) := by rw [hA, hf]; simp
  have sA := h.up uA
  have upf : ∀ {m1 m2 : M} {o : O}, Up [] m m1 → Up [] m1 m2 → Up [] m (m2.set f o) := fun u v => (u.then v).trans Up.set fun i hi => by simp at hi; omega
  have wf : f ≠ w := by have := get_lt hw; omega
  have e1 : eqO mA (.ref w) (.ref (m.length + 1)) = some (decide (ndW k.needs = [])) := eqO_nil_s wA (by rw [hA]; simp)
  rw [← hf] at e1
  have hr : ∀ {n : Nat}, mA[w]? = some (.lst ((ndW k.needs).map .str)) → (ndW k.needs).length = n → n < 1000 → iRng3 (aCons (eC (.int 0)) (aCons (eUn pLen (eV 1)) (aCons (eC (.int 3)) aNil))) [some (.ref a), some (.ref w), some (.tup [.str k.one.1, .str k.other.1]), some (.ref f), none, none] mA = .ok ((List.range ((n + 2) / 3)).map fun (k : Nat) => D.int ((k : Int) * 3), fun _ => true) mA := fun hw hn hl => by
    refine rng3_ok ?_ hl
    simp [hw, hn]
  have key : ∃ ρ' M', sFor (gV 4) (iRng3 (aCons (eC (.int 0)) (aCons (eUn pLen (eV 1)) (aCons (eC (.int 3)) aNil)))) liesBody [some (.ref a), some (.ref w), some (.tup [.str k.one.1, .str k.other.1]), some (.ref f), none, none] mA = .nx ρ' M' ∧
      ρ'[3]? = some (some (.ref f)) ∧ M'[f]? = some (.dct false (k.needs.map tKv)) ∧ Up [] m M' := by
    match hk : k.needs, ok.len with
    | [], _ =>
      refine ⟨[some (.ref a), some (.ref w), some (.tup [.str k.one.1, .str k.other.1]), some (.ref f), none, none], mA, ?_, rfl, by simpa using fA, uA⟩
      rw [sFor_eq, hr wA (n := 0) (by simp [hk, ndW]) (by omega)]
      simp [forGo]
    | [b], _ =>
      obtain ⟨⟨sec, b1, b2⟩, b3⟩ := ok.ok b (by simp [hk])
      have wB := wA
      simp only [hk, ndW, List.map_cons, List.map_nil] at wB
      obtain ⟨M', t1, t2⟩ := liesBody_ok (z := none) (at_ := 0) (t0 := whT) sA wB fA (by simp) (.inl rfl) (by simp) (by simp) b3 pn b1 b2 (.inl rfl)
      refine ⟨[some (.ref a), some (.ref w), some (.tup [.str k.one.1, .str k.other.1]), some (.ref f), some (.int 0), some (.str b.1)], M'.set f (.dct false (([] ++ [(b.1, b.2)]).map tKv)), ?_, rfl, ?_, upf uA t2⟩
      · rw [sFor_eq, hr wA (n := 3) (by simp [hk, ndW]) (by omega)]
        simp [forGo, gV, t1, List.range, List.range.loop]
      · rw [get_set_self (t2.get _ _ fA nofun)]; rfl
    | [b, c], _ =>
      obtain ⟨⟨sec, b1, b2⟩, b3⟩ := ok.ok b (by simp [hk])
      obtain ⟨⟨sec2, c1, c2⟩, c3⟩ := ok.ok c (by simp [hk])
      have hbc : b.1 < c.1 := by
        have := ok.srt
        rw [hk] at this
        simpa using this
      have wB := wA
      simp only [hk, ndW, List.map_cons, List.map_nil] at wB
      obtain ⟨M', t1, t2⟩ := liesBody_ok (z := none) (at_ := 0) (t0 := whT) sA wB fA (by simp) (.inl rfl) (by simp) (by simp) b3 pn b1 b2 (.inl rfl)
      obtain ⟨M1, hM1⟩ : ∃ M1, M1 = M'.set f (.dct false (([] ++ [b]).map tKv)) := ⟨_, rfl⟩
      have hh : [] ++ [(b.1, b.2)] = [b] := rfl
      have u1 : Up [] m M1 := by rw [hM1]; exact upf uA t2
      have f1 : M1[f]? = some (.dct false ([b].map tKv)) := by rw [hM1]; exact get_set_self (t2.get _ _ fA nofun)
      obtain ⟨M2, t3, t4⟩ := liesBody_ok (z := some (.str b.1)) (at_ := 3) (t0 := anT) (ws := [.str whT, .str b.1, .str b.2, .str anT, .str c.1, .str c.2]) (w := w) (s1 := k.one.1) (s2 := k.other.1) (h.up u1)
        (by rw [hM1, get_set_ne wf]; exact t2.get _ _ wB nofun) f1 (by simp) (.inr rfl) rfl rfl c3 pn c1 c2 (.inr ⟨b, rfl, hbc⟩)
      refine ⟨[some (.ref a), some (.ref w), some (.tup [.str k.one.1, .str k.other.1]), some (.ref f), some (.int 3), some (.str c.1)], M2.set f (.dct false (([b] ++ [(c.1, c.2)]).map tKv)), ?_, rfl, ?_, upf u1 t4⟩
      · rw [sFor_eq, hr wA (n := 6) (by simp [hk, ndW]) (by omega)]
        rw [hM1] at t3
        simp [forGo, gV, List.range, List.range.loop]
        simp at t1 t3
        simp [t1, t3]
      · rw [get_set_self (t4.get _ _ f1 nofun)]; rfl
  obtain ⟨ρ', M', k1, k2, k3, k4⟩ := key
  simp only [liesBody] at k1
  refine ⟨M', ?_, by rw [← hf]; exact k3, k4⟩
  have w1 := get_app hw [.dct false []]
  have hm : (eOr (eOp pEq (eV 1) (eLst aNil)) (eAnd (eOp pEq (eOp pIx (eV 1) (eC (.int 0))) (eC (.str [119, 104, 101, 110]))) (eOp pEq (eOp pMod (eUn pLen (eV 1)) (eC (.int 3))) (eC (.int 0))))) [some (.ref a), some (.ref w), some (.tup [.str k.one.1, .str k.other.1]), some (.ref f), none, none] (m ++ [.dct false []]) = .ok (.bl true) mA := by
    have md : ∀ (x : Int) (m : M), pMod (.int x) (.int 3) m = .ok (.int (x.fmod 3)) m := fun x m => pMod_ok (by decide)
    rw [hf] at e1
    rw [hA] at e1 wA ⊢
    match hk : k.needs, ok.len with
    | [], _ => simp [hk, ndW] at e1 ⊢; simp [e1]
    | [b], _ => simp [hk, ndW] at e1 wA ⊢; simp [e1, wA, md, whT]
    | [b, c], _ => simp [hk, ndW] at e1 wA ⊢; simp [e1, wA, md, whT]
  have a0 := get_app h0 [.dct false []]
  rw [hf] at hm k1 k2
  simp [-eOr_eq, -sFor_eq, m_Reader_lies_of, m_Reader_lies_of_body, a0, hA', hm, k1, k2]
end Mn
end

section
set_option linter.all false
namespace Mn
/-! dict.get -/
def dicOb (o : Option O) : Bool := match o with
  | some (.dct _ _) => true
  | _ => false
@[simp] theorem isDic_ref {a m} : isDic (.ref a) m = dicOb m[a]? := nr rfl
@[simp] theorem dicOb_ok {lk kvs} : dicOb (some (.dct lk kvs)) = true := nr rfl
def g23 (x y : D) (r : R D) : R D := r.bind fun z m3 => (pGet2 x y z m3).calm
def g22 (d : ME) (ρ : Fr) (x : D) (r : R D) : R D := r.bind fun y m2 => g23 x y (d ρ m2)
def g21 (k d : ME) (ρ : Fr) (r : R D) : R D := r.bind fun x m1 => if isDic x m1 = false then .bad else g22 d ρ x (k ρ m1)
@[simp] theorem eGet2_eq {o k d ρ m} : eGet2 o k d ρ m = g21 k d ρ (o ρ m) := nr rfl
@[simp] theorem g21_ok {k d ρ x m} : g21 k d ρ (.ok x m) = if isDic x m = false then .bad else g22 d ρ x (k ρ m) := nr rfl
@[simp] theorem g22_ok {d ρ x y m} : g22 d ρ x (.ok y m) = g23 x y (d ρ m) := nr rfl
@[simp] theorem g23_ok {x y z m} : g23 x y (.ok z m) = (pGet2 x y z m).calm := nr rfl
def g2Ob (o : Option O) (k : Tx) (d : D) (m : M) : R D := match o with
  | some (.dct _ kvs) => .ok ((getKv kvs (.inr k)).getD d) m
  | _ => .bad
@[simp] theorem pGet2_ref {a k d m} : pGet2 (.ref a) (.str k) d m = g2Ob m[a]? k d m := nr rfl
@[simp] theorem g2Ob_ok {lk kvs k d m} : g2Ob (some (.dct lk kvs)) k d m = .ok ((getKv kvs (.inr k)).getD d) m := nr rfl
def lookT (ns : List (Tx × Tx)) (p : Tx) : Option Tx := match ns with
  | [] => none
  | x :: r => if x.1 = p then some x.2 else lookT r p
theorem getKv_look {ns : List (Tx × Tx)} {p : Tx} : getKv (ns.map tKv) (.inr p) = (lookT ns p).map .str := by
  induction ns with
  | nil => rfl
  | cons x r ih =>
    simp only [List.map_cons, tKv, getKv_cons, Sum.inr.injEq, lookT]
    split
    · rfl
    · exact ih
theorem look_getD {ns : List (Tx × Tx)} {p v : Tx} : ((lookT ns p).map D.str).getD (.str v) = .str ((lookT ns p).getD v) := by
  cases lookT ns p <;> rfl
/-- some point lies otherwise -/
def Apart (old new : List (Tx × Tx)) : Prop := ∃ n ∈ new, (lookT old n.1).getD n.2 ≠ n.2
def shares (e : Ed) (k : Lk) : Bool := decide (e = k.one ∨ e = k.other)
@[simp] theorem pIx_ed0 {e : Ed} {m} : pIx (edD e) (.int 0) m = .ok (.str e.1) m := by simp [edD]
@[simp] theorem pIx_ed1 {e : Ed} {m} : pIx (edD e) (.int 1) m = .ok (.int (e.2 : Int)) m := by simp [edD]
theorem links_at_ok {m : M} {a : Nat} {xs : List (Lk × Nat × Nat)} {e : Ed} {p2 p3 p5 : D} (hL : m[a + 1]? = some (.ins 1 [(3, p2), (4, p3), (5, .ref (a + 4)), (6, p5)])) (x2 : m[a + 4]? = some (.lst (xs.map fun x => .ref x.2.1)))
    (x3 : ∀ x ∈ xs, m[x.2.1]? = some (.ins 0 [(0, edD x.1.one), (1, edD x.1.other), (2, .ref x.2.2)])) (hl : xs.length ≤ 1000) :
    m_Layout_links_at [.ref (a + 1), edD e] m = .ok (.ref m.length) (m ++ [.lst ((xs.filter fun x => shares e x.1).map fun x => .ref x.2.1)]) := by
  have p1 := lc_pure (i := 2) (ρ := [some (.ref (a + 1)), some (edD e), none]) (it := iList (eFld cs_links 5 (eV 0))) (chk := fun M => isObj M (a + 4) (.lst (xs.map fun x => .ref x.2.1)))
    (t := tV (eOp pIn (eV 1) (eTup (aCons (eFld cs_one 0 (eV 2)) (aCons (eFld cs_other 1 (eV 2)) aNil))))) (e := eV 2) (m0 := m) (m := m)
    (fun x => .ref x.2.1) (fun x => shares e x.1) (fun x => .ref x.2.1) xs (by simp [hL, x2]) (isObj_ok x2) hl
    (by intro x hx; simp [x3 x hx, inO_e2, shares]) (by intro x _ _; simp)
  simp [m_Layout_links_at, m_Layout_links_at_body, p1]
def apBody : MS := (sSeq (sLock (eV 4) (sAsg (gV 7) (eLc 8 (iKeys (eV 4)) (tV (eOp pNe (eGet2 (eFld cs_needs 2 (eV 6)) (eV 8) (eOp pIx (eV 4) (eV 8))) (eOp pIx (eV 4) (eV 8)))) (eV 8))))
    (sExp (eMeth 2 m_Reader_must (eV 0) (aCons (eOp pNe (eV 7) (eLst aNil)) aNil))))
theorem apBody_ok {m : M} {a n q n' : Nat} {p7 p8 p9 d1 d2 d3 x0 x1 : D} {y5 y7 y8 : Option D} {new old : List (Tx × Tx)} (h0 : m[a]? = some (.ins 2 [(7, p7), (8, p8), (9, p9)]))
    (hn : m[n]? = some (.dct false (new.map tKv))) (hq : m[q]? = some (.ins 0 [(0, x0), (1, x1), (2, .ref n')])) (hn' : m[n']? = some (.dct false (old.map tKv))) (hne : n ≠ n')
    (nd : (new.map (·.1)).Nodup) (hl : new.length ≤ 100) (ap : Apart old new) :
    ∃ z7 M', apBody [some (.ref a), some d1, some d2, some d3, some (.ref n), y5, some (.ref q), y7, y8] m = .nx [some (.ref a), some d1, some d2, some d3, some (.ref n), y5, some (.ref q), z7, y8] M' ∧ Up [] m M' := by
  have nq : n ≠ q := ne_of_get hn hq nofun
  have na : n ≠ a := ne_of_get hn h0 nofun
  obtain ⟨mA, hA⟩ : ∃ mA, mA = m.set n (.dct true (new.map tKv)) := ⟨_, rfl⟩
  have gA : mA[n]? = some (.dct true (new.map tKv)) := by rw [hA]; exact get_set_self hn
  have gq : mA[q]? = some (.ins 0 [(0, x0), (1, x1), (2, .ref n')]) := by rw [hA, get_set_ne nq]; exact hq
  have gn : mA[n']? = some (.dct false (old.map tKv)) := by rw [hA, get_set_ne hne]; exact hn'
  have p1 := lc_pure (i := 8) (ρ := [some (.ref a), some d1, some d2, some d3, some (.ref n), y5, some (.ref q), y7, y8]) (it := iKeys (eV 4)) (chk := fun M => isObj M n (.dct true (new.map tKv)))
    (t := tV (eOp pNe (eGet2 (eFld cs_needs 2 (eV 6)) (eV 8) (eOp pIx (eV 4) (eV 8))) (eOp pIx (eV 4) (eV 8)))) (e := eV 8) (m0 := mA) (m := mA)
    (fun x => .str x.1) (fun x => !decide ((lookT old x.1).getD x.2 = x.2)) (fun x => .str x.1) new (by simp [gA]; exact keysOf_t) (isObj_ok gA) (by omega)
    (by
      intro x hx
      have g1 : getKv (new.map tKv) (.inr x.1) = some (.str x.2) := getKv_t nd hx
      simp [gq, gn, gA, g1, getKv_look, look_getD]) (by intro x _ _; simp)
  obtain ⟨fl, hfl⟩ : ∃ fl, fl = (new.filter fun x => !decide ((lookT old x.1).getD x.2 = x.2)).map (·.1) := ⟨_, rfl⟩
  have p1' : ((new.filter fun x => !decide ((lookT old x.1).getD x.2 = x.2)).map fun x => D.str x.1) = fl.map D.str := by rw [hfl, List.map_map]; rfl
  rw [p1'] at p1
  have fne : fl ≠ [] := by
    obtain ⟨x, hx, hx2⟩ := ap
    rw [hfl]
    intro e
    have : x ∈ new.filter fun x => !decide ((lookT old x.1).getD x.2 = x.2) := List.mem_filter.mpr ⟨hx, by simpa using hx2⟩
    rw [List.map_eq_nil_iff] at e
    rw [e] at this; simp at this
  have hAl : mA.length = m.length := by rw [hA]; simp
  rw [hAl] at p1
  have lk := lock_nx (e := eV 4) (s := sAsg (gV 7) (eLc 8 (iKeys (eV 4)) (tV (eOp pNe (eGet2 (eFld cs_needs 2 (eV 6)) (eV 8) (eOp pIx (eV 4) (eV 8))) (eOp pIx (eV 4) (eV 8)))) (eV 8))) (m := m) (m' := m) (a := n) (kvs := new.map tKv)
    (ρ := [some (.ref a), some d1, some d2, some d3, some (.ref n), y5, some (.ref q), y7, y8]) (ρ2 := [some (.ref a), some d1, some d2, some d3, some (.ref n), y5, some (.ref q), some (.ref m.length), y8]) (m2 := mA ++ [.lst (fl.map .str)])
    (by simp) hn (by rw [← hA, sAsg_eq, p1]; simp) (get_app gA _)
  rw [hA, unlock_app hn] at lk
  have e1 : eqO (m ++ [.lst (fl.map .str), .lst []]) (.ref m.length) (.ref (m.length + 1)) = some false := by
    rw [eqO_nil_s (xs := fl) (by simp) (by simp)]; simp [fne]
  refine ⟨some (.ref m.length), m ++ [.lst (fl.map .str), .lst []], ?_, Up.app⟩
  have h0' := get_app h0 [.lst (fl.map .str)]
  simp [apBody, lk, h0', e1]
end Mn
end

section
set_option linter.all false
namespace Mn
structure LinkOk (st : St) (k : Lk) : Prop where
  o1 : good k.one.1 ∧ k.one.2 < 2 ∧ k.one.1 ∈ st.secs
  o2 : good k.other.1 ∧ k.other.2 < 2 ∧ k.other.1 ∈ st.secs
  ne : k.one.1 ≠ k.other.1
  nd : NeedOk st k
  ap : ∀ k' ∈ st.lks, (shares k.one k' = true ∨ shares k.other k' = true) → Apart k'.needs k.needs
def addL (st : St) (k : Lk) : St := { st with lks := st.lks ++ [k] }
@[simp] theorem iTup_eq {e ρ m} : iTup e ρ m = it1 (fun x m1 => match x with
  | .tup xs => .ok (xs, fun _ => true) m1
  | _ => .bad) (e ρ m) := nr rfl
theorem srt_nd {ns : List (Tx × Tx)} (h : ns.Pairwise fun a b => a.1 < b.1) : (ns.map (·.1)).Nodup := by
  rw [List.Nodup, List.pairwise_map]
  exact h.imp fun {a b} e q => by rw [q] at e; exact absurd e (List.lt_irrefl _)
theorem link_ok {m : M} {a w : Nat} {st : St} {k : Lk} (h : RdAt m a st) (hw : m[w]? = some (.lst ((linT :: edT k.one :: edT k.other :: ndW k.needs).map .str))) (pn : (st.pts.map (·.1)).Nodup) (ll : st.lks.length ≤ 60)
    (ok : LinkOk st k) : ∃ m', m_Reader_link [.ref a, .ref w] m = .ok .non m' ∧ RdAt m' a (addL st k) ∧ Up [a + 4] m m' := by
  obtain ⟨kk, h0⟩ := h.hr
  obtain ⟨xs, x1, x2, x3⟩ := h.hl
  have xl : xs.length ≤ 60 := by rw [x1] at ll; simpa using ll
  have kn := srt_nd ok.nd.srt
  -- the ends
  have e1 : ∀ M, Up [] m M → m_Reader_end [.ref a, .str (edT k.one)] M = .ok (edD k.one) M := fun M u => end_ok (h.up u) ok.o1.1 ok.o1.2.1 ok.o1.2.2
  have e2 : ∀ M, Up [] m M → m_Reader_end [.ref a, .str (edT k.other)] M = .ok (edD k.other) M := fun M u => end_ok (h.up u) ok.o2.1 ok.o2.2.1 ok.o2.2.2
  have e1m := e1 m (Up.refl _ _)
  have e2m := e2 m (Up.refl _ _)
  -- the needs
  obtain ⟨mW, hW⟩ : ∃ mW, mW = m ++ [.lst ((ndW k.needs).map .str)] := ⟨_, rfl⟩
  have uW : Up [] m mW := by rw [hW]; exact Up.app
  have sl : eSl (eV 1) (oSome (eC (.int 3))) oNone [some (.ref a), some (.ref w), some (edD k.one), some (edD k.other), none, none, none, none, none] m = .ok (.ref m.length) mW := by
    simp [eSl, oSome, oNone, hw, cut, sIx, hW]
    rw [List.take_of_length_le (by simp)]
  obtain ⟨M1, l1, l2, l3⟩ := lies_ok (h.up uW) (w := m.length) (by rw [hW]; exact get_new) pn ok.nd
  obtain ⟨n, hn⟩ : ∃ n, n = mW.length := ⟨_, rfl⟩
  rw [← hn] at l1 l2
  have nl : m.length < n := by rw [hn, hW]; simp
  have u1 := uW.then l3
  -- the other links
  obtain ⟨_, M2, o1, ⟨y5, y6, y7, y8, rfl⟩, o2⟩ := for_all (g := gV 5) (it := iTup (eTup (aCons (eV 2) (aCons (eV 3) aNil)))) (chk := fun _ => true)
    (body := sFor (gV 6) (iList (eMeth 1 m_Layout_links_at (eFld cs_layout 7 (eV 0)) (aCons (eV 5) aNil))) apBody)
    (ρ := [some (.ref a), some (.ref w), some (edD k.one), some (edD k.other), some (.ref n), none, none, none, none]) (m := M1) (m1 := M1) edD [k.one, k.other]
    (fun pre ρ M => (∃ y5 y6 y7 y8 : Option D, ρ = [some (.ref a), some (.ref w), some (edD k.one), some (edD k.other), some (.ref n), y5, y6, y7, y8]) ∧ Up [] M1 M)
    (by simp) ⟨⟨_, _, _, _, rfl⟩, Up.refl _ _⟩
    (by
      rintro pre e post ρ M hx ⟨⟨y5, y6, y7, y8, rfl⟩, c1⟩
      have he : e = k.one ∨ e = k.other := by
        have : e ∈ [k.one, k.other] := by rw [hx]; simp
        simpa using this
      have uM := u1.then c1
      have la := links_at_ok (e := e) (uM.get _ _ h.hL nofun) (uM.get _ _ x2 nofun) (fun x hx => uM.get _ _ (x3 x hx).2.1 nofun) (by omega)
      obtain ⟨MB, hB⟩ : ∃ MB, MB = M ++ [.lst ((xs.filter fun x => shares e x.1).map fun x => .ref x.2.1)] := ⟨_, rfl⟩
      rw [← hB] at la
      have uB : Up [] M MB := by rw [hB]; exact Up.app
      have gB : MB[M.length]? = some (.lst ((xs.filter fun x => shares e x.1).map fun x => .ref x.2.1)) := by rw [hB]; exact get_new
      obtain ⟨_, M3, q1, ⟨z6, z7, z8, rfl⟩, q2⟩ := for_all (g := gV 6) (it := iList (eMeth 1 m_Layout_links_at (eFld cs_layout 7 (eV 0)) (aCons (eV 5) aNil))) (chk := fun M' => isObj M' M.length (.lst ((xs.filter fun x => shares e x.1).map fun x => .ref x.2.1)))
        (body := apBody)
        (ρ := [some (.ref a), some (.ref w), some (edD k.one), some (edD k.other), some (.ref n), some (edD e), y6, y7, y8]) (m := M) (m1 := MB) (fun x : Lk × Nat × Nat => .ref x.2.1) (xs.filter fun x => shares e x.1)
        (fun pre ρ M' => (∃ y6 y7 y8 : Option D, ρ = [some (.ref a), some (.ref w), some (edD k.one), some (edD k.other), some (.ref n), some (edD e), y6, y7, y8]) ∧ Up [] MB M')
        (by simp [uM.get _ _ h0 nofun, uM.get _ _ h.hL nofun, la, gB]) ⟨⟨_, _, _, rfl⟩, Up.refl _ _⟩
        (by
          rintro pre x post ρ M' hx ⟨⟨y6, y7, y8, rfl⟩, d1⟩
          have hx2 : x ∈ xs.filter fun x => shares e x.1 := by rw [hx]; simp
          obtain ⟨hx3, hx4⟩ := List.mem_filter.mp hx2
          have uM' := (uM.then uB).then d1
          have hap : Apart x.1.needs k.needs := ok.ap x.1 (by rw [x1]; exact List.mem_map.mpr ⟨x, hx3, rfl⟩) (by rcases he with rfl | rfl <;> simp [hx4])
          obtain ⟨z7, M4, r1, r2⟩ := apBody_ok (d1 := .ref w) (d2 := edD k.one) (d3 := edD k.other) (y5 := some (edD e)) (y7 := y7) (y8 := y8) (uM'.get _ _ h0 nofun) ((c1.then (uB.then d1)).get _ _ l2 nofun) (uM'.get _ _ (x3 x hx3).2.1 nofun) (uM'.get _ _ (x3 x hx3).2.2 nofun)
            (by have := get_lt (x3 x hx3).2.2; omega) kn (by have := ok.nd.len; omega) hap
          exact ⟨isObj_ok (d1.get _ _ gB nofun), _, _, _, rfl, .inl r1, ⟨_, _, _, rfl⟩, d1.then r2⟩)
        (fun ρ M' q => isObj_ok (q.2.get _ _ gB nofun))
      exact ⟨rfl, _, _, _, rfl, .inl q1, ⟨_, _, _, _, rfl⟩, (c1.then uB).then q2⟩)
    (fun _ _ _ => rfl)
  -- the new one
  have u2 := u1.then o2
  obtain ⟨M3, h3⟩ : ∃ M3, M3 = M2 ++ [.ins 0 [(0, edD k.one), (1, edD k.other), (2, .ref n)]] := ⟨_, rfl⟩
  have u3 : Up [] M2 M3 := by rw [h3]; exact Up.app
  have i1 : m_Link_init__ [.ref M2.length, edD k.one, edD k.other, .ref n] (M2 ++ [.ins 0 []]) = .ok .non M3 := by
    simp [m_Link_init__, m_Link_init___body, h3]
  have u23 := u2.then u3
  have x2' := u23.get _ _ x2 nofun
  have ap := row_ok (v := .ref M2.length) x2' (by simp; omega)
  rw [pAppend_ref, x2'] at ap
  refine ⟨M3.set (a + 4) (.lst ((xs.map fun x => .ref x.2.1) ++ [.ref M2.length])), ?_, ?_, ?_⟩
  · simp only [apBody] at o1
    have hne := ok.ne
    have w0 : (3 : Int) ≤ ((ndW k.needs).length : Int) + 1 + 1 + 1 := by omega
    simp [-sFor_eq, m_Reader_link, m_Reader_link_body, h0, hw, w0, e1m, e2m, hne, sl, uW.get _ _ h0 nofun, l1, o1, u2.get _ _ h0 nofun, u2.get _ _ h.hL nofun, u2.get _ _ x2 nofun, i1, u23.get _ _ x2 nofun, ap]
  · have nm : ∀ {i o}, m[i]? = some o → i ≠ a + 4 → (M3.set (a + 4) (.lst ((xs.map fun x => .ref x.2.1) ++ [.ref M2.length])))[i]? = some o := fun hi ne => by
      rw [get_set_ne (Ne.symm ne)]; exact u23.get _ _ hi nofun
    have al : a + 4 < m.length := get_lt x2
    have m2l : m.length ≤ M2.length := u2.le
    refine ⟨⟨kk, nm h0 (by omega)⟩, nm h.hL (by omega), nm h.hs (by omega), nm h.hp (by omega), ⟨xs ++ [(k, M2.length, n)], by simp [addL, x1], ?_, ?_⟩, nm h.hg (by omega), by have := h.hB; have := u23.le; simp; omega⟩
    · rw [get_set_self x2']; simp
    · intro x hx
      rcases List.mem_append.mp hx with hx | hx
      · obtain ⟨⟨b1, b2⟩, b3, b4⟩ := x3 x hx
        exact ⟨⟨b1, b2⟩, nm b3 (by omega), nm b4 (by omega)⟩
      · have : x = (k, M2.length, n) := by simpa using hx
        subst this
        have hB := h.hB
        refine ⟨⟨show a + 7 ≤ M2.length by omega, show a + 7 ≤ n by omega⟩, ?_, ?_⟩
        · rw [get_set_ne (by simp; omega), h3]; exact get_new
        · have g1 := (o2.then u3).get _ _ l2 nofun
          rw [get_set_ne (by simp; omega)]; exact g1
  · exact (u23.mono (by simp)).same Up.set
end Mn
end

section
set_option linter.all false
namespace Mn
@[simp] theorem eTab_eq {t e ρ m} : eTab t e ρ m = un1 (pTab t) (e ρ m) := nr rfl
theorem pTab_ok {t s n m} (h : tabGet t s = some n) : pTab t (.str s) m = .ok (.int n) m := by simp only [pTab, h]
theorem split_ok {s : Tx} {c : Nat} {m : M} (h : s.length ≤ 100000) (hc : c < 256) : pSplit (.str s) (.str [c]) m = .ok (.ref m.length) (m ++ [.lst ((splT c [] s).map .str)]) := by
  simp only [pSplit]
  rw [if_pos ⟨by simp only [LIM]; omega, hc⟩]
def MOST : List (Tx × Int) := [([115, 101, 99, 116, 105, 111, 110], 30), ([112, 111, 105, 110, 116], 12), ([108, 105, 110, 107], 60), ([115, 105, 103, 110, 97, 108], 16)]
def takeHead (rest : MS) : MS := (sSeq (sAsg (gV 2) (eM1 2 pSplit (eV 1) (eC (.str [32]))))
    (sSeq (sAsg (gV 3) (eOp pIx (eV 2) (eC (.int 0))))
    (sSeq (sExp (eMeth 2 m_Reader_must (eV 0) (aCons (eOp pIn (eV 3) (eFld cs_counts 9 (eV 0))) aNil)))
    (sSeq (sSetIx (eFld cs_counts 9 (eV 0)) (eV 3) (eOp pAdd (eOp pIx (eFld cs_counts 9 (eV 0)) (eV 3)) (eC (.int 1))))
    (sSeq (sExp (eMeth 2 m_Reader_must (eV 0) (aCons (eOp pLe (eOp pIx (eFld cs_counts 9 (eV 0)) (eV 3)) (eTab MOST (eV 3))) aNil))) rest)))))
theorem head_ok {m : M} {a : Nat} {row K : Tx} {ws : List Tx} {cs cs' : List (Ky × D)} {n mx : Int} {rest : MS} {p7 p8 : D} (h0 : m[a]? = some (.ins 2 [(7, p7), (8, p8), (9, .ref (a + 6))])) (hc : m[a + 6]? = some (.dct false cs))
    (hr : row.length ≤ 1000) (hs : splT 32 [] row = K :: ws) (g1 : getKv cs (.inr K) = some (.int n)) (g2 : putKv cs (.inr K) (.int (n + 1)) = cs') (g3 : getKv cs' (.inr K) = some (.int (n + 1))) (g4 : tabGet MOST K = some mx) (g5 : n + 1 ≤ mx) (g6 : cs.length ≤ 10) :
    takeHead rest [some (.ref a), some (.str row), none, none, none] m = rest [some (.ref a), some (.str row), some (.ref m.length), some (.str K), none] ((m ++ [O.lst ((K :: ws).map .str)]).set (a + 6) (O.dct false cs')) := by
  have s1 := split_ok (s := row) (c := 32) (m := m) (by omega) (by decide)
  rw [hs] at s1
  obtain ⟨m1, hm1⟩ : ∃ m1, m1 = m ++ [.lst ((K :: ws).map .str)] := ⟨_, rfl⟩
  rw [← hm1] at s1 ⊢
  have h1 : m1[a]? = some (.ins 2 [(7, p7), (8, p8), (9, .ref (a + 6))]) := by rw [hm1]; exact get_app h0 _
  have c1 : m1[a + 6]? = some (.dct false cs) := by rw [hm1]; exact get_app hc _
  have w1 : m1[m.length]? = some (.lst ((K :: ws).map .str)) := by rw [hm1]; exact get_new
  have i1 : inO m1 (.str K) (.ref (a + 6)) = some true := by simp [inO, c1, g1]
  have h2 : ∀ o, (m1.set (a + 6) o)[a]? = some (.ins 2 [(7, p7), (8, p8), (9, .ref (a + 6))]) := fun o => by rw [get_set_ne (by omega)]; exact h1
  have c2 : ∀ o, (m1.set (a + 6) o)[a + 6]? = some o := fun o => get_set_self c1
  have w2 : setOb (some (.dct false cs)) (a + 6) (.str K) (.int (n + 1)) m1 = some (m1.set (a + 6) (.dct false cs')) := by rw [setOb_dct (by simp only [LIM]; omega), g2]
  have tb : ∀ M, pTab MOST (.str K) M = .ok (.int mx) M := fun M => pTab_ok g4
  simp [takeHead, s1, w1, h1, c1, i1, g1, w2, h2, c2, g3, tb, g5]
def takeRest : MS := (sIf (tV (eOp pEq (eV 3) (eC (.str [115, 101, 99, 116, 105, 111, 110])))) (sSeq (sExp (eMeth 2 m_Reader_must (eV 0) (aCons (eOp pEq (eUn pLen (eV 2)) (eC (.int 2))) aNil)))
    (sExp (eM1 0 pAppend (eFld cs_sections 3 (eFld cs_layout 7 (eV 0))) (eMeth 2 m_Reader_fresh (eV 0) (aCons (eOp pIx (eV 2) (eC (.int 1))) aNil))))) (sIf (tV (eOp pEq (eV 3) (eC (.str [112, 111, 105, 110, 116])))) (sSeq (sExp (eMeth 2 m_Reader_must (eV 0) (aCons (eAnd (eOp pEq (eUn pLen (eV 2)) (eC (.int 4))) (eAnd (eOp pEq (eOp pIx (eV 2) (eC (.int 2))) (eC (.str [105, 110]))) (eOp pIn (eOp pIx (eV 2) (eC (.int 3))) (eFld cs_sections 3 (eFld cs_layout 7 (eV 0)))))) aNil)))
    (sSetIx (eFld cs_points 4 (eFld cs_layout 7 (eV 0))) (eMeth 2 m_Reader_fresh (eV 0) (aCons (eOp pIx (eV 2) (eC (.int 1))) aNil)) (eOp pIx (eV 2) (eC (.int 3))))) (sIf (tV (eOp pEq (eV 3) (eC (.str [115, 105, 103, 110, 97, 108])))) (sSeq (sExp (eMeth 2 m_Reader_must (eV 0) (aCons (eAnd (eOp pEq (eUn pLen (eV 2)) (eC (.int 4))) (eOp pEq (eOp pIx (eV 2) (eC (.int 2))) (eC (.str [97, 116])))) aNil)))
    (sSeq (sAsg (gV 4) (eMeth 2 m_Reader_end (eV 0) (aCons (eOp pIx (eV 2) (eC (.int 3))) aNil)))
    (sSeq (sExp (eMeth 2 m_Reader_must (eV 0) (aCons (eUn pIsN (eMeth 1 m_Layout_signal_at (eFld cs_layout 7 (eV 0)) (aCons (eV 4) aNil))) aNil)))
    (sSetIx (eFld cs_signals 6 (eFld cs_layout 7 (eV 0))) (eMeth 2 m_Reader_fresh (eV 0) (aCons (eOp pIx (eV 2) (eC (.int 1))) aNil)) (eV 4))))) (sExp (eMeth 2 m_Reader_link (eV 0) (aCons (eV 2) aNil))))))
theorem take_eq {x y : D} {m : M} : m_Reader_take [x, y] m = fnK (takeHead takeRest [some x, some y, none, none, none] m) := by
  unfold m_Reader_take
  rw [mkFn_2]
  rfl
def addS (st : St) (s : Tx) : St := { st with secs := st.secs ++ [s] }
def addP (st : St) (p : Tx × Tx) : St := { st with pts := st.pts ++ [p] }
def addG (st : St) (g : Tx × Ed) : St := { st with sgs := st.sgs ++ [g] }
/-- the reader's own objects -/
def Own (a : Nat) : List Nat := [a, a + 2, a + 3, a + 4, a + 5, a + 6]
theorem take_S {m : M} {a n1 n2 n3 n4 : Nat} {st : St} {s : Tx} (h : RdAt m a st) (hc : Cnt m a n1 n2 n3 n4) (hn : n1 < 30) (g : good s) (b1 : s ∉ st.secs) (b2 : s ∉ st.pts.map (·.1)) (b3 : s ∉ st.sgs.map (·.1)) (bl : st.secs.length ≤ 60) :
    ∃ m', m_Reader_take [.ref a, .str (rowS s)] m = .ok .non m' ∧ RdAt m' a (addS st s) ∧ Cnt m' a (n1 + 1) n2 n3 n4 ∧ Up (Own a) m m' := by
  obtain ⟨kk, h0⟩ := h.hr
  have hd := head_ok (rest := takeRest) (n := (n1 : Int)) (mx := 30) (cs' := [(.inr secT, .int ((n1 + 1 : Nat) : Int)), (.inr poiT, .int (n2 : Int)), (.inr linT, .int (n3 : Int)), (.inr sigT, .int (n4 : Int))])
    h0 hc (by have := g.hi; simp [rowS]; omega) (words_S g) (by simp) (by simp [putKv, secT, poiT, linT, sigT]) (by simp) (by simp [tabGet, MOST, secT, poiT, linT, sigT]) (by omega) (by simp)
  obtain ⟨m1, hm1⟩ : ∃ m1, m1 = m ++ [.lst ([secT, s].map .str)] := ⟨_, rfl⟩
  rw [← hm1] at hd
  have u1 : Up [] m m1 := by rw [hm1]; exact Up.app
  have c1 := u1.get _ _ hc nofun
  obtain ⟨m2, hm2⟩ : ∃ m2, m2 = m1.set (a + 6) (.dct false [(.inr secT, .int ((n1 + 1 : Nat) : Int)), (.inr poiT, .int (n2 : Int)), (.inr linT, .int (n3 : Int)), (.inr sigT, .int (n4 : Int))]) := ⟨_, rfl⟩
  rw [← hm2] at hd
  have u2 : Up [a + 6] m m2 := by rw [hm2]; exact (u1.mono (by simp)).same Up.set
  have r2 := h.up6 u2
  have w2 : m2[m.length]? = some (.lst ([secT, s].map .str)) := by
    have := h.hB
    rw [hm2, get_set_ne (by omega), hm1]; exact get_new
  have c2 : Cnt m2 a (n1 + 1) n2 n3 n4 := by unfold Cnt; rw [hm2]; exact get_set_self c1
  obtain ⟨m3, f1, f2⟩ := fresh_ok r2 g b1 b2 b3
  have r3 := r2.up f2
  have ap := row_ok (v := .str s) r3.hs (by simp; omega)
  rw [pAppend_ref, r3.hs] at ap
  obtain ⟨k2, r20⟩ := r2.hr
  refine ⟨m3.set (a + 2) (.lst (st.secs.map .str ++ [.str s])), ?_, ?_, ?_, ?_⟩
  · rw [take_eq, hd]
    simp [takeRest, secT] at w2 ⊢
    simp [w2, r20, r2.hL, r2.hs, f1, r3.hs, ap]
  · have nm : ∀ {i o}, m3[i]? = some o → i ≠ a + 2 → (m3.set (a + 2) (.lst (st.secs.map .str ++ [.str s])))[i]? = some o := fun hi ne => by
      rw [get_set_ne (Ne.symm ne)]; exact hi
    obtain ⟨⟨k, q0⟩, q1, q2, q3, ⟨xs, x1, x2, x3⟩, q5, q6⟩ := r3
    exact ⟨⟨k, nm q0 (by omega)⟩, nm q1 (by omega), by rw [get_set_self q2]; simp [addS], nm q3 (by omega), ⟨xs, x1, nm x2 (by omega), fun x hx => ⟨(x3 x hx).1, nm (x3 x hx).2.1 (by have := (x3 x hx).1; omega), nm (x3 x hx).2.2 (by have := (x3 x hx).1; omega)⟩⟩, nm q5 (by omega), by simpa using q6⟩
  · unfold Cnt; rw [get_set_ne (by omega)]; exact f2.get _ _ c2 nofun
  · exact ((u2.then f2).mono (S' := Own a) (by simp [Own])).trans Up.set (by simp [Own])
end Mn
end

section
set_option linter.all false
namespace Mn
theorem take_P {m : M} {a n1 n2 n3 n4 : Nat} {st : St} {s : Tx × Tx} (h : RdAt m a st) (hc : Cnt m a n1 n2 n3 n4) (hn : n2 < 12) (g : good s.1) (g2 : good s.2) (hm : s.2 ∈ st.secs) (b1 : s.1 ∉ st.secs) (b2 : s.1 ∉ st.pts.map (·.1)) (b3 : s.1 ∉ st.sgs.map (·.1)) (bl : st.pts.length ≤ 60) :
    ∃ m', m_Reader_take [.ref a, .str (rowP s)] m = .ok .non m' ∧ RdAt m' a (addP st s) ∧ Cnt m' a n1 (n2 + 1) n3 n4 ∧ Up (Own a) m m' := by
  obtain ⟨kk, h0⟩ := h.hr
  have hd := head_ok (rest := takeRest) (n := (n2 : Int)) (mx := 12) (cs' := [(.inr secT, .int (n1 : Int)), (.inr poiT, .int ((n2 + 1 : Nat) : Int)), (.inr linT, .int (n3 : Int)), (.inr sigT, .int (n4 : Int))])
    h0 hc (by have := g.hi; have := g2.hi; simp [rowP]; omega) (words_P g g2) (by simp [secT, poiT, linT, sigT]) (by simp [putKv, secT, poiT, linT, sigT]) (by simp [secT, poiT, linT, sigT]) (by simp [tabGet, MOST, secT, poiT, linT, sigT]) (by omega) (by simp)
  obtain ⟨m1, hm1⟩ : ∃ m1, m1 = m ++ [O.lst ([poiT, s.1, [105, 110], s.2].map .str)] := ⟨_, rfl⟩
  rw [← hm1] at hd
  have u1 : Up [] m m1 := by rw [hm1]; exact Up.app
  have c1 := u1.get _ _ hc nofun
  obtain ⟨m2, hm2⟩ : ∃ m2, m2 = m1.set (a + 6) (.dct false [(.inr secT, .int (n1 : Int)), (.inr poiT, .int ((n2 + 1 : Nat) : Int)), (.inr linT, .int (n3 : Int)), (.inr sigT, .int (n4 : Int))]) := ⟨_, rfl⟩
  rw [← hm2] at hd
  have u2 : Up [a + 6] m m2 := by rw [hm2]; exact (u1.mono (by simp)).same Up.set
  have r2 := h.up6 u2
  have w2 : m2[m.length]? = some (.lst ([poiT, s.1, [105, 110], s.2].map .str)) := by
    have := h.hB
    rw [hm2, get_set_ne (by omega), hm1]; exact get_new
  have c2 : Cnt m2 a n1 (n2 + 1) n3 n4 := by unfold Cnt; rw [hm2]; exact get_set_self c1
  obtain ⟨k2, r20⟩ := r2.hr
  obtain ⟨m3, f1, f2⟩ := fresh_ok r2 g b1 b2 b3
  have r3 := r2.up f2
  have ap : setOb (some (.dct false (st.pts.map tKv))) (a + 3) (.str s.1) (.str s.2) m3 = some (m3.set (a + 3) (.dct false ((st.pts ++ [s]).map tKv))) := by
    rw [setOb_dct (by simp only [LIM, List.length_map]; omega)]
    have := putKv_new (f := D.str) (v := s.2) b2
    congr 3
  have i1 := inO_strs (s := s.2) r2.hs
  simp only [hm, decide_true] at i1
  refine ⟨m3.set (a + 3) (.dct false ((st.pts ++ [s]).map tKv)), ?_, ?_, ?_, ?_⟩
  · rw [take_eq, hd]
    simp [takeRest, poiT] at w2 ap ⊢
    simp [w2, r20, r2.hL, i1, f1, r3.hp, ap]
  · have nm : ∀ {i o}, m3[i]? = some o → i ≠ a + 3 → (m3.set (a + 3) (.dct false ((st.pts ++ [s]).map tKv)))[i]? = some o := fun hi ne => by
      rw [get_set_ne (Ne.symm ne)]; exact hi
    obtain ⟨⟨k, q0⟩, q1, q2, q3, ⟨xs, x1, x2, x3⟩, q5, q6⟩ := r3
    exact ⟨⟨k, nm q0 (by omega)⟩, nm q1 (by omega), nm q2 (by omega), by rw [get_set_self q3]; rfl, ⟨xs, x1, nm x2 (by omega), fun x hx => ⟨(x3 x hx).1, nm (x3 x hx).2.1 (by have := (x3 x hx).1; omega), nm (x3 x hx).2.2 (by have := (x3 x hx).1; omega)⟩⟩, nm q5 (by omega), by simpa using q6⟩
  · unfold Cnt; rw [get_set_ne (by omega)]; exact f2.get _ _ c2 nofun
  · exact ((u2.then f2).mono (S' := Own a) (by simp [Own])).trans Up.set (by simp [Own])
theorem signal_none {m : M} {a : Nat} {st : St} {e : Ed} (h : RdAt m a st) (he : e ∉ st.sgs.map (·.2)) (nd : (st.sgs.map (·.1)).Nodup) : m_Layout_signal_at [.ref (a + 1), edD e] m = .ok .non m := by
  have l1 : (m.set (a + 5) (.dct true (st.sgs.map eKv)))[a + 1]? = some (.ins 1 [(3, .ref (a + 2)), (4, .ref (a + 3)), (5, .ref (a + 4)), (6, .ref (a + 5))]) := by rw [get_set_ne (by omega)]; exact h.hL
  have l2 : (m.set (a + 5) (.dct true (st.sgs.map eKv)))[a + 5]? = some (.dct true (st.sgs.map eKv)) := get_set_self h.hg
  obtain ⟨ρ', M', e1, ⟨y, e2⟩, e3⟩ := for_all (g := gV 2) (it := iKeys (eFld cs_signals 6 (eV 0))) (chk := fun M => isObj M (a + 5) (.dct true (st.sgs.map eKv)))
    (body := sIf (tV (eOp pEq (eOp pIx (eFld cs_signals 6 (eV 0)) (eV 2)) (eV 1))) (sRet (eV 2)) sPass)
    (ρ := [some (.ref (a + 1)), some (edD e), none]) (m := m.set (a + 5) (.dct true (st.sgs.map eKv))) (m1 := m.set (a + 5) (.dct true (st.sgs.map eKv)))
    (fun x => .str x.1) st.sgs
    (fun pre ρ M => (∃ y, ρ = [some (.ref (a + 1)), some (edD e), y]) ∧ M = m.set (a + 5) (.dct true (st.sgs.map eKv)))
    (by simp [l1, l2]; exact keysOf_t) ⟨⟨_, rfl⟩, rfl⟩
    (by
      rintro pre x post ρ M hx ⟨⟨y, rfl⟩, rfl⟩
      have hx2 : x ∈ st.sgs := by rw [hx]; simp
      have g1 : getKv (st.sgs.map eKv) (.inr x.1) = some (edD x.2) := getKv_e nd hx2
      have ne : x.2 ≠ e := fun q => he (List.mem_map.mpr ⟨x, hx2, q⟩)
      exact ⟨isObj_ok l2, [some (.ref (a + 1)), some (edD e), some (.str x.1)], [some (.ref (a + 1)), some (edD e), some (.str x.1)], m.set (a + 5) (.dct true (st.sgs.map eKv)), rfl, .inl (by simp [l1, l2, g1, eqO_eds, ne]), ⟨_, rfl⟩, rfl⟩)
    (fun ρ M q => by rw [q.2]; exact isObj_ok l2)
  subst e3
  have lk := lock_nx (e := eFld cs_signals 6 (eV 0)) (m := m) (m' := m) (a := a + 5) (kvs := st.sgs.map eKv) (by simp [h.hL]) h.hg e1 l2
  rw [List.set_set, set_same h.hg] at lk
  simp [m_Layout_signal_at, m_Layout_signal_at_body, lk]
theorem take_G {m : M} {a n1 n2 n3 n4 : Nat} {st : St} {s : Tx × Ed} (h : RdAt m a st) (hc : Cnt m a n1 n2 n3 n4) (hn : n4 < 16) (g : good s.1) (g2 : good s.2.1) (g3 : s.2.2 < 2) (hm : s.2.1 ∈ st.secs) (b1 : s.1 ∉ st.secs) (b2 : s.1 ∉ st.pts.map (·.1)) (b3 : s.1 ∉ st.sgs.map (·.1))
    (he : s.2 ∉ st.sgs.map (·.2)) (nd : (st.sgs.map (·.1)).Nodup) (bl : st.sgs.length ≤ 60) :
    ∃ m', m_Reader_take [.ref a, .str (rowG s)] m = .ok .non m' ∧ RdAt m' a (addG st s) ∧ Cnt m' a n1 n2 n3 (n4 + 1) ∧ Up (Own a) m m' := by
  obtain ⟨kk, h0⟩ := h.hr
  have hd := head_ok (rest := takeRest) (n := (n4 : Int)) (mx := 16) (cs' := [(.inr secT, .int (n1 : Int)), (.inr poiT, .int (n2 : Int)), (.inr linT, .int (n3 : Int)), (.inr sigT, .int ((n4 + 1 : Nat) : Int))])
    h0 hc (by have := g.hi; have := edT_len (e := s.2) ⟨g2.hi, g3⟩; simp [rowG]; omega) (words_G g g2 g3) (by simp [secT, poiT, linT, sigT]) (by simp [putKv, secT, poiT, linT, sigT]) (by simp [secT, poiT, linT, sigT]) (by simp [tabGet, MOST, secT, poiT, linT, sigT]) (by omega) (by simp)
  obtain ⟨m1, hm1⟩ : ∃ m1, m1 = m ++ [O.lst ([sigT, s.1, [97, 116], edT s.2].map .str)] := ⟨_, rfl⟩
  rw [← hm1] at hd
  have u1 : Up [] m m1 := by rw [hm1]; exact Up.app
  have c1 := u1.get _ _ hc nofun
  obtain ⟨m2, hm2⟩ : ∃ m2, m2 = m1.set (a + 6) (.dct false [(.inr secT, .int (n1 : Int)), (.inr poiT, .int (n2 : Int)), (.inr linT, .int (n3 : Int)), (.inr sigT, .int ((n4 + 1 : Nat) : Int))]) := ⟨_, rfl⟩
  rw [← hm2] at hd
  have u2 : Up [a + 6] m m2 := by rw [hm2]; exact (u1.mono (by simp)).same Up.set
  have r2 := h.up6 u2
  have w2 : m2[m.length]? = some (.lst ([sigT, s.1, [97, 116], edT s.2].map .str)) := by
    have := h.hB
    rw [hm2, get_set_ne (by omega), hm1]; exact get_new
  have c2 : Cnt m2 a n1 n2 n3 (n4 + 1) := by unfold Cnt; rw [hm2]; exact get_set_self c1
  obtain ⟨k2, r20⟩ := r2.hr
  obtain ⟨m3, f1, f2⟩ := fresh_ok r2 g b1 b2 b3
  have r3 := r2.up f2
  have en := end_ok r2 g2 g3 hm
  have sn := signal_none r2 he nd
  have ap : setOb (some (.dct false (st.sgs.map eKv))) (a + 5) (.str s.1) (edD s.2) m3 = some (m3.set (a + 5) (.dct false ((st.sgs ++ [s]).map eKv))) := by
    rw [setOb_dct (by simp only [LIM, List.length_map]; omega)]
    have := putKv_new (f := edD) (v := s.2) b3
    congr 3
  refine ⟨m3.set (a + 5) (.dct false ((st.sgs ++ [s]).map eKv)), ?_, ?_, ?_, ?_⟩
  · rw [take_eq, hd]
    simp [takeRest, sigT] at w2 ap ⊢
    simp [w2, r20, r2.hL, en, sn, f1, r3.hg, ap]
  · have nm : ∀ {i o}, m3[i]? = some o → i ≠ a + 5 → (m3.set (a + 5) (.dct false ((st.sgs ++ [s]).map eKv)))[i]? = some o := fun hi ne => by
      rw [get_set_ne (Ne.symm ne)]; exact hi
    obtain ⟨⟨k, q0⟩, q1, q2, q3, ⟨xs, x1, x2, x3⟩, q5, q6⟩ := r3
    exact ⟨⟨k, nm q0 (by omega)⟩, nm q1 (by omega), nm q2 (by omega), nm q3 (by omega), ⟨xs, x1, nm x2 (by omega), fun x hx => ⟨(x3 x hx).1, nm (x3 x hx).2.1 (by have := (x3 x hx).1; omega), nm (x3 x hx).2.2 (by have := (x3 x hx).1; omega)⟩⟩, by rw [get_set_self q5]; rfl, by simpa using q6⟩
  · unfold Cnt; rw [get_set_ne (by omega)]; exact f2.get _ _ c2 nofun
  · exact ((u2.then f2).mono (S' := Own a) (by simp [Own])).trans Up.set (by simp [Own])
theorem take_L {m : M} {a n1 n2 n3 n4 : Nat} {st : St} {s : Lk} (h : RdAt m a st) (hc : Cnt m a n1 n2 n3 n4) (hq : n3 < 60) (pn : (st.pts.map (·.1)).Nodup) (ok : LinkOk st s) (ng : ∀ n ∈ s.needs, good n.1) (bl : st.lks.length ≤ 60) :
    ∃ m', m_Reader_take [.ref a, .str (rowL s)] m = .ok .non m' ∧ RdAt m' a (addL st s) ∧ Cnt m' a n1 n2 (n3 + 1) n4 ∧ Up (Own a) m m' := by
  have ng2 : ∀ n ∈ s.needs, good n.1 ∧ 32 ∉ n.2 := fun n hn => ⟨ng n hn, by rcases (ok.nd.ok n hn).2 with e | e <;> rw [e] <;> decide⟩
  have no : NdOk s.needs := ⟨ok.nd.len, srt_nd ok.nd.srt, fun n hn => ⟨(ng n hn).hi, by rcases (ok.nd.ok n hn).2 with e | e <;> rw [e] <;> decide⟩⟩
  have nn : nrm s.needs = s.needs := by
    have := ok.nd.srt
    unfold nrm
    split
    · rename_i x y e
      rw [e] at this
      have : x.1 < y.1 := by simpa using this
      rw [if_neg (fun q => absurd (List.lt_trans this q) (List.lt_irrefl _))]
      exact e.symm
    · rfl
  have rl : (rowL s).length ≤ 1000 := by
    have := rowL_len (k := s) ⟨⟨ok.o1.1.hi, ok.o1.2.1⟩, ⟨ok.o2.1.hi, ok.o2.2.1⟩, no⟩
    rw [show nrmL s = s by simp [nrmL, nn]] at this
    omega
  obtain ⟨kk, h0⟩ := h.hr
  have hd := head_ok (rest := takeRest) (n := (n3 : Int)) (mx := 60) (cs' := [(.inr secT, .int (n1 : Int)), (.inr poiT, .int (n2 : Int)), (.inr linT, .int ((n3 + 1 : Nat) : Int)), (.inr sigT, .int (n4 : Int))])
    h0 hc (by exact rl) (words_L ok.o1.1 ok.o1.2.1 ok.o2.1 ok.o2.2.1 ok.nd.len ng2) (by simp [secT, poiT, linT, sigT]) (by simp [putKv, secT, poiT, linT, sigT]) (by simp [secT, poiT, linT, sigT]) (by simp [tabGet, MOST, secT, poiT, linT, sigT]) (by omega) (by simp)
  obtain ⟨m1, hm1⟩ : ∃ m1, m1 = m ++ [O.lst ((linT :: edT s.one :: edT s.other :: ndW s.needs).map .str)] := ⟨_, rfl⟩
  rw [← hm1] at hd
  have u1 : Up [] m m1 := by rw [hm1]; exact Up.app
  have c1 := u1.get _ _ hc nofun
  obtain ⟨m2, hm2⟩ : ∃ m2, m2 = m1.set (a + 6) (.dct false [(.inr secT, .int (n1 : Int)), (.inr poiT, .int (n2 : Int)), (.inr linT, .int ((n3 + 1 : Nat) : Int)), (.inr sigT, .int (n4 : Int))]) := ⟨_, rfl⟩
  rw [← hm2] at hd
  have u2 : Up [a + 6] m m2 := by rw [hm2]; exact (u1.mono (by simp)).same Up.set
  have r2 := h.up6 u2
  have w2 : m2[m.length]? = some (.lst ((linT :: edT s.one :: edT s.other :: ndW s.needs).map .str)) := by
    have := h.hB
    rw [hm2, get_set_ne (by omega), hm1]; exact get_new
  have c2 : Cnt m2 a n1 n2 (n3 + 1) n4 := by unfold Cnt; rw [hm2]; exact get_set_self c1
  obtain ⟨k2, r20⟩ := r2.hr
  obtain ⟨m3, f1, f2, f3⟩ := link_ok r2 w2 pn bl ok
  refine ⟨m3, ?_, f2, ?_, ?_⟩
  · rw [take_eq, hd]
    simp [takeRest, linT]
    simp [r20, f1]
  · exact f3.get _ _ c2 (by simp)
  · exact ((u2.mono (S' := Own a) (by simp [Own])).trans f3 (by simp [Own]))
end Mn
end

section
set_option linter.all false
namespace Mn
inductive Rw where
  | s (x : Tx)
  | p (x : Tx × Tx)
  | l (x : Lk)
  | g (x : Tx × Ed)
def Rw.txt : Rw → Tx
  | .s x => rowS x
  | .p x => rowP x
  | .l x => rowL x
  | .g x => rowG x
def Rw.kd : Rw → Nat
  | .s _ => 1
  | .p _ => 2
  | .l _ => 3
  | .g _ => 4
def lastT (k : Nat) : Tx := if k = 0 then [] else if k = 1 then secT else if k = 2 then poiT else if k = 3 then linT else sigT
def Rw.add (st : St) : Rw → St
  | .s x => addS st x
  | .p x => addP st x
  | .l x => addL st x
  | .g x => addG st x
def RowOk (st : St) : Rw → Prop
  | .s x => st.secs.length < 30 ∧ good x ∧ x ∉ st.secs ∧ x ∉ st.pts.map (·.1) ∧ x ∉ st.sgs.map (·.1)
  | .p x => st.pts.length < 12 ∧ good x.1 ∧ good x.2 ∧ x.2 ∈ st.secs ∧ x.1 ∉ st.secs ∧ x.1 ∉ st.pts.map (·.1) ∧ x.1 ∉ st.sgs.map (·.1)
  | .l x => st.lks.length < 60 ∧ (st.pts.map (·.1)).Nodup ∧ LinkOk st x ∧ ∀ n ∈ x.needs, good n.1
  | .g x => st.sgs.length < 16 ∧ good x.1 ∧ good x.2.1 ∧ x.2.2 < 2 ∧ x.2.1 ∈ st.secs ∧ x.1 ∉ st.secs ∧ x.1 ∉ st.pts.map (·.1) ∧ x.1 ∉ st.sgs.map (·.1) ∧ x.2 ∉ st.sgs.map (·.2) ∧ (st.sgs.map (·.1)).Nodup
def CntL (m : M) (a : Nat) (st : St) : Prop := Cnt m a st.secs.length st.pts.length st.lks.length st.sgs.length
theorem take_row {m : M} {a : Nat} {st : St} {r : Rw} (h : RdAt m a st) (hc : CntL m a st) (ok : RowOk st r) :
    ∃ m', m_Reader_take [.ref a, .str r.txt] m = .ok .non m' ∧ RdAt m' a (r.add st) ∧ CntL m' a (r.add st) ∧ Up (Own a) m m' := by
  cases r with
  | s x =>
    obtain ⟨o1, o2, o3, o4, o5⟩ := ok
    have := take_S h hc o1 o2 o3 o4 o5 (by omega)
    simpa [CntL, Rw.add, addS, Rw.txt] using this
  | p x =>
    obtain ⟨o1, o2, o3, o4, o5, o6, o7⟩ := ok
    have := take_P h hc o1 o2 o3 o4 o5 o6 o7 (by omega)
    simpa [CntL, Rw.add, addP, Rw.txt] using this
  | l x =>
    obtain ⟨o1, o2, o3, o4⟩ := ok
    have := take_L h hc o1 o2 o3 o4 (by omega)
    simpa [CntL, Rw.add, addL, Rw.txt] using this
  | g x =>
    obtain ⟨o1, o2, o3, o4, o5, o6, o7, o8, o9, o10⟩ := ok
    have := take_G h hc o1 o2 o3 o4 o5 o6 o7 o8 o9 o10 (by omega)
    simpa [CntL, Rw.add, addG, Rw.txt] using this
theorem row_words {st : St} {r : Rw} (ok : RowOk st r) : (∃ ws, splT 32 [] r.txt = lastT r.kd :: ws) ∧ r.txt.length ≤ 100 ∧ 10 ∉ r.txt := by
  cases r with
  | s x =>
    obtain ⟨o1, o2, o3, o4, o5⟩ := ok
    refine ⟨⟨_, words_S o2⟩, by have := o2.hi; simp [Rw.txt, rowS]; omega, ?_⟩
    have := o2.n10
    simp [Rw.txt, rowS, this]
  | p x =>
    obtain ⟨o1, o2, o3, o4, o5, o6, o7⟩ := ok
    refine ⟨⟨_, words_P o2 o3⟩, by have := o2.hi; have := o3.hi; simp [Rw.txt, rowP]; omega, ?_⟩
    have := o2.n10
    have := o3.n10
    simp [Rw.txt, rowP, *]
  | l x =>
    obtain ⟨o1, o2, o3, o4⟩ := ok
    have ng2 : ∀ n ∈ x.needs, good n.1 ∧ 32 ∉ n.2 := fun n hn => ⟨o4 n hn, by rcases (o3.nd.ok n hn).2 with e | e <;> rw [e] <;> decide⟩
    have no : NdOk x.needs := ⟨o3.nd.len, srt_nd o3.nd.srt, fun n hn => ⟨(o4 n hn).hi, by rcases (o3.nd.ok n hn).2 with e | e <;> rw [e] <;> decide⟩⟩
    refine ⟨⟨_, words_L o3.o1.1 o3.o1.2.1 o3.o2.1 o3.o2.2.1 o3.nd.len ng2⟩, ?_, ?_⟩
    · have := rowL_len (k := x) ⟨⟨o3.o1.1.hi, o3.o1.2.1⟩, ⟨o3.o2.1.hi, o3.o2.2.1⟩, no⟩
      have nn : nrm x.needs = x.needs := by
        have := o3.nd.srt
        unfold nrm
        split
        · rename_i x y e
          rw [e] at this
          have : x.1 < y.1 := by simpa using this
          rw [if_neg (fun q => absurd (List.lt_trans this q) (List.lt_irrefl _))]
          exact e.symm
        · rfl
      rw [show nrmL x = x by simp [nrmL, nn]] at this
      simp only [Rw.txt]; omega
    · have a1 := edT_no o3.o1.1 o3.o1.2.1 (c := 10) (by decide) (by decide)
      have a2 := edT_no o3.o2.1 o3.o2.2.1 (c := 10) (by decide) (by decide)
      have a3 : 10 ∉ ndT x.needs := by
        have g : ∀ n ∈ x.needs, 10 ∉ n.1 ∧ 10 ∉ n.2 := fun n hn => ⟨(o4 n hn).n10, by rcases (o3.nd.ok n hn).2 with e | e <;> rw [e] <;> decide⟩
        match hk : x.needs, o3.nd.len with
        | [], _ => simp [ndT]
        | [b], _ => have := g b (by simp [hk]); simp [ndT, whenT, joinT, this]
        | [b, c], _ => have := g b (by simp [hk]); have := g c (by simp [hk]); simp [ndT, whenT, andT, joinT, *]
      simp [Rw.txt, rowL, a1, a2, a3]
  | g x =>
    obtain ⟨o1, o2, o3, o4, o5, o6, o7, o8, o9, o10⟩ := ok
    have a1 := edT_no o3 o4 (c := 10) (by decide) (by decide)
    refine ⟨⟨_, words_G o2 o3 o4⟩, by have := o2.hi; have := edT_len (e := x.2) ⟨o3.hi, o4⟩; simp [Rw.txt, rowG]; omega, ?_⟩
    have := o2.n10
    simp [Rw.txt, rowG, *]
def RowsOk : St → Nat → List Rw → Prop
  | _, _, [] => True
  | st, k, r :: rs => RowOk st r ∧ k ≤ r.kd ∧ RowsOk (r.add st) r.kd rs
def readBody : MS := (sSeq (sSetFld cs_row 8 (eV 1) (eV 3))
    (sSeq (sExp (eMeth 2 m_Reader_take (eV 1) (aCons (eV 4) aNil)))
    (sSeq (sAsg (gV 5) (eOp pIx (eM1 2 pSplit (eV 4) (eC (.str [32]))) (eC (.int 0))))
    (sSeq (sAsg (gV 6) (eLst (aCons (eC (.str [115, 101, 99, 116, 105, 111, 110])) (aCons (eC (.str [112, 111, 105, 110, 116])) (aCons (eC (.str [108, 105, 110, 107])) (aCons (eC (.str [115, 105, 103, 110, 97, 108])) aNil))))))
    (sSeq (sExp (eMeth 2 m_Reader_must (eV 1) (aCons (eOr (eOp pEq (eV 2) (eC (.str []))) (eOp pLe (eM1 0 pIndex (eV 6) (eV 2)) (eM1 0 pIndex (eV 6) (eV 5)))) aNil)))
    (sAsg (gV 2) (eV 5)))))))
theorem index_ok {m : M} {o k : Nat} (h : m[o]? = some (.lst [.str [115, 101, 99, 116, 105, 111, 110], .str [112, 111, 105, 110, 116], .str [108, 105, 110, 107], .str [115, 105, 103, 110, 97, 108]])) (hk : 1 ≤ k) (hk2 : k ≤ 4) :
    pIndex (.ref o) (.str (lastT k)) m = .ok (.int ((k - 1 : Nat) : Int)) m := by
  have h1 : tree DEP m (.ref o) = some (.lst [.str [115, 101, 99, 116, 105, 111, 110], .str [112, 111, 105, 110, 116], .str [108, 105, 110, 107], .str [115, 105, 103, 110, 97, 108]]) := by simp [tree, DEP, h, treesW]
  have : k = 1 ∨ k = 2 ∨ k = 3 ∨ k = 4 := by omega
  have h2 : ∀ s, tree DEP m (.str s) = some (.str s) := fun s => by simp [tree, DEP]
  rcases this with e | e | e | e <;> subst e <;> simp [pIndex, h1, h2, T.noBl, T.noBls, firstIx, lastT, secT, poiT, linT, sigT]
theorem readBody_ok {m : M} {a k n : Nat} {st : St} {r : Rw} {t : D} {y5 y6 : Option D} (h : RdAt m a st) (hc : CntL m a st) (ok : RowOk st r) (hk : k ≤ r.kd) :
    ∃ y6' m', readBody [some t, some (.ref a), some (.str (lastT k)), some (.int (n : Int)), some (.str r.txt), y5, y6] m = .nx [some t, some (.ref a), some (.str (lastT r.kd)), some (.int (n : Int)), some (.str r.txt), some (.str (lastT r.kd)), y6'] m' ∧
      RdAt m' a (r.add st) ∧ CntL m' a (r.add st) ∧ Up (Own a) m m' := by
  obtain ⟨kk, h0⟩ := h.hr
  obtain ⟨⟨ws, w1⟩, w2, w3⟩ := row_words ok
  obtain ⟨m1, hm1⟩ : ∃ m1, m1 = m.set a (.ins 2 [(7, .ref (a + 1)), (8, .int (n : Int)), (9, .ref (a + 6))]) := ⟨_, rfl⟩
  have u1 : Up [a] m m1 := by rw [hm1]; exact Up.set
  have r1 : RdAt m1 a st := by
    obtain ⟨⟨k, q0⟩, q1, q2, q3, ⟨xs, x1, x2, x3⟩, q5, q6⟩ := h
    exact ⟨⟨(n : Int), by rw [hm1]; exact get_set_self h0⟩, u1.get _ _ q1 (by simp), u1.get _ _ q2 (by simp), u1.get _ _ q3 (by simp), ⟨xs, x1, u1.get _ _ x2 (by simp), fun x hx => ⟨(x3 x hx).1, u1.get _ _ (x3 x hx).2.1 (by have := (x3 x hx).1; simp; omega), u1.get _ _ (x3 x hx).2.2 (by have := (x3 x hx).1; simp; omega)⟩⟩, u1.get _ _ q5 (by simp), Nat.le_trans q6 u1.le⟩
  have c1 : CntL m1 a st := u1.get _ _ hc (by simp)
  obtain ⟨m2, t1, t2, t3, t4⟩ := take_row r1 c1 ok
  have g1 : m1[a]? = some (.ins 2 [(7, .ref (a + 1)), (8, .int (n : Int)), (9, .ref (a + 6))]) := by rw [hm1]; exact get_set_self h0
  have sp := split_ok (s := r.txt) (c := 32) (m := m2) (by omega) (by decide)
  rw [w1] at sp
  obtain ⟨m3, hm3⟩ : ∃ m3, m3 = m2 ++ [O.lst ((lastT r.kd :: ws).map .str)] := ⟨_, rfl⟩
  have u3 : Up [] m2 m3 := by rw [hm3]; exact Up.app
  have g3 : m3[m2.length]? = some (.lst ((lastT r.kd :: ws).map .str)) := by rw [hm3]; exact get_new
  rw [← hm3] at sp
  obtain ⟨m4, hm4⟩ : ∃ m4, m4 = m3 ++ [O.lst [.str [115, 101, 99, 116, 105, 111, 110], .str [112, 111, 105, 110, 116], .str [108, 105, 110, 107], .str [115, 105, 103, 110, 97, 108]]] := ⟨_, rfl⟩
  have u4 : Up [] m3 m4 := by rw [hm4]; exact Up.app
  have g4 : m4[m3.length]? = some (.lst [.str [115, 101, 99, 116, 105, 111, 110], .str [112, 111, 105, 110, 116], .str [108, 105, 110, 107], .str [115, 105, 103, 110, 97, 108]]) := by rw [hm4]; exact get_new
  have kb : 1 ≤ r.kd ∧ r.kd ≤ 4 := by cases r <;> simp [Rw.kd]
  have i2 := index_ok g4 kb.1 kb.2
  obtain ⟨kk2, t20⟩ := t2.hr
  have t40 := (u3.then u4).get _ _ t20 nofun
  refine ⟨some (.ref m3.length), m4, ?_, t2.up (u3.then u4), (u3.then u4).get _ _ t3 nofun, ((u1.mono (S' := Own a) (by simp [Own])).same t4).then (u3.then u4)⟩
  by_cases hk0 : k = 0
  · subst hk0
    simp [readBody, h0, ← hm1, g1, t1, sp, g3, ← hm4, g4, t40, lastT]
  · have i1 := index_ok g4 (show 1 ≤ k by omega) (show k ≤ 4 by omega)
    have ne : lastT k ≠ [] := by
      have : k = 1 ∨ k = 2 ∨ k = 3 ∨ k = 4 := by omega
      rcases this with e | e | e | e <;> subst e <;> simp [lastT, secT, poiT, linT, sigT]
    have le : ((k - 1 : Nat) : Int) ≤ ((r.kd - 1 : Nat) : Int) := by omega
    simp [readBody, h0, ← hm1, g1, t1, sp, g3, ← hm4, g4, t40, ne, i1, i2, le]
theorem read_loop {a q : Nat} {t : D} {ls : List D} (hq : q ∉ Own a) : ∀ (rows : List Rw) (st : St) (k n : Nat) (y3 y4 y5 y6 : Option D) (m : M),
    RowsOk st k rows → RdAt m a st → CntL m a st → m[q]? = some (.lst ls) →
    ∃ y2 y3' y4' y5' y6' m', forGo (gTup [(gV 3), (gV 4)]) (fun M => isObj M q (.lst ls)) readBody (numbered n (rows.map fun r => .str r.txt)) [some t, some (.ref a), some (.str (lastT k)), y3, y4, y5, y6] m = .nx [some t, some (.ref a), y2, y3', y4', y5', y6'] m' ∧
      RdAt m' a (rows.foldl Rw.add st) ∧ Up (Own a) m m'
  | [], st, k, n, y3, y4, y5, y6, m, ok, h, hc, hm => by
    exact ⟨some (.str (lastT k)), y3, y4, y5, y6, m, by simp [numbered, forGo, isObj_ok hm], h, Up.refl _ _⟩
  | r :: rs, st, k, n, y3, y4, y5, y6, m, ok, h, hc, hm => by
    obtain ⟨o1, o2, o3⟩ := ok
    obtain ⟨z6, m1, b1, b2, b3, b4⟩ := readBody_ok (n := n) (t := t) (y5 := y5) (y6 := y6) h hc o1 o2
    obtain ⟨w2, w3, w4, w5, w6, m2, c1, c2, c3⟩ := read_loop (t := t) hq rs (r.add st) r.kd (n + 1) (some (.int (n : Int))) (some (.str r.txt)) (some (.str (lastT r.kd))) z6 m1 o3 b2 b3 (b4.get _ _ hm hq)
    refine ⟨w2, w3, w4, w5, w6, m2, ?_, c2, b4.same c3⟩
    simp only [List.map_cons, numbered, forGo, isObj_ok hm, if_true, gTup, gAll, gV, R.bind_ok, List.set_cons_succ, List.set_cons_zero, b1]
    exact c1
@[simp] theorem iEnum_eq {e ρ m} : iEnum e ρ m = it1 (fun x m1 => match x with
  | .ref a => (match m1[a]? with
    | some (.lst xs) => .ok (numbered 0 xs, fun m => isObj m a (.lst xs)) m1
    | _ => .bad)
  | _ => .bad) (e ρ m) := nr rfl
def dc2 (a : Nat) (o : Option (List (Ky × D))) (m1 : M) : R D := match o with
  | some kvs => if kvs.length ≤ 15 ∧ m1[a]? = some (.dct false []) then .ok (.ref a) (m1.set a (.dct false (kvs.foldl (fun acc kv => putKv acc kv.1 kv.2) []))) else .bad
  | none => .bad
def dc1 (a : Nat) (r : R (List D)) : R D := r.bind fun xs m1 => dc2 a (pairUp xs) m1
@[simp] theorem eDct_eq {a ρ m} : eDct a ρ m = dc1 m.length (a ρ (m ++ [.dct false []])) := nr rfl
@[simp] theorem dc1_ok {a xs m} : dc1 a (.ok xs m) = dc2 a (pairUp xs) m := nr rfl
theorem dc2_ok {a kvs m} (h : kvs.length ≤ 15) (h2 : m[a]? = some (.dct false [])) : dc2 a (some kvs) m = .ok (.ref a) (m.set a (.dct false (kvs.foldl (fun acc kv => putKv acc kv.1 kv.2) []))) := by
  simp only [dc2, h, h2, and_self, if_true]
@[simp] theorem pairUp_nil : pairUp [] = some [] := nr rfl
@[simp] theorem pairUp_str {k v r} : pairUp (.str k :: v :: r) = (pairUp r).map ((.inr k, v) :: ·) := by
  simp only [pairUp, toKy_str]
  cases pairUp r <;> rfl
theorem init_ok {m : M} : m_Reader_init__ [.ref m.length] (m ++ [.ins 2 []]) = .ok .non (m ++ [.ins 2 [(7, .ref (m.length + 1)), (8, .int 0), (9, .ref (m.length + 6))], .ins 1 [(3, .ref (m.length + 2)), (4, .ref (m.length + 3)), (5, .ref (m.length + 4)), (6, .ref (m.length + 5))], .lst [], .dct false [], .lst [], .dct false [],
    .dct false [(.inr secT, .int ((0 : Nat) : Int)), (.inr poiT, .int ((0 : Nat) : Int)), (.inr linT, .int ((0 : Nat) : Int)), (.inr sigT, .int ((0 : Nat) : Int))]]) := by
  simp [m_Reader_init__, m_Reader_init___body, m_Layout_init__, m_Layout_init___body]
  rw [dc2_ok (by simp) (by simp)]
  simp [putKv, secT, poiT, linT, sigT]
def emptyS : St := ⟨[], [], [], [], 0⟩
theorem rowsOk_words : ∀ (rows : List Rw) (st : St) (k : Nat), RowsOk st k rows → ∀ r ∈ rows, r.txt.length ≤ 100 ∧ 10 ∉ r.txt
  | [], _, _, _, r, h => by simp at h
  | r :: rs, st, k, ok, x, h => by
    obtain ⟨o1, o2, o3⟩ := ok
    rcases List.mem_cons.mp h with e | e
    · subst e; exact (row_words o1).2
    · exact rowsOk_words rs _ _ o3 x e
theorem read_ok {m : M} {rows : List Rw} (ok : RowsOk emptyS 0 rows) (hne : rows ≠ []) (hl : rows.length ≤ 200) :
    ∃ m', m_read_layout [.str (joinT [10] (rows.map Rw.txt))] m = .ok (.ref (m.length + 1)) m' ∧ RdAt m' m.length (rows.foldl Rw.add emptyS) ∧ Up [] m m' := by
  have wr := rowsOk_words rows _ _ ok
  obtain ⟨m1, hm1⟩ : ∃ m1, m1 = m ++ [O.ins 2 [(7, .ref (m.length + 1)), (8, .int 0), (9, .ref (m.length + 6))], .ins 1 [(3, .ref (m.length + 2)), (4, .ref (m.length + 3)), (5, .ref (m.length + 4)), (6, .ref (m.length + 5))], .lst [], .dct false [], .lst [], .dct false [],
    .dct false [(.inr secT, .int ((0 : Nat) : Int)), (.inr poiT, .int ((0 : Nat) : Int)), (.inr linT, .int ((0 : Nat) : Int)), (.inr sigT, .int ((0 : Nat) : Int))]] := ⟨_, rfl⟩
  have ini := init_ok (m := m)
  rw [← hm1] at ini
  have r1 : RdAt m1 m.length emptyS := ⟨⟨0, by simp [hm1]⟩, by simp [hm1], by simp [hm1, emptyS], by simp [hm1, emptyS], ⟨[], rfl, by simp [hm1], by simp⟩, by simp [hm1, emptyS], by simp [hm1]⟩
  have c1 : CntL m1 m.length emptyS := by simp [CntL, Cnt, hm1, emptyS]
  have u1 : Up [] m m1 := by rw [hm1]; exact Up.app
  have l1 := r1.hB
  have jl := join_len (s := [10]) (ys := rows.map Rw.txt) (k := 100) (by
    intro y hy
    obtain ⟨x, hx, rfl⟩ := List.mem_map.mp hy
    exact (wr x hx).1)
  have jl2 : (rows.map Rw.txt).length * (100 + ([10] : Tx).length) ≤ 200 * 101 := Nat.mul_le_mul (by simpa using hl) (by decide)
  have sp := split_ok (s := joinT [10] (rows.map Rw.txt)) (c := 10) (m := m1) (by omega) (by decide)
  rw [splT_join (by simpa using hne) (by
    intro y hy
    obtain ⟨x, hx, rfl⟩ := List.mem_map.mp hy
    exact (wr x hx).2)] at sp
  obtain ⟨m2, hm2⟩ : ∃ m2, m2 = m1 ++ [O.lst ((rows.map Rw.txt).map .str)] := ⟨_, rfl⟩
  rw [← hm2] at sp
  have u2 : Up [] m1 m2 := by rw [hm2]; exact Up.app
  have g2 : m2[m1.length]? = some (.lst ((rows.map Rw.txt).map .str)) := by rw [hm2]; exact get_new
  have rr : (rows.map Rw.txt).map D.str = rows.map fun r => .str r.txt := by simp [Function.comp_def]
  rw [rr] at g2
  obtain ⟨w2, w3, w4, w5, w6, m3, b1, b2, b3⟩ := read_loop (q := m1.length) (t := .str (joinT [10] (rows.map Rw.txt))) (by simp [Own]; omega) rows emptyS 0 0 none none none none m2 ok (r1.up u2) (u2.get _ _ c1 nofun) g2
  have b3' : Up [] m m3 := by
    refine (u1.then u2).trans b3 fun i hi => .inr ?_
    simp only [Own, List.mem_cons, List.not_mem_nil, or_false] at hi
    omega
  obtain ⟨kk, b20⟩ := b2.hr
  refine ⟨m3, ?_, b2, b3'⟩
  have hf : sFor (gTup [(gV 3), (gV 4)]) (iEnum (eM1 2 pSplit (eV 0) (eC (.str [10])))) readBody [some (.str (joinT [10] (rows.map Rw.txt))), some (.ref m.length), some (.str []), none, none, none, none] m1 = .nx [some (.str (joinT [10] (rows.map Rw.txt))), some (.ref m.length), w2, w3, w4, w5, w6] m3 := by
    simp [sp, g2]
    exact b1
  simp only [readBody] at hf
  simp [-sFor_eq, m_read_layout, m_read_layout_body, ini, hf, b20]
end Mn
end

section
set_option linter.all false
namespace Mn
structure Valid (st : St) : Prop where
  s0 : st.secs ≠ []
  s1 : st.secs.length ≤ 30
  s2 : ∀ s ∈ st.secs, good s
  s3 : st.secs.Nodup
  p1 : st.pts.length ≤ 12
  p2 : ∀ p ∈ st.pts, good p.1 ∧ p.2 ∈ st.secs ∧ p.1 ∉ st.secs
  p3 : (st.pts.map (·.1)).Nodup
  l1 : st.lks.length ≤ 60
  l2 : ∀ k ∈ st.lks, (k.one.1 ∈ st.secs ∧ k.one.2 < 2) ∧ (k.other.1 ∈ st.secs ∧ k.other.2 < 2) ∧ k.one.1 ≠ k.other.1 ∧ NeedOk st k
  l3 : st.lks.Pairwise fun k' k => (shares k.one k' = true ∨ shares k.other k' = true) → Apart k'.needs k.needs
  g1 : st.sgs.length ≤ 16
  g2 : ∀ g ∈ st.sgs, good g.1 ∧ g.2.1 ∈ st.secs ∧ g.2.2 < 2 ∧ g.1 ∉ st.secs ∧ g.1 ∉ st.pts.map (·.1)
  g3 : (st.sgs.map (·.1)).Nodup
  g4 : (st.sgs.map (·.2)).Nodup
theorem rows_mono {st : St} {k k' : Nat} {rows : List Rw} (h : RowsOk st k rows) (hk : k' ≤ k) : RowsOk st k' rows := by
  cases rows with
  | nil => trivial
  | cons r rs => exact ⟨h.1, Nat.le_trans hk h.2.1, h.2.2⟩
def rwsOf (st : St) : List Rw := st.secs.map .s ++ (st.pts.map .p ++ (st.lks.map .l ++ st.sgs.map .g))
theorem seg_S {st : St} (v : Valid st) {rest : List Rw} (h : RowsOk ⟨st.secs, [], [], [], 0⟩ 1 rest) : ∀ (todo done : List Tx), st.secs = done ++ todo → RowsOk ⟨done, [], [], [], 0⟩ 1 (todo.map .s ++ rest)
  | [], done, e => by simp at e; rw [← e]; exact h
  | x :: r, done, e => by
    have hx : x ∈ st.secs := by rw [e]; simp
    have hl := v.s1
    rw [e] at hl
    have nd := v.s3
    rw [e] at nd
    have hn : x ∉ done := fun q => (List.nodup_append.mp nd).2.2 x q x (by simp) rfl
    have ih := seg_S v h r (done ++ [x]) (by rw [e]; simp)
    exact ⟨⟨by simp at hl ⊢; omega, v.s2 x hx, hn, by simp, by simp⟩, by simp [Rw.kd], ih⟩
theorem seg_P {st : St} (v : Valid st) {rest : List Rw} (h : RowsOk ⟨st.secs, st.pts, [], [], 0⟩ 2 rest) : ∀ (todo done : List (Tx × Tx)), st.pts = done ++ todo → RowsOk ⟨st.secs, done, [], [], 0⟩ 2 (todo.map .p ++ rest)
  | [], done, e => by simp at e; rw [← e]; exact h
  | x :: r, done, e => by
    have hx : x ∈ st.pts := by rw [e]; simp
    have hl := v.p1
    rw [e] at hl
    have nd := v.p3
    rw [e, List.map_append] at nd
    have hn : x.1 ∉ done.map (·.1) := fun q => (List.nodup_append.mp nd).2.2 x.1 q x.1 (by simp) rfl
    have ih := seg_P v h r (done ++ [x]) (by rw [e]; simp)
    obtain ⟨a1, a2, a3⟩ := v.p2 x hx
    exact ⟨⟨by simp at hl ⊢; omega, a1, v.s2 _ a2, a2, a3, hn, by simp⟩, by simp [Rw.kd], ih⟩
theorem seg_L {st : St} (v : Valid st) {rest : List Rw} (h : RowsOk ⟨st.secs, st.pts, st.lks, [], 0⟩ 3 rest) : ∀ (todo done : List Lk), st.lks = done ++ todo → RowsOk ⟨st.secs, st.pts, done, [], 0⟩ 3 (todo.map .l ++ rest)
  | [], done, e => by simp at e; rw [← e]; exact h
  | x :: r, done, e => by
    have hx : x ∈ st.lks := by rw [e]; simp
    have hl := v.l1
    rw [e] at hl
    have nd := v.l3
    rw [e] at nd
    have hn := (List.pairwise_append.mp nd).2.2
    have ih := seg_L v h r (done ++ [x]) (by rw [e]; simp)
    obtain ⟨a1, a2, a3, a4⟩ := v.l2 x hx
    refine ⟨⟨by simp at hl ⊢; omega, v.p3, ⟨⟨v.s2 _ a1.1, a1.2, a1.1⟩, ⟨v.s2 _ a2.1, a2.2, a2.1⟩, a3, ⟨a4.len, a4.srt, a4.ok⟩, fun k' hk => hn k' hk x (by simp)⟩, ?_⟩, by simp [Rw.kd], ih⟩
    intro n hn
    obtain ⟨⟨sec, b1, _⟩, _⟩ := a4.ok n hn
    exact (v.p2 _ b1).1
theorem seg_G {st : St} (v : Valid st) : ∀ (todo done : List (Tx × Ed)), st.sgs = done ++ todo → RowsOk ⟨st.secs, st.pts, st.lks, done, 0⟩ 4 (todo.map .g)
  | [], done, e => trivial
  | x :: r, done, e => by
    have hx : x ∈ st.sgs := by rw [e]; simp
    have hl := v.g1
    rw [e] at hl
    have nd := v.g3
    rw [e, List.map_append] at nd
    have hn : x.1 ∉ done.map (·.1) := fun q => (List.nodup_append.mp nd).2.2 x.1 q x.1 (by simp) rfl
    have nd2 := v.g4
    rw [e, List.map_append] at nd2
    have hn2 : x.2 ∉ done.map (·.2) := fun q => (List.nodup_append.mp nd2).2.2 x.2 q x.2 (by simp) rfl
    have ih := seg_G v r (done ++ [x]) (by rw [e]; simp)
    obtain ⟨a1, a2, a3, a4, a5⟩ := v.g2 x hx
    exact ⟨⟨by simp at hl ⊢; omega, a1, v.s2 _ a2, a3, a2, a4, a5, hn, hn2, (List.nodup_append.mp nd).1⟩, by simp [Rw.kd], ih⟩
theorem rowsOk {st : St} (v : Valid st) : RowsOk emptyS 0 (rwsOf st) := by
  refine rows_mono (k := 1) ?_ (by omega)
  refine seg_S v ?_ st.secs [] rfl
  refine rows_mono (k := 2) ?_ (by omega)
  refine seg_P v ?_ st.pts [] rfl
  refine rows_mono (k := 3) ?_ (by omega)
  refine seg_L v ?_ st.lks [] rfl
  refine rows_mono (k := 4) ?_ (by omega)
  exact seg_G v st.sgs [] rfl
theorem fold_S : ∀ (l : List Tx) (st : St), (l.map Rw.s).foldl Rw.add st = { st with secs := st.secs ++ l }
  | [], st => by simp
  | x :: r, st => by simp only [List.map_cons, List.foldl_cons]; rw [fold_S r]; simp [Rw.add, addS]
theorem fold_P : ∀ (l : List (Tx × Tx)) (st : St), (l.map Rw.p).foldl Rw.add st = { st with pts := st.pts ++ l }
  | [], st => by simp
  | x :: r, st => by simp only [List.map_cons, List.foldl_cons]; rw [fold_P r]; simp [Rw.add, addP]
theorem fold_L : ∀ (l : List Lk) (st : St), (l.map Rw.l).foldl Rw.add st = { st with lks := st.lks ++ l }
  | [], st => by simp
  | x :: r, st => by simp only [List.map_cons, List.foldl_cons]; rw [fold_L r]; simp [Rw.add, addL]
theorem fold_G : ∀ (l : List (Tx × Ed)) (st : St), (l.map Rw.g).foldl Rw.add st = { st with sgs := st.sgs ++ l }
  | [], st => by simp
  | x :: r, st => by simp only [List.map_cons, List.foldl_cons]; rw [fold_G r]; simp [Rw.add, addG]
theorem fold_rows {st : St} : (rwsOf st).foldl Rw.add emptyS = { st with turn := 0 } := by
  simp only [rwsOf, List.foldl_append, fold_S, fold_P, fold_L, fold_G]
  simp [emptyS]
theorem text_rows {st : St} : textOf st = joinT [10] ((rwsOf st).map Rw.txt) := by
  simp only [textOf, rowsOf, rwsOf, List.map_append, List.map_map, List.append_assoc]
  rfl
theorem read_valid {m : M} {st : St} (v : Valid st) : ∃ m', m_read_layout [.str (textOf st)] m = .ok (.ref (m.length + 1)) m' ∧ RdAt m' m.length { st with turn := 0 } ∧ Up [] m m' := by
  rw [text_rows, ← fold_rows]
  refine read_ok (rowsOk v) ?_ ?_
  · have := v.s0
    simp [rwsOf, this]
  · have := v.s1; have := v.p1; have := v.l1; have := v.g1
    simp [rwsOf]; omega
theorem valid_sz {st : St} (v : Valid st) : Sz { st with turn := 0 } where
  s1 := v.s1
  s2 := fun s h => (v.s2 s h).hi
  p1 := v.p1
  p2 := fun p h => ⟨(v.p2 p h).1.hi, (v.s2 _ (v.p2 p h).2.1).hi⟩
  p3 := v.p3
  l1 := v.l1
  l2 := fun k h => by
    obtain ⟨a1, a2, a3, a4⟩ := v.l2 k h
    refine ⟨⟨(v.s2 _ a1.1).hi, a1.2⟩, ⟨(v.s2 _ a2.1).hi, a2.2⟩, ⟨a4.len, srt_nd a4.srt, fun n hn => ?_⟩⟩
    obtain ⟨⟨sec, b1, _⟩, b2⟩ := a4.ok n hn
    refine ⟨(v.p2 _ b1).1.hi, ?_⟩
    rcases b2 with e | e <;> rw [e] <;> decide
  g1 := v.g1
  g2 := fun g h => by
    obtain ⟨a1, a2, a3, a4, a5⟩ := v.g2 g h
    exact ⟨a1.hi, (v.s2 _ a2).hi, a3⟩
  g3 := v.g3
theorem nrm_srt {ns : List (Tx × Tx)} (h : ns.Pairwise fun a b => a.1 < b.1) : nrm ns = ns := by
  unfold nrm
  split
  · rename_i x y
    have : x.1 < y.1 := by simpa using h
    rw [if_neg (fun q => absurd (List.lt_trans this q) (List.lt_irrefl _))]
  · rfl
theorem nrmS_valid {st : St} (v : Valid st) : nrmS { st with turn := 0 } = { st with turn := 0 } := by
  have : st.lks.map nrmL = st.lks := by
    refine (List.map_congr_left fun k hk => ?_).trans (List.map_id _)
    have := (v.l2 k hk).2.2.2.srt
    simp [nrmL, nrm_srt this]
  simp [nrmS, this]
theorem lay_valid {m : M} {a : Nat} {st : St} (v : Valid st) (h : RdAt m a { st with turn := 0 }) : ∃ m', m_layout_text [.ref (a + 1)] m = .ok (.str (textOf st)) m' ∧ Up [] m m' := by
  have := layout_text_ok h.lay (valid_sz v)
  rw [nrmS_valid v] at this
  exact this
structure StL (m : M) (d s p l g : Nat) (lk : Bool) (xs : List (Lk × Nat)) (st : St) : Prop where
  hd : m[d]? = some (.dct false [(.inr [115, 101, 99, 116, 105, 111, 110, 115], .ref s), (.inr [112, 111, 105, 110, 116, 115], .ref p), (.inr [108, 105, 110, 107, 115], .ref l), (.inr [115, 105, 103, 110, 97, 108, 115], .ref g), (.inr [116, 117, 114, 110], .int (st.turn : Int))])
  hs : m[s]? = some (.lst (st.secs.map .str))
  hp : m[p]? = some (.dct false (st.pts.map tKv))
  hx : st.lks = xs.map (·.1)
  hl : m[l]? = some (.lst (xs.map lkD))
  hk : ∀ x ∈ xs, m[x.2]? = some (.dct false (x.1.needs.map tKv))
  hg : m[g]? = some (.dct lk (st.sgs.map eKv))
  ne : g ≠ d ∧ g ≠ p ∧ g ≠ s ∧ g ≠ l ∧ ∀ x ∈ xs, x.2 ≠ g
theorem StL.at {m : M} {d s p l g : Nat} {xs : List (Lk × Nat)} {st : St} (h : StL m d s p l g false xs st) : StAt m d s p l g st := ⟨h.hd, h.hs, h.hp, ⟨xs, h.hx, h.hl, h.hk⟩, h.hg⟩
/-- few links at an end -/
def DegOk (st : St) : Prop := ∃ Dg, 1 ≤ Dg ∧ (∀ e, (st.lks.filter (shares e)).length ≤ Dg) ∧ Dg ^ st.secs.length ≤ 6561
/-- what a station's making must give -/
def StationOkF (f : MF) : Prop := ∀ (m : M) (r : Nat) (scr : List Int), Row m r scr → scr.length ≤ 63 → ∃ m' d s p l g xs st, f [.ref r] m = .ok (.ref d) m' ∧ StL m' d s p l g false xs st ∧ Valid (nrmS st) ∧ Sz st ∧ DegOk st ∧ Row m' r scr ∧ (r ≠ d ∧ r ≠ s ∧ r ≠ p ∧ r ≠ l ∧ r ≠ g ∧ ∀ x ∈ xs, r ≠ x.2)
abbrev StationOk : Prop := StationOkF m_law_station
end Mn
end

section
set_option linter.all false
namespace Mn
/-! ### locks of either kind, loops that only add -/
theorem up_lock {m m2 : M} {a : Nat} {o o' : O} (h : m[a]? = some o) (u : Up [] (m.set a o') m2) : Up [] m (m2.set a o) ∧ m2[a]? = some o' := by
  have g2 : m2[a]? = some o' := u.get _ _ (get_set_self h) nofun
  refine ⟨⟨by have := u.le; simpa using this, fun i o1 e _ => ?_⟩, g2⟩
  by_cases hi : a = i
  · subst hi
    rw [h] at e; cases e
    exact get_set_self g2
  · rw [get_set_ne hi]; exact u.get _ _ (by rw [get_set_ne hi]; exact e) nofun
theorem set_true {m : M} {a : Nat} {kvs : List (Ky × D)} (h : m[a]? = some (.dct true kvs)) : m.set a (.dct true kvs) = m := set_same h
theorem slock_nx {e : ME} {s : MS} {ρ ρ2 : Fr} {m m' m2 : M} {a : Nat} {lk : Bool} {kvs : List (Ky × D)} (h1 : e ρ m = .ok (.ref a) m') (h2 : m[a]? = some (.dct lk kvs))
    (h3 : s ρ (m.set a (.dct true kvs)) = .nx ρ2 m2) (h4 : m2[a]? = some (.dct true kvs)) : sLock e s ρ m = .nx ρ2 (m2.set a (.dct lk kvs)) := by
  cases lk with
  | false => exact lock_nx h1 h2 h3 h4
  | true => rw [set_true h2] at h3; rw [set_same h4]; simp [sLock, h1, h2, h3]
theorem slock_rt {e : ME} {s : MS} {ρ : Fr} {d : D} {m m' m2 : M} {a : Nat} {lk : Bool} {kvs : List (Ky × D)} (h1 : e ρ m = .ok (.ref a) m') (h2 : m[a]? = some (.dct lk kvs))
    (h3 : s ρ (m.set a (.dct true kvs)) = .rt d m2) (h4 : m2[a]? = some (.dct true kvs)) : sLock e s ρ m = .rt d (m2.set a (.dct lk kvs)) := by
  cases lk with
  | false => exact lock_rt h1 h2 h3 h4
  | true => rw [set_true h2] at h3; rw [set_same h4]; simp [sLock, h1, h2, h3]
theorem slock_exc {e : ME} {s : MS} {ρ ρ2 : Fr} {x : Xn} {m m' m2 : M} {a : Nat} {lk : Bool} {kvs : List (Ky × D)} (h1 : e ρ m = .ok (.ref a) m') (h2 : m[a]? = some (.dct lk kvs))
    (h3 : s ρ (m.set a (.dct true kvs)) = .exc x ρ2 m2) : sLock e s ρ m = .exc x ρ2 m2 := by
  cases lk with
  | false => simp [sLock, h1, h2, h3]
  | true => rw [set_true h2] at h3; simp [sLock, h1, h2, h3]
theorem elock_all {e x : ME} {ρ : Fr} {v : D} {m m' m2 : M} {a : Nat} {lk : Bool} {kvs : List (Ky × D)} (h1 : e ρ m = .ok (.ref a) m') (h2 : m[a]? = some (.dct lk kvs))
    (h3 : x ρ (m.set a (.dct true kvs)) = .ok v m2) (h4 : m2[a]? = some (.dct true kvs)) : eLock e x ρ m = .ok v (m2.set a (.dct lk kvs)) := by
  cases lk with
  | false => exact elock_ok h1 h2 h3 h4
  | true => rw [set_true h2] at h3; rw [set_same h4]; simp [eLock, h1, h2, h3]
/-- the first that is right is told -/
theorem for_first {α : Type} {g : MG} {chk : M → Bool} {body : MS} (F : α → D) (b : α → Bool) (v : α → D) (P : Fr → Prop) {m0 : M} (hc : ∀ m, Up [] m0 m → chk m = true) :
    ∀ (xs : List α), (∀ x ∈ xs, ∀ ρ m, P ρ → Up [] m0 m → ∃ ρ1 ρ2 m2, g (F x) ρ m = .ok ρ1 m ∧ body ρ1 m = (if b x = true then .rt (v x) m2 else .nx ρ2 m2) ∧ P ρ2 ∧ Up [] m m2) →
      ∀ ρ m, P ρ → Up [] m0 m → ∃ ρ' m', P ρ' ∧ Up [] m m' ∧ forGo g chk body (xs.map F) ρ m = (match xs.find? b with | some x => .rt (v x) m' | none => .nx ρ' m')
  | [], _, ρ, m, hp, u => ⟨ρ, m, hp, Up.refl [] m, by simp [forGo, hc m u]⟩
  | x :: r, step, ρ, m, hp, u => by
    obtain ⟨ρ1, ρ2, m2, h1, h2, h3, h4⟩ := step x (by simp) ρ m hp u
    by_cases hb : b x = true
    · rw [if_pos hb] at h2
      exact ⟨ρ, m2, hp, h4, by simp [forGo, hc m u, h1, h2, hb]⟩
    · rw [if_neg hb] at h2
      obtain ⟨ρ', m', k1, k2, k3⟩ := for_first F b v P hc r (fun y hy => step y (by simp [hy])) ρ2 m2 h3 (u.then h4)
      exact ⟨ρ', m', k1, h4.then k2, by simp [forGo, hc m u, h1, h2, hb, k3]⟩
theorem lcU_go {α : Type} {i : Nat} {ρ : Fr} {chk : M → Bool} {t : MT} {e : ME} (F : α → D) (b : α → Bool) (g : α → D) {m0 : M} (hc : ∀ m, Up [] m0 m → chk m = true) :
    ∀ (xs : List α) (acc : List D) (m : M), Up [] m0 m → (∀ x ∈ xs, ∀ m, Up [] m0 m → ∃ m2, t (ρ.set i (some (F x))) m = .ok (b x) m2 ∧ Up [] m m2) →
      (∀ x ∈ xs, b x = true → ∀ m, Up [] m0 m → ∃ m2, e (ρ.set i (some (F x))) m = .ok (g x) m2 ∧ Up [] m m2) → ∃ m1, lcGo i ρ chk t e (xs.map F) acc m = .ok (acc ++ (xs.filter b).map g) m1 ∧ Up [] m m1
  | [], acc, m, u, _, _ => ⟨m, by simp [lcGo, hc m u], Up.refl [] m⟩
  | x :: r, acc, m, u, ht, he => by
    obtain ⟨m2, h1, h2⟩ := ht x (by simp) m u
    by_cases hb : b x = true
    · obtain ⟨m3, h3, h4⟩ := he x (by simp) hb m2 (u.then h2)
      obtain ⟨m1, k1, k2⟩ := lcU_go F b g hc r (acc ++ [g x]) m3 ((u.then h2).then h4) (fun y hy => ht y (by simp [hy])) (fun y hy => he y (by simp [hy]))
      exact ⟨m1, by simp [lcGo, hc m u, h1, hb, h3, k1], (h2.then h4).then k2⟩
    · simp only [Bool.not_eq_true] at hb
      obtain ⟨m1, k1, k2⟩ := lcU_go F b g hc r acc m2 (u.then h2) (fun y hy => ht y (by simp [hy])) (fun y hy => he y (by simp [hy]))
      exact ⟨m1, by simp [lcGo, hc m u, h1, hb, k1], h2.then k2⟩
theorem lcU {α : Type} {i : Nat} {ρ : Fr} {it : MI} {chk : M → Bool} {t : MT} {e : ME} {m m0 : M} (F : α → D) (b : α → Bool) (g : α → D) (xs : List α)
    (hi : it ρ m = .ok (xs.map F, chk) m0) (hc : ∀ m, Up [] m0 m → chk m = true) (hl : xs.length ≤ LIM) (ht : ∀ x ∈ xs, ∀ m, Up [] m0 m → ∃ m2, t (ρ.set i (some (F x))) m = .ok (b x) m2 ∧ Up [] m m2)
    (he : ∀ x ∈ xs, b x = true → ∀ m, Up [] m0 m → ∃ m2, e (ρ.set i (some (F x))) m = .ok (g x) m2 ∧ Up [] m m2) :
    ∃ m1, eLc i it t e ρ m = .ok (.ref m1.length) (m1 ++ [.lst ((xs.filter b).map g)]) ∧ Up [] m0 m1 := by
  obtain ⟨m1, h1, h2⟩ := lcU_go F b g hc xs [] m0 (Up.refl [] m0) ht he
  have hl2 : (xs.map F).length ≤ LIM := by simpa using hl
  exact ⟨m1, by simp only [eLc, hi, R.bind_ok, hl2, if_true, h1, List.nil_append], h2⟩
theorem isObj_up {m m' : M} {a : Nat} {o : O} (h : m[a]? = some o) (u : Up [] m m') : isObj m' a o = true := isObj_ok (u.get _ _ h nofun)
/-! ### the layout, its signals locked or not -/
structure LyAt (m : M) (a : Nat) (lk : Bool) (xs : List (Lk × Nat × Nat)) (st : St) : Prop where
  hL : m[a]? = some (.ins 1 [(3, .ref (a + 1)), (4, .ref (a + 2)), (5, .ref (a + 3)), (6, .ref (a + 4))])
  hs : m[a + 1]? = some (.lst (st.secs.map .str))
  hp : m[a + 2]? = some (.dct false (st.pts.map tKv))
  hx : st.lks = xs.map (·.1)
  hl : m[a + 3]? = some (.lst (xs.map fun x => .ref x.2.1))
  hk : ∀ x ∈ xs, (a + 5 ≤ x.2.1 ∧ a + 5 ≤ x.2.2) ∧ m[x.2.1]? = some (.ins 0 [(0, edD x.1.one), (1, edD x.1.other), (2, .ref x.2.2)]) ∧ m[x.2.2]? = some (.dct false (x.1.needs.map tKv))
  hg : m[a + 4]? = some (.dct lk (st.sgs.map eKv))
theorem RdAt.ly {m : M} {a : Nat} {st : St} (h : RdAt m a st) : ∃ xs, LyAt m (a + 1) false xs st := by
  obtain ⟨_, h1, h2, h3, ⟨xs, x1, x2, x3⟩, h5, _⟩ := h
  exact ⟨xs, h1, h2, h3, x1, x2, fun x hx => ⟨by have := (x3 x hx).1; omega, (x3 x hx).2⟩, h5⟩
section
variable {m m' : M} {a : Nat} {lk : Bool} {xs : List (Lk × Nat × Nat)} {st : St}
/-- all but places behind it may be written -/
theorem LyAt.upS (h : LyAt m a lk xs st) {S : List Nat} (u : Up S m m') (hS : ∀ i ∈ S, (i < a ∨ a + 5 ≤ i) ∧ ∀ x ∈ xs, i ≠ x.2.1 ∧ i ≠ x.2.2) : LyAt m' a lk xs st := by
  have nn : ∀ i, a ≤ i → i < a + 5 → i ∉ S := fun i h1 h2 z => by have := (hS i z).1; omega
  exact ⟨u.get _ _ h.hL (nn _ (by omega) (by omega)), u.get _ _ h.hs (nn _ (by omega) (by omega)), u.get _ _ h.hp (nn _ (by omega) (by omega)), h.hx, u.get _ _ h.hl (nn _ (by omega) (by omega)),
    fun x hx => ⟨(h.hk x hx).1, u.get _ _ (h.hk x hx).2.1 fun z => ((hS _ z).2 x hx).1 rfl, u.get _ _ (h.hk x hx).2.2 fun z => ((hS _ z).2 x hx).2 rfl⟩, u.get _ _ h.hg (nn _ (by omega) (by omega))⟩
theorem LyAt.up (h : LyAt m a lk xs st) (u : Up [] m m') : LyAt m' a lk xs st := h.upS u nofun
/-- a place that is told to hold another thing is none of its -/
theorem LyAt.off (h : LyAt m a lk xs st) {i : Nat} {o : O} (hi : m[i]? = some o) (h1 : ∀ C fs, o ≠ .ins C fs) (h2 : ∀ b kvs, o ≠ .dct b kvs) (h3 : i ≠ a + 1) (h4 : i ≠ a + 3) : (i < a ∨ a + 5 ≤ i) ∧ ∀ x ∈ xs, i ≠ x.2.1 ∧ i ≠ x.2.2 := by
  have q0 : i ≠ a := fun z => by subst z; rw [h.hL] at hi; cases hi; exact h1 _ _ rfl
  have q2 : i ≠ a + 2 := fun z => by subst z; rw [h.hp] at hi; cases hi; exact h2 _ _ rfl
  have q4 : i ≠ a + 4 := fun z => by subst z; rw [h.hg] at hi; cases hi; exact h2 _ _ rfl
  refine ⟨by omega, fun x hx => ⟨fun z => ?_, fun z => ?_⟩⟩
  · subst z; rw [(h.hk x hx).2.1] at hi; cases hi; exact h1 _ _ rfl
  · subst z; rw [(h.hk x hx).2.2] at hi; cases hi; exact h2 _ _ rfl
theorem LyAt.lock (h : LyAt m a lk xs st) (lk' : Bool) : LyAt (m.set (a + 4) (.dct lk' (st.sgs.map eKv))) a lk' xs st := by
  have nm : ∀ {i o}, m[i]? = some o → i ≠ a + 4 → (m.set (a + 4) (.dct lk' (st.sgs.map eKv)))[i]? = some o := fun hi ne => by rw [get_set_ne (Ne.symm ne)]; exact hi
  exact ⟨nm h.hL (by omega), nm h.hs (by omega), nm h.hp (by omega), h.hx, nm h.hl (by omega), fun x hx => ⟨(h.hk x hx).1, nm (h.hk x hx).2.1 (by have := (h.hk x hx).1; omega), nm (h.hk x hx).2.2 (by have := (h.hk x hx).1; omega)⟩, get_set_self h.hg⟩
def oT : Option Tx → D
  | none => .non
  | some s => .str s
def sgAt (sgs : List (Tx × Ed)) (e : Ed) : Option Tx := (sgs.find? fun g => decide (g.2 = e)).map (·.1)
theorem signal_at_ok {e : Ed} (h : LyAt m a lk xs st) (nd : (st.sgs.map (·.1)).Nodup) : m_Layout_signal_at [.ref a, edD e] m = .ok (oT (sgAt st.sgs e)) m := by
  have l1 := (h.lock true).hL
  have l2 := (h.lock true).hg
  obtain ⟨ml, hml⟩ : ∃ ml, ml = m.set (a + 4) (.dct true (st.sgs.map eKv)) := ⟨_, rfl⟩
  rw [← hml] at l1 l2
  have go : ∀ (ys : List (Tx × Ed)), (∀ y ∈ ys, y ∈ st.sgs) → ∀ y2, ∃ y2', forGo (gV 2) (fun M => isObj M (a + 4) (.dct true (st.sgs.map eKv))) (sIf (tV (eOp pEq (eOp pIx (eFld cs_signals 6 (eV 0)) (eV 2)) (eV 1))) (sRet (eV 2)) sPass) (ys.map fun x => .str x.1) [some (.ref a), some (edD e), y2] ml =
      (match sgAt ys e with | some s => .rt (.str s) ml | none => .nx [some (.ref a), some (edD e), y2'] ml) := by
    intro ys
    induction ys with
    | nil => intro _ y2; exact ⟨y2, by simp [forGo, isObj_ok l2, sgAt]⟩
    | cons y r ih =>
      intro hm y2
      have g1 : getKv (st.sgs.map eKv) (.inr y.1) = some (edD y.2) := getKv_e nd (hm y (by simp))
      obtain ⟨y3, k⟩ := ih (fun z hz => hm z (by simp [hz])) (some (.str y.1))
      by_cases he : y.2 = e
      · exact ⟨y2, by simp [forGo, isObj_ok l2, gV, l1, l2, g1, eqO_eds, he, sgAt]⟩
      · refine ⟨y3, ?_⟩
        have e1 : sgAt (y :: r) e = sgAt r e := by simp [sgAt, he]
        rw [e1, ← k]
        simp [forGo, isObj_ok l2, gV, l1, l2, g1, eqO_eds, he]
  obtain ⟨y, k⟩ := go st.sgs (fun _ h => h) none
  have ik : iKeys (eFld cs_signals 6 (eV 0)) [some (.ref a), some (edD e), none] ml = .ok (st.sgs.map fun x => .str x.1, fun M => isObj M (a + 4) (.dct true (st.sgs.map eKv))) ml := by
    simp [l1, l2]; exact keysOf_t
  have fr : sFor (gV 2) (iKeys (eFld cs_signals 6 (eV 0))) (sIf (tV (eOp pEq (eOp pIx (eFld cs_signals 6 (eV 0)) (eV 2)) (eV 1))) (sRet (eV 2)) sPass) [some (.ref a), some (edD e), none] ml = (match sgAt st.sgs e with | some s => .rt (.str s) ml | none => .nx [some (.ref a), some (edD e), y] ml) := by
    rw [sFor_eq, ik, fo1_ok]; exact k
  have back : ml.set (a + 4) (.dct lk (st.sgs.map eKv)) = m := by rw [hml, set_set, set_same h.hg]
  have e0 : (eFld cs_signals 6 (eV 0)) [some (.ref a), some (edD e), none] m = .ok (.ref (a + 4)) m := by simp [h.hL]
  subst hml
  cases es : sgAt st.sgs e with
  | none =>
    rw [es] at fr
    have := slock_nx e0 h.hg fr l2
    rw [back] at this
    simp [m_Layout_signal_at, m_Layout_signal_at_body, this, oT]
  | some s =>
    rw [es] at fr
    have := slock_rt e0 h.hg fr l2
    rw [back] at this
    simp [m_Layout_signal_at, m_Layout_signal_at_body, this, oT]
theorem links_ok {e : Ed} (h : LyAt m a lk xs st) (hl : xs.length ≤ 1000) : m_Layout_links_at [.ref a, edD e] m = .ok (.ref m.length) (m ++ [.lst ((xs.filter fun x => shares e x.1).map fun x => .ref x.2.1)]) := by
  have p1 := lc_pure (i := 2) (ρ := [some (.ref a), some (edD e), none]) (it := iList (eFld cs_links 5 (eV 0))) (chk := fun M => isObj M (a + 3) (.lst (xs.map fun x => .ref x.2.1)))
    (t := tV (eOp pIn (eV 1) (eTup (aCons (eFld cs_one 0 (eV 2)) (aCons (eFld cs_other 1 (eV 2)) aNil))))) (e := eV 2) (m0 := m) (m := m)
    (fun x => .ref x.2.1) (fun x => shares e x.1) (fun x => .ref x.2.1) xs (by simp [h.hL, h.hl]) (isObj_ok h.hl) hl
    (by intro x hx; simp [(h.hk x hx).2.1, inO_e2, shares]) (by intro x _ _; simp)
  simp [m_Layout_links_at, m_Layout_links_at_body, p1]
def far (k : Lk) (e : Ed) : Ed := if e = k.one then k.other else k.one
theorem far_ok {e : Ed} {k : Lk} {q : Nat} {d : D} (h : m[q]? = some (.ins 0 [(0, edD k.one), (1, edD k.other), (2, d)])) : m_Link_far [.ref q, edD e] m = .ok (edD (far k e)) m := by
  by_cases he : e = k.one <;> simp [m_Link_far, m_Link_far_body, h, eqO_eds, he, far]
def agrees (ns ws : List (Tx × Tx)) : Bool := ws.all fun w => decide ((lookT ns w.1).getD w.2 = w.2)
theorem tKv_inj {a b : List (Tx × Tx)} (h : a.map tKv = b.map tKv) : a = b := by
  refine List.map_inj_right (fun x y e => ?_) |>.mp h
  obtain ⟨x1, x2⟩ := x
  obtain ⟨y1, y2⟩ := y
  simp [tKv] at e
  simp [e]
theorem agree_ok {q n : Nat} {l1 l2 : Bool} {ns ws : List (Tx × Tx)} (h1 : m[q]? = some (.dct l1 (ns.map tKv))) (h2 : m[n]? = some (.dct l2 (ws.map tKv))) (nd : (ws.map (·.1)).Nodup) :
    m_agree [.ref q, .ref n] m = .ok (.bl (agrees ns ws)) m := by
  obtain ⟨ml, hml⟩ : ∃ ml, ml = m.set n (.dct true (ws.map tKv)) := ⟨_, rfl⟩
  have g2 : ml[n]? = some (.dct true (ws.map tKv)) := by rw [hml]; exact get_set_self h2
  have g1 : ∃ l, ml[q]? = some (.dct l (ns.map tKv)) := by
    by_cases e : n = q
    · subst e
      rw [h1] at h2
      have : ns.map tKv = ws.map tKv := by injection h2 with h2; injection h2
      exact ⟨true, by rw [this]; exact g2⟩
    · exact ⟨l1, by rw [hml, get_set_ne e]; exact h1⟩
  obtain ⟨l, g1⟩ := g1
  have go : ∀ (ys : List (Tx × Tx)), (∀ y ∈ ys, y ∈ ws) → ∀ y2, ∃ y2', forGo (gV 2) (fun M => isObj M n (.dct true (ws.map tKv))) (sIf (tV (eOp pNe (eGet2 (eV 0) (eV 2) (eOp pIx (eV 1) (eV 2))) (eOp pIx (eV 1) (eV 2)))) (sRet (eC (.bl false))) sPass) (ys.map fun x => .str x.1) [some (.ref q), some (.ref n), y2] ml =
      (if agrees ns ys = true then .nx [some (.ref q), some (.ref n), y2'] ml else .rt (.bl false) ml) := by
    intro ys
    induction ys with
    | nil => intro _ y2; exact ⟨y2, by simp [forGo, isObj_ok g2, agrees]⟩
    | cons y r ih =>
      intro hm y2
      have k1 : getKv (ws.map tKv) (.inr y.1) = some (.str y.2) := getKv_t nd (hm y (by simp))
      obtain ⟨y3, k⟩ := ih (fun z hz => hm z (by simp [hz])) (some (.str y.1))
      by_cases he : (lookT ns y.1).getD y.2 = y.2
      · refine ⟨y3, ?_⟩
        have e1 : agrees ns (y :: r) = agrees ns r := by simp [agrees, he]
        rw [e1, ← k]
        simp [forGo, isObj_ok g2, gV, g1, g2, k1, getKv_look, look_getD, he]
      · have e1 : agrees ns (y :: r) = false := by simp [agrees, he]
        exact ⟨y2, by simp [forGo, isObj_ok g2, gV, g1, g2, k1, getKv_look, look_getD, he, e1]⟩
  obtain ⟨y, k⟩ := go ws (fun _ h => h) none
  have ik : iKeys (eV 1) [some (.ref q), some (.ref n), none] ml = .ok (ws.map fun x => .str x.1, fun M => isObj M n (.dct true (ws.map tKv))) ml := by
    simp [g2]; exact keysOf_t
  have fr : sFor (gV 2) (iKeys (eV 1)) (sIf (tV (eOp pNe (eGet2 (eV 0) (eV 2) (eOp pIx (eV 1) (eV 2))) (eOp pIx (eV 1) (eV 2)))) (sRet (eC (.bl false))) sPass) [some (.ref q), some (.ref n), none] ml = (if agrees ns ws = true then .nx [some (.ref q), some (.ref n), y] ml else .rt (.bl false) ml) := by
    rw [sFor_eq, ik, fo1_ok]; exact k
  have back : ml.set n (.dct l2 (ws.map tKv)) = m := by rw [hml, set_set, set_same h2]
  have e0 : (eV 1) [some (.ref q), some (.ref n), none] m = .ok (.ref n) m := by simp
  subst hml
  cases es : agrees ns ws with
  | true =>
    rw [es, if_pos rfl] at fr
    have := slock_nx e0 h2 fr g2
    rw [back] at this
    simp [m_agree, m_agree_body, this]
  | false =>
    rw [es, if_neg (by decide)] at fr
    have := slock_rt e0 h2 fr g2
    rw [back] at this
    simp [m_agree, m_agree_body, this]
end
end Mn
end

section
set_option linter.all false
namespace Mn
/-! ### ways -/
structure Wy where
  tg : Option Tx
  ss : List Tx
  ns : List (Tx × Tx)
def putT (ns : List (Tx × Tx)) (p : Tx × Tx) : List (Tx × Tx) := if (ns.any fun q => decide (q.1 = p.1)) = true then ns.map (fun q => if q.1 = p.1 then (q.1, p.2) else q) else ns ++ [p]
def merge (ns ws : List (Tx × Tx)) : List (Tx × Tx) := ws.foldl putT ns
def wys (lks : List Lk) (sgs : List (Tx × Ed)) (b : Tx) : Nat → Ed → List Tx → List (Tx × Tx) → List Wy
  | 0, _, _, _ => []
  | n + 1, e, ss, ns => (lks.filter (shares e)).flatMap fun k =>
    if (far k e).1 ≠ b ∧ (far k e).1 ∉ ss ∧ agrees ns k.needs = true then
      if (sgAt sgs ((far k e).1, 1 - (far k e).2)).isSome ∨ lks.filter (shares ((far k e).1, 1 - (far k e).2)) = [] then [⟨sgAt sgs ((far k e).1, 1 - (far k e).2), ss ++ [(far k e).1], merge ns k.needs⟩]
      else wys lks sgs b n ((far k e).1, 1 - (far k e).2) (ss ++ [(far k e).1]) (merge ns k.needs)
    else []
theorem putKv_t {ns : List (Tx × Tx)} {p : Tx × Tx} : putKv (ns.map tKv) (.inr p.1) (.str p.2) = (putT ns p).map tKv := by
  unfold putKv putT
  have e : ((ns.map tKv).any fun kv => decide (kv.1 = Sum.inr p.1)) = (ns.any fun q => decide (q.1 = p.1)) := by
    rw [List.any_map]; congr 1; funext x; simp [tKv]
  rw [e]
  split
  · simp only [List.map_map]
    refine List.map_congr_left fun x _ => ?_
    by_cases h : x.1 = p.1 <;> simp [tKv, h]
  · simp [tKv]
theorem merge_kv : ∀ {ws ns : List (Tx × Tx)}, (ws.map tKv).foldl (fun acc kv => putKv acc kv.1 kv.2) (ns.map tKv) = (merge ns ws).map tKv
  | [], ns => rfl
  | w :: ws, ns => by
    simp only [List.map_cons, List.foldl_cons, merge]
    rw [show putKv (ns.map tKv) (tKv w).1 (tKv w).2 = (putT ns w).map tKv from putKv_t]
    exact merge_kv
theorem putT_keys {ns : List (Tx × Tx)} {p : Tx × Tx} : (putT ns p).map (·.1) = if p.1 ∈ ns.map (·.1) then ns.map (·.1) else ns.map (·.1) ++ [p.1] := by
  unfold putT
  have e : (ns.any fun q => decide (q.1 = p.1)) = decide (p.1 ∈ ns.map (·.1)) := by
    rw [Bool.eq_iff_iff]; simp
  rw [e]
  by_cases h : p.1 ∈ ns.map (·.1)
  · rw [if_pos (decide_eq_true h), if_pos h, List.map_map]
    refine List.map_congr_left fun x _ => ?_
    by_cases h : x.1 = p.1 <;> simp [h]
  · rw [if_neg (by simpa using h), if_neg h]; simp
theorem putT_nd {ns : List (Tx × Tx)} {p : Tx × Tx} (h : (ns.map (·.1)).Nodup) : ((putT ns p).map (·.1)).Nodup := by
  rw [putT_keys]
  split
  · exact h
  · rename_i hn
    exact List.nodup_append.mpr ⟨h, by simp, by simpa using fun a b hab e => hn (by rw [← e]; exact List.mem_map.mpr ⟨_, hab, rfl⟩)⟩
theorem merge_nd : ∀ {ws ns : List (Tx × Tx)}, (ns.map (·.1)).Nodup → ((merge ns ws).map (·.1)).Nodup
  | [], ns, h => h
  | w :: ws, ns, h => merge_nd (ws := ws) (putT_nd h)
theorem putT_len {ns : List (Tx × Tx)} {p : Tx × Tx} : (putT ns p).length ≤ ns.length + 1 := by unfold putT; split <;> simp
theorem merge_len : ∀ {ws ns : List (Tx × Tx)}, (merge ns ws).length ≤ ns.length + ws.length
  | [], ns => by simp [merge]
  | w :: ws, ns => by
    have := merge_len (ws := ws) (ns := putT ns w)
    have := putT_len (ns := ns) (p := w)
    simp only [merge, List.foldl_cons, List.length_cons] at *; omega
/-! dict.update, a list that is told to be empty -/
def upOb (o o' : Option O) (a b : Nat) (m : M) : R D := match o, o' with
  | some (.dct false ks), some (.dct _ ls) => if a ≠ b ∧ ks.length + ls.length ≤ LIM then .ok .non (m.set a (.dct false (ls.foldl (fun acc kv => putKv acc kv.1 kv.2) ks))) else .bad
  | _, _ => .bad
@[simp] theorem pUpdate_ref {a b m} : pUpdate (.ref a) (.ref b) m = upOb m[a]? m[b]? a b m := nr rfl
theorem upOb_ok {a b : Nat} {lk : Bool} {ns ws : List (Tx × Tx)} {m : M} (h : a ≠ b) (hl : ns.length + ws.length ≤ 1000) : upOb (some (.dct false (ns.map tKv))) (some (.dct lk (ws.map tKv))) a b m = .ok .non (m.set a (.dct false ((merge ns ws).map tKv))) := by
  show (if _ then _ else _) = _
  rw [if_pos ⟨h, by simp only [List.length_map, LIM]; omega⟩, merge_kv]
theorem eqO_lens {m : M} {a b : Nat} {xs : List D} (ha : m[a]? = some (.lst xs)) (hb : m[b]? = some (.lst [])) (h : xs = [] ∨ tree DEP m (.ref a) = none) : eqO m (.ref a) (.ref b) = some (decide (xs = [])) := by
  rcases h with rfl | h
  · have := eqO_nil_s (xs := []) (m := m) ha hb
    simpa using this
  · simp only [eqO, h, ha, hb]
    cases xs with
    | nil => rfl
    | cons x r => simp
theorem tree_ins {m : M} {n a : Nat} {C : Nat} {fs : List (Nat × D)} (h : m[a]? = some (.ins C fs)) : tree n m (.ref a) = none := by
  cases n with
  | zero => rfl
  | succ n => simp [tree, h]
theorem eqO_refs {α : Type} {m : M} {a b : Nat} {xs : List α} {f : α → Nat} (ha : m[a]? = some (.lst (xs.map fun x => .ref (f x)))) (hb : m[b]? = some (.lst [])) (hx : ∀ x ∈ xs, ∃ C fs, m[f x]? = some (.ins C fs)) :
    eqO m (.ref a) (.ref b) = some (decide (xs = [])) := by
  have : eqO m (.ref a) (.ref b) = some (decide (xs.map (fun x => D.ref (f x)) = [])) := by
    refine eqO_lens ha hb ?_
    cases xs with
    | nil => exact .inl rfl
    | cons x r =>
      obtain ⟨C, fs, q⟩ := hx x (by simp)
      exact .inr (by simp [tree, DEP, ha, treesW, q])
  rw [this]; simp
/-! ### a finder -/
abbrev RtP := Wy × Nat × Nat × Nat
def RtAt (m : M) (sg : Tx) (x : RtP) : Prop := m[x.2.1]? = some (.ins 3 [(10, .str sg), (11, oT x.1.tg), (3, .ref x.2.2.1), (2, .ref x.2.2.2)]) ∧ m[x.2.2.1]? = some (.lst (x.1.ss.map .str)) ∧ m[x.2.2.2]? = some (.dct false (x.1.ns.map tKv))
theorem RtAt.up {m m' : M} {sg : Tx} {x : RtP} {S : List Nat} (h : RtAt m sg x) (u : Up S m m') (hS : ∀ i ∈ S, i ≠ x.2.1 ∧ i ≠ x.2.2.1 ∧ i ≠ x.2.2.2) : RtAt m' sg x :=
  ⟨u.get _ _ h.1 fun z => (hS _ z).1 rfl, u.get _ _ h.2.1 fun z => (hS _ z).2.1 rfl, u.get _ _ h.2.2 fun z => (hS _ z).2.2 rfl⟩
structure FdAt (m : M) (f a fl : Nat) (sg : Tx) (bg : Ed) (lk : Bool) (xs : List (Lk × Nat × Nat)) (st : St) (old : List D) : Prop where
  ly : LyAt m a lk xs st
  fd : m[f]? = some (.ins 4 [(7, .ref a), (10, .str sg), (12, edD bg), (13, .ref fl)])
  fo : m[fl]? = some (.lst old)
  o1 : fl ≠ a + 1 ∧ fl ≠ a + 3
section
variable {m m' : M} {f a fl : Nat} {sg : Tx} {bg : Ed} {lk : Bool} {xs : List (Lk × Nat × Nat)} {st : St} {old : List D}
theorem FdAt.upS (h : FdAt m f a fl sg bg lk xs st old) {S : List Nat} (u : Up S m m') (hS : ∀ i ∈ S, m.length ≤ i) : FdAt m' f a fl sg bg lk xs st old := by
  have u0 : Up [] m m' := u.mono fun i hi => .inr (hS i hi)
  exact ⟨h.ly.up u0, u0.get _ _ h.fd nofun, u0.get _ _ h.fo nofun, h.o1⟩
theorem FdAt.up (h : FdAt m f a fl sg bg lk xs st old) (u : Up [] m m') : FdAt m' f a fl sg bg lk xs st old := h.upS u nofun
theorem FdAt.offl (h : FdAt m f a fl sg bg lk xs st old) : (fl < a ∨ a + 5 ≤ fl) ∧ ∀ x ∈ xs, fl ≠ x.2.1 ∧ fl ≠ x.2.2 := h.ly.off h.fo (fun _ _ => nofun) (fun _ _ => nofun) h.o1.1 h.o1.2
/-- the list grows -/
theorem FdAt.grow (h : FdAt m f a fl sg bg lk xs st old) (u : Up [fl] m m') {new : List D} (hn : m'[fl]? = some (.lst new)) : FdAt m' f a fl sg bg lk xs st new := by
  have nf : f ≠ fl := ne_of_get h.fd h.fo nofun
  exact ⟨h.ly.upS u (by simpa using h.offl), u.get _ _ h.fd (by simpa using nf), hn, h.o1⟩
theorem route_init {q : Nat} {sg : Tx} {d1 d2 d3 : D} (h : m[q]? = some (.ins 3 [])) : m_Route_init__ [.ref q, .str sg, d1, d2, d3] m = .ok .non (m.set q (.ins 3 [(10, .str sg), (11, d1), (3, d2), (2, d3)])) := by
  have g0 : ∀ o, (m.set q o)[q]? = some o := fun o => get_set_self h
  simp [m_Route_init__, m_Route_init___body, mkFn_eq, h, g0]
theorem come_deep {r : MF} {e : Ed} {qs qn : Nat} (h : FdAt m f a fl sg bg lk xs st old) (nd : (st.sgs.map (·.1)).Nodup) (hl : xs.length ≤ 1000) (h1 : sgAt st.sgs e = none) (h2 : st.lks.filter (shares e) ≠ []) :
    ∃ m1, Up [] m m1 ∧ m_Finder_come_to r [.ref f, edD e, .ref qs, .ref qn] m = (r [.ref f, edD e, .ref qs, .ref qn] m1).bind fun _ m2 => .ok .non m2 := by
  have sa := signal_at_ok (e := e) h.ly nd
  rw [h1] at sa
  have la := links_ok (e := e) h.ly hl
  obtain ⟨m0, hm0⟩ : ∃ m0, m0 = m ++ [O.lst ((xs.filter fun x => shares e x.1).map fun x => .ref x.2.1), .lst []] := ⟨_, rfl⟩
  have u0 : Up [] m m0 := by rw [hm0]; exact Up.app
  have ne : xs.filter (fun x => shares e x.1) ≠ [] := by
    intro z; apply h2; rw [h.ly.hx, List.filter_map, show (shares e ∘ fun x : Lk × Nat × Nat => x.1) = fun x => shares e x.1 from rfl, z]; rfl
  have e1 : eqO m0 (.ref m.length) (.ref (m.length + 1)) = some false := by
    rw [eqO_refs (xs := xs.filter fun x => shares e x.1) (f := fun x => x.2.1) (by rw [hm0]; simp) (by rw [hm0]; simp) (fun x hx => ⟨0, _, u0.get _ _ (h.ly.hk x (List.mem_filter.mp hx).1).2.1 nofun⟩)]
    simp [ne]
  have fd := h.fd
  have fd0 := (h.up u0).fd
  have hL := h.ly.hL
  refine ⟨m0, u0, ?_⟩
  rw [hm0] at e1 fd0 ⊢
  simp [m_Finder_come_to, m_Finder_come_to_body, mkFn_eq, fd, hL, sa, oT, la, e1, fd0]
  cases r [.ref f, edD e, .ref qs, .ref qn] (m ++ [O.lst ((xs.filter fun x => shares e x.1).map fun x => .ref x.2.1), .lst []]) <;> rfl
def rtO (sg : Tx) (e : Option Tx) (qs qn : Nat) : O := .ins 3 [(10, .str sg), (11, oT e), (3, .ref qs), (2, .ref qn)]
theorem found_add {qs qn : Nat} {t : Option Tx} (h : FdAt m f a fl sg bg lk xs st old) (ho : old.length ≤ 100) :
    ∃ mB mD, m_Route_init__ [.ref m.length, .str sg, oT t, .ref qs, .ref qn] (m ++ [.ins 3 []]) = .ok .non mB ∧ mB[fl]? = some (.lst old) ∧ appOb (some (.lst old)) fl (.ref m.length) mB = .ok .non mD ∧
      Up [fl] m mD ∧ mD[fl]? = some (.lst (old ++ [.ref m.length])) ∧ mD[m.length]? = some (rtO sg t qs qn) ∧ mD[f]? = some (.ins 4 [(7, .ref a), (10, .str sg), (12, edD bg), (13, .ref fl)]) := by
  have lf := get_lt h.fo
  have nf : f ≠ fl := ne_of_get h.fd h.fo nofun
  refine ⟨_, _, route_init (by simp), ?_, appOb_ok (by simp [LIM]; omega), ?_, ?_, ?_, ?_⟩
  · rw [get_set_ne (by omega)]; exact get_push h.fo
  · refine ⟨by simp, fun i o hi hn => ?_⟩
    have li := get_lt hi
    simp only [List.mem_singleton] at hn
    rw [get_set_ne (fun z => hn z.symm), get_set_ne (by omega)]; exact get_push hi
  · exact get_set_self (by rw [get_set_ne (by omega)]; exact get_push h.fo)
  · rw [get_set_ne (by omega)]; exact get_set_self get_new
  · have := get_lt h.fd
    rw [get_set_ne (fun z => nf z.symm), get_set_ne (by omega)]; exact get_push h.fd
theorem come_leaf {r : MF} {e : Ed} {qs qn : Nat} (h : FdAt m f a fl sg bg lk xs st old) (nd : (st.sgs.map (·.1)).Nodup) (hl : xs.length ≤ 1000) (ho : old.length ≤ 100) (hx : (sgAt st.sgs e).isSome = true ∨ st.lks.filter (shares e) = []) :
    ∃ m1 q, Up [fl] m m1 ∧ m.length ≤ q ∧ m1[fl]? = some (.lst (old ++ [.ref q])) ∧ m1[q]? = some (rtO sg (sgAt st.sgs e) qs qn) ∧
      m_Finder_come_to r [.ref f, edD e, .ref qs, .ref qn] m = if old.length + 1 ≤ 60 then .ok .non m1 else .exc ⟨14, none⟩ m1 := by
  have sa := signal_at_ok (e := e) h.ly nd
  have fd := h.fd
  have fo := h.fo
  have hL := h.ly.hL
  cases es : sgAt st.sgs e with
  | some s =>
    rw [es] at sa
    obtain ⟨mB, mD, b1, b2, b3, b4, b5, b6, b7⟩ := found_add (qs := qs) (qn := qn) (t := some s) h ho
    refine ⟨mD, m.length, b4, Nat.le_refl _, b5, b6, ?_⟩
    simp only [oT] at sa b1
    by_cases h60 : old.length + 1 ≤ 60
    · have h61 : ¬ (60 < (old.length : Int) + 1) := by omega
      simp [m_Finder_come_to, m_Finder_come_to_body, mkFn_eq, fd, hL, sa, fo, b1, b2, b3, b5, b7, h60, h61]
    · have h61 : (60 < (old.length : Int) + 1) := by omega
      simp [m_Finder_come_to, m_Finder_come_to_body, mkFn_eq, fd, hL, sa, fo, b1, b2, b3, b5, b7, h60, h61, sRaise, fnK]
  | none =>
    rw [es] at sa hx
    have h2 : st.lks.filter (shares e) = [] := by simpa using hx
    have la := links_ok (e := e) h.ly hl
    have em : xs.filter (fun x => shares e x.1) = [] := by
      rw [h.ly.hx, List.filter_map, List.map_eq_nil_iff] at h2; exact h2
    rw [em] at la
    obtain ⟨m0, hm0⟩ : ∃ m0, m0 = m ++ [O.lst [], .lst []] := ⟨_, rfl⟩
    have u0 : Up [] m m0 := by rw [hm0]; exact Up.app
    have e1 : eqO m0 (.ref m.length) (.ref (m.length + 1)) = some true := by
      rw [eqO_nil_s (xs := []) (by rw [hm0]; simp) (by rw [hm0]; simp)]; rfl
    have H0 := h.up u0
    have fd0 := H0.fd
    have fo0 := H0.fo
    obtain ⟨mB, mD, b1, b2, b3, b4, b5, b6, b7⟩ := found_add (qs := qs) (qn := qn) (t := none) H0 ho
    refine ⟨mD, m0.length, (u0.mono (by simp)).same b4, u0.le, b5, b6, ?_⟩
    have ml : m0.length = m.length + 2 := by rw [hm0]; simp
    rw [ml] at b1 b3 b5
    rw [hm0] at e1 fd0 fo0 b1
    simp only [List.append_assoc, List.cons_append, List.nil_append, oT] at b1 sa la
    simp at la
    by_cases h60 : old.length + 1 ≤ 60
    · have h61 : ¬ (60 < (old.length : Int) + 1) := by omega
      simp [m_Finder_come_to, m_Finder_come_to_body, mkFn_eq, fd, hL, sa, oT, la, e1, fd0, fo0, b1, b2, b3, b5, b7, h60, h61]
    · have h61 : (60 < (old.length : Int) + 1) := by omega
      simp [m_Finder_come_to, m_Finder_come_to_body, mkFn_eq, fd, hL, sa, oT, la, e1, fd0, fo0, b1, b2, b3, b5, b7, h60, h61, sRaise, fnK]
end
end Mn
end

section
set_option linter.all false
namespace Mn
theorem nodup_le {α : Type} [DecidableEq α] : ∀ {a b : List α}, a.Nodup → (∀ x ∈ a, x ∈ b) → a.length ≤ b.length
  | [], b, _, _ => by simp
  | x :: r, b, h, hs => by
    have hx := hs x (by simp)
    have h1 : x ∉ r := (List.nodup_cons.mp h).1
    have := nodup_le (a := r) (b := b.erase x) (List.nodup_cons.mp h).2 fun y hy => (List.mem_erase_of_ne (fun e => h1 (by rw [← e]; exact hy))).mpr (hs y (by simp [hy]))
    have := List.length_erase_of_mem hx
    have := List.length_pos_of_mem hx
    simp only [List.length_cons]; omega
/-- what a search wants of a station -/
structure GoOk (st : St) : Prop where
  nd : (st.sgs.map (·.1)).Nodup
  ll : st.lks.length ≤ 1000
  lk : ∀ k ∈ st.lks, (k.one.1 ∈ st.secs ∧ k.one.2 < 2) ∧ (k.other.1 ∈ st.secs ∧ k.other.2 < 2) ∧ (k.needs.map (·.1)).Nodup ∧ k.needs.length ≤ 12
  sl : st.secs.length ≤ 31
def wyS (lks : List Lk) (sgs : List (Tx × Ed)) (b : Tx) (w : Ed → List Tx → List (Tx × Tx) → List Wy) (e : Ed) (ss : List Tx) (ns : List (Tx × Tx)) (k : Lk) : List Wy :=
  if (far k e).1 ≠ b ∧ (far k e).1 ∉ ss ∧ agrees ns k.needs = true then
    if (sgAt sgs ((far k e).1, 1 - (far k e).2)).isSome ∨ lks.filter (shares ((far k e).1, 1 - (far k e).2)) = [] then [⟨sgAt sgs ((far k e).1, 1 - (far k e).2), ss ++ [(far k e).1], merge ns k.needs⟩]
    else w ((far k e).1, 1 - (far k e).2) (ss ++ [(far k e).1]) (merge ns k.needs)
  else []
theorem wys_succ {lks sgs b n e ss ns} : wys lks sgs b (n + 1) e ss ns = (lks.filter (shares e)).flatMap (wyS lks sgs b (wys lks sgs b n) e ss ns) := rfl
section
variable {m m' : M} {f a fl : Nat} {sg : Tx} {bg : Ed} {lk : Bool} {xs : List (Lk × Nat × Nat)} {st : St} {old : List D}
def goBody (r : MF) : MS := (sSeq (sAsg (gTup [(gV 5), (gV 6)]) (eMeth 0 m_Link_far (eV 4) (aCons (eV 1) aNil)))
    (sIf (tAnd (tV (eOp pNe (eV 5) (eOp pIx (eFld cs_begin 12 (eV 0)) (eC (.int 0))))) (tAnd (tV (eOp pNotIn (eV 5) (eV 2))) (tV (eFn m_agree (aCons (eV 3) (aCons (eFld cs_needs 2 (eV 4)) aNil)))))) (sSeq (sAsg (gV 7) (eUn pDict (eV 3)))
    (sSeq (sExp (eM1 1 pUpdate (eV 7) (eFld cs_needs 2 (eV 4))))
    (sExp (eMeth 4 (m_Finder_come_to r) (eV 0) (aCons (eTup (aCons (eV 5) (aCons (eOp pSub (eC (.int 1)) (eV 6)) aNil))) (aCons (eOp pAdd (eV 2) (eLst (aCons (eV 5) aNil))) (aCons (eV 7) aNil))))))) sPass))
def dcOb (o : Option O) (m : M) : R D := match o with
  | some (.dct _ kvs) => .ok (.ref m.length) (m ++ [.dct false kvs])
  | _ => .bad
@[simp] theorem pDict_ref {a m} : pDict (.ref a) m = dcOb m[a]? m := nr rfl
@[simp] theorem dcOb_ok {lk kvs m} : dcOb (some (.dct lk kvs)) m = .ok (.ref m.length) (m ++ [.dct false kvs]) := nr rfl
@[simp] theorem gDo_ed {i j : Nat} {c : Ed} {ρ : Fr} {m : M} : gDo (gTup [gV i, gV j]) (edD c) ρ m = .nx ((ρ.set i (some (.str c.1))).set j (some (.int (c.2 : Int)))) m := nr rfl
theorem ed_mk {a : Tx} {b : Nat} : D.tup [.str a, .int (b : Int)] = edD (a, b) := rfl
theorem far_in (g : GoOk st) {k : Lk} (hk : k ∈ st.lks) (e : Ed) : (far k e).1 ∈ st.secs ∧ (far k e).2 < 2 := by
  obtain ⟨h1, h2, _⟩ := g.lk k hk
  unfold far; split
  · exact h2
  · exact h1
/-- a link that does not go -/
theorem step_no {r : MF} {x : Lk × Nat × Nat} {e : Ed} {ss : List Tx} {ns : List (Tx × Tx)} {qs qn : Nat} {y4 y5 y6 y7 : Option D} (g : GoOk st) (h : FdAt m f a fl sg bg lk xs st old) (hx : x ∈ xs) (hs : m[qs]? = some (.lst (ss.map .str))) (hn : m[qn]? = some (.dct false (ns.map tKv)))
    (hc : ¬ ((far x.1 e).1 ≠ bg.1 ∧ (far x.1 e).1 ∉ ss ∧ agrees ns x.1.needs = true)) :
    ∃ z5 z6, goBody r [some (.ref f), some (edD e), some (.ref qs), some (.ref qn), some (.ref x.2.1), y5, y6, y7] m = .nx [some (.ref f), some (edD e), some (.ref qs), some (.ref qn), some (.ref x.2.1), z5, z6, y7] m := by
  obtain ⟨_, k1, k2⟩ := h.ly.hk x hx
  have hm : x.1 ∈ st.lks := by rw [h.ly.hx]; exact List.mem_map.mpr ⟨x, hx, rfl⟩
  have fo := far_ok (e := e) (k := x.1) (m := m) (q := x.2.1) k1
  obtain ⟨c, hcd⟩ : ∃ c, c = far x.1 e := ⟨_, rfl⟩
  rw [← hcd] at fo hc
  have fd := h.fd
  have i1 := inO_strs (s := c.1) hs
  have ag := agree_ok hn k2 (g.lk _ hm).2.2.1
  refine ⟨some (.str c.1), some (.int c.2), ?_⟩
  by_cases h1 : c.1 = bg.1
  · simp [goBody, k1, fo, fd, h1]
  · by_cases h2 : c.1 ∈ ss
    · simp only [h2, decide_true] at i1
      simp [goBody, k1, fo, fd, h1, i1]
    · have h3 : agrees ns x.1.needs = false := by simpa [h1, h2] using hc
      simp only [h2, decide_false] at i1
      rw [h3] at ag
      simp [goBody, k1, fo, fd, h1, i1, ag]
/-- a link that goes -/
theorem step_go {r : MF} {x : Lk × Nat × Nat} {e : Ed} {ss : List Tx} {ns : List (Tx × Tx)} {qs qn : Nat} {y5 y6 y7 : Option D} (g : GoOk st) (h : FdAt m f a fl sg bg lk xs st old) (hx : x ∈ xs) (hs : m[qs]? = some (.lst (ss.map .str))) (hn : m[qn]? = some (.dct false (ns.map tKv)))
    (hl : ss.length ≤ 100) (hl2 : ns.length ≤ 900) (hc : (far x.1 e).1 ≠ bg.1 ∧ (far x.1 e).1 ∉ ss ∧ agrees ns x.1.needs = true) :
    ∃ m3, Up [] m m3 ∧ m3[m.length + 2]? = some (.lst ((ss ++ [(far x.1 e).1]).map .str)) ∧ m3[m.length]? = some (.dct false ((merge ns x.1.needs).map tKv)) ∧ ∃ ρ', (∃ z5 z6 z7, ρ' = [some (.ref f), some (edD e), some (.ref qs), some (.ref qn), some (.ref x.2.1), z5, z6, z7]) ∧
      goBody r [some (.ref f), some (edD e), some (.ref qs), some (.ref qn), some (.ref x.2.1), y5, y6, y7] m = ex1 ρ' (m_Finder_come_to r [.ref f, edD ((far x.1 e).1, 1 - (far x.1 e).2), .ref (m.length + 2), .ref m.length] m3) := by
  obtain ⟨_, k1, k2⟩ := h.ly.hk x hx
  have hm : x.1 ∈ st.lks := by rw [h.ly.hx]; exact List.mem_map.mpr ⟨x, hx, rfl⟩
  have fo := far_ok (e := e) (k := x.1) (m := m) (q := x.2.1) k1
  have c2 := (far_in g hm e).2
  obtain ⟨c, hcd⟩ : ∃ c, c = far x.1 e := ⟨_, rfl⟩
  rw [← hcd] at fo hc c2 ⊢
  have fd := h.fd
  have i1 := inO_strs (s := c.1) hs
  have ag := agree_ok hn k2 (g.lk _ hm).2.2.1
  obtain ⟨h1, h2, h3⟩ := hc
  simp only [h2, decide_false] at i1
  rw [h3] at ag
  have wl := (g.lk _ hm).2.2.2
  have l2 := get_lt k2
  -- the copy, grown
  obtain ⟨mA, hA⟩ : ∃ mA, mA = m ++ [O.dct false (ns.map tKv)] := ⟨_, rfl⟩
  have uA : Up [] m mA := by rw [hA]; exact Up.app
  have gA : mA[m.length]? = some (.dct false (ns.map tKv)) := by rw [hA]; exact get_new
  have kA := uA.get _ _ k1 nofun
  have kA2 := uA.get _ _ k2 nofun
  have up := upOb_ok (a := m.length) (b := x.2.2) (lk := false) (ns := ns) (ws := x.1.needs) (m := mA) (by omega) (by omega)
  obtain ⟨mB, hB⟩ : ∃ mB, mB = mA.set m.length (.dct false ((merge ns x.1.needs).map tKv)) := ⟨_, rfl⟩
  rw [← hB] at up
  have uB : Up [] m mB := by rw [hB]; exact (Up.same uA (Up.refl [] mA)).trans Up.set (by simp)
  have gB : mB[m.length]? = some (.dct false ((merge ns x.1.needs).map tKv)) := by rw [hB]; exact get_set_self gA
  have lB : mB.length = m.length + 1 := by rw [hB, hA]; simp
  have fB := uB.get _ _ fd nofun
  have sB := uB.get _ _ hs nofun
  obtain ⟨mC, hC⟩ : ∃ mC, mC = mB ++ [O.lst [.str c.1]] := ⟨_, rfl⟩
  have sC : mC[qs]? = some (.lst (ss.map .str)) := by rw [hC]; exact get_push sB
  have nC : mC[m.length + 1]? = some (.lst [.str c.1]) := by rw [hC, ← lB]; exact get_new
  have lC : mC.length = m.length + 2 := by rw [hC]; simp [lB]
  have cat : catOb (some (.lst (ss.map .str))) (some (.lst [.str c.1])) mC = .ok (.ref (m.length + 2)) (mC ++ [.lst ((ss ++ [c.1]).map .str)]) := by
    rw [catOb_ok (by simp [LIM]; omega), lC]; simp
  refine ⟨mC ++ [.lst ((ss ++ [c.1]).map .str)], ?_, ?_, ?_, [some (.ref f), some (edD e), some (.ref qs), some (.ref qn), some (.ref x.2.1), some (.str c.1), some (.int c.2), some (.ref m.length)], ⟨_, _, _, rfl⟩, ?_⟩
  · exact (uB.then (by rw [hC]; exact Up.app)).then Up.app
  · rw [← lC]; exact get_new
  · rw [hC]; exact get_push (get_push gB)
  · have ie : (1 : Int) - (c.2 : Int) = ((1 - c.2 : Nat) : Int) := by omega
    have eA : dcOb (some (.dct false (ns.map tKv))) m = .ok (.ref m.length) mA := by rw [hA]; rfl
    have eC : ls1 (.ok [.str c.1] mB) = .ok (.ref (m.length + 1)) mC := by rw [ls1_1, lB, hC]
    have k1' : m[x.2.1]? = some (.ins 0 [(0, edD x.1.one), (1, edD x.1.other), (2, .ref x.2.2)]) := k1
    simp [-dcOb_ok, -ls1_1, goBody, k1, fo, ed_mk, fd, h1, i1, ag, hn, eA, gA, kA, kA2, up, fB, sB, eC, sC, nC, cat, ie]
end
end Mn
end

section
set_option linter.all false
namespace Mn
section
variable {m m' : M} {f a fl : Nat} {sg : Tx} {bg : Ed} {lk : Bool} {xs : List (Lk × Nat × Nat)} {st : St} {old : List D}
/-- the routes that were added -/
structure RtsAt (m : M) (sg : Tx) (lo fl : Nat) (W : List Wy) (ps : List RtP) : Prop where
  w : ps.map (·.1) = W
  r : ∀ x ∈ ps, RtAt m sg x
  lo : ∀ x ∈ ps, (lo ≤ x.2.1 ∧ lo ≤ x.2.2.1 ∧ lo ≤ x.2.2.2) ∧ x.2.1 ≠ fl ∧ x.2.2.1 ≠ fl ∧ x.2.2.2 ≠ fl
theorem RtsAt.up {lo : Nat} {W : List Wy} {ps : List RtP} (h : RtsAt m sg lo fl W ps) (u : Up [fl] m m') : RtsAt m' sg lo fl W ps :=
  ⟨h.w, fun x hx => (h.r x hx).up u (by have := (h.lo x hx).2; simp; exact ⟨fun e => this.1 e.symm, fun e => this.2.1 e.symm, fun e => this.2.2 e.symm⟩), h.lo⟩
theorem RtsAt.mono {lo lo' : Nat} {W : List Wy} {ps : List RtP} (h : RtsAt m sg lo fl W ps) (hl : lo' ≤ lo) : RtsAt m sg lo' fl W ps := ⟨h.w, h.r, fun x hx => ⟨by have := (h.lo x hx).1; omega, (h.lo x hx).2⟩⟩
theorem RtsAt.app {lo : Nat} {W V : List Wy} {ps qs : List RtP} (h : RtsAt m sg lo fl W ps) (k : RtsAt m sg lo fl V qs) : RtsAt m sg lo fl (W ++ V) (ps ++ qs) :=
  ⟨by rw [List.map_append, h.w, k.w], fun x hx => (List.mem_append.mp hx).elim (h.r x) (k.r x), fun x hx => (List.mem_append.mp hx).elim (h.lo x) (k.lo x)⟩
theorem RtsAt.nil {lo : Nat} : RtsAt m sg lo fl [] [] := ⟨rfl, by simp, by simp⟩
/-- what is done with W more routes -/
structure Adds (m m1 : M) (sg : Tx) (fl : Nat) (old : List D) (W : List Wy) (ok bad : Prop) : Prop where
  up : Up [fl] m m1
  le : old.length + W.length ≤ 60 → ok ∧ ∃ ps, RtsAt m1 sg m.length fl W ps ∧ m1[fl]? = some (.lst (old ++ ps.map fun x => .ref x.2.1))
  gt : 60 < old.length + W.length → bad
/-- the search, by n links at most -/
def GoesN (n : Nat) : Prop := ∀ (m : M) (f a fl : Nat) (sg : Tx) (bg : Ed) (lk : Bool) (xs : List (Lk × Nat × Nat)) (st : St) (old : List D) (e : Ed) (ss : List Tx) (ns : List (Tx × Tx)) (qs qn : Nat),
  GoOk st → FdAt m f a fl sg bg lk xs st old → m[qs]? = some (.lst (ss.map .str)) → m[qn]? = some (.dct false (ns.map tKv)) → qs ≠ fl → ss.Nodup → (∀ s ∈ ss, s ∈ st.secs) → st.secs.length < n + ss.length → (ns.map (·.1)).Nodup → ns.length ≤ 12 * ss.length → old.length ≤ 60 →
    ∃ m1, Adds m m1 sg fl old (wys st.lks st.sgs bg.1 n e ss ns) (m_Finder_go_on n [.ref f, edD e, .ref qs, .ref qn] m = .ok .non m1) (m_Finder_go_on n [.ref f, edD e, .ref qs, .ref qn] m = .exc ⟨14, none⟩ m1)
theorem goes_zero : GoesN 0 := by
  intro m f a fl sg bg lk xs st old e ss ns qs qn g h hs hn hq nd hsub hf
  have := nodup_le nd hsub
  omega
theorem loop_go {n : Nat} (IH : GoesN n) (g : GoOk st) {e : Ed} {ss : List Tx} {ns : List (Tx × Tx)} {qs qn lq : Nat} {refs : List D} (hqf : qs ≠ fl) (nd : ss.Nodup) (hsub : ∀ s ∈ ss, s ∈ st.secs) (hfu : st.secs.length < n + 1 + ss.length) (hnd : (ns.map (·.1)).Nodup) (hnl : ns.length ≤ 12 * ss.length) (hlq : lq ≠ fl) :
    ∀ (ys : List (Lk × Nat × Nat)), (∀ y ∈ ys, y ∈ xs) → ∀ (m : M) (old : List D) (y4 y5 y6 y7 : Option D), FdAt m f a fl sg bg lk xs st old → m[qs]? = some (.lst (ss.map .str)) → m[qn]? = some (.dct false (ns.map tKv)) → m[lq]? = some (.lst refs) → old.length ≤ 60 →
      ∃ m1, Adds m m1 sg fl old (ys.flatMap fun x => wyS st.lks st.sgs bg.1 (wys st.lks st.sgs bg.1 n) e ss ns x.1)
        (∃ ρ', forGo (gV 4) (fun M => isObj M lq (.lst refs)) (goBody (m_Finder_go_on n)) (ys.map fun x => .ref x.2.1) [some (.ref f), some (edD e), some (.ref qs), some (.ref qn), y4, y5, y6, y7] m = .nx ρ' m1)
        (∃ ρ', forGo (gV 4) (fun M => isObj M lq (.lst refs)) (goBody (m_Finder_go_on n)) (ys.map fun x => .ref x.2.1) [some (.ref f), some (edD e), some (.ref qs), some (.ref qn), y4, y5, y6, y7] m = .exc ⟨14, none⟩ ρ' m1) := by
  have sl : ss.length ≤ 31 := Nat.le_trans (nodup_le nd hsub) g.sl
  intro ys
  induction ys with
  | nil =>
    intro _ m old y4 y5 y6 y7 h hs hn hl ho
    refine ⟨m, Up.refl _ _, fun _ => ⟨⟨[some (.ref f), some (edD e), some (.ref qs), some (.ref qn), y4, y5, y6, y7], by simp [forGo, isObj_ok hl]⟩, [], RtsAt.nil, by simpa using h.fo⟩, fun z => absurd z (by simp; omega)⟩
  | cons x r ih =>
    intro hy m old y4 y5 y6 y7 h hs hn hl ho
    have hx := hy x (by simp)
    have hr := fun y hy' => hy y (List.mem_cons_of_mem _ hy')
    have hm : x.1 ∈ st.lks := by rw [h.ly.hx]; exact List.mem_map.mpr ⟨x, hx, rfl⟩
    have nqn : qn ≠ fl := ne_of_get hn h.fo nofun
    by_cases hc : (far x.1 e).1 ≠ bg.1 ∧ (far x.1 e).1 ∉ ss ∧ agrees ns x.1.needs = true
    · obtain ⟨m3, u3, s3, n3, _, ⟨z5, z6, z7, rfl⟩, b3⟩ := step_go (r := m_Finder_go_on n) (y5 := y5) (y6 := y6) (y7 := y7) g h hx hs hn (by omega) (by omega) hc
      have h3 := h.up u3
      have lt3 := get_lt s3
      obtain ⟨f1, f2⟩ := far_in g hm e
      obtain ⟨c, hcd⟩ : ∃ c, c = far x.1 e := ⟨_, rfl⟩
      rw [← hcd] at hc s3 b3 f1 f2
      have lfl := get_lt h.fo
      have body : ∀ {rr : R D}, m_Finder_come_to (m_Finder_go_on n) [.ref f, edD (c.1, 1 - c.2), .ref (m.length + 2), .ref m.length] m3 = rr →
          goBody (m_Finder_go_on n) [some (.ref f), some (edD e), some (.ref qs), some (.ref qn), some (.ref x.2.1), y5, y6, y7] m = ex1 [some (.ref f), some (edD e), some (.ref qs), some (.ref qn), some (.ref x.2.1), z5, z6, z7] rr := fun q => by rw [b3, q]
      -- what this link brings
      have one : ∃ m1, Adds m m1 sg fl old (wyS st.lks st.sgs bg.1 (wys st.lks st.sgs bg.1 n) e ss ns x.1)
          (m_Finder_come_to (m_Finder_go_on n) [.ref f, edD (c.1, 1 - c.2), .ref (m.length + 2), .ref m.length] m3 = .ok .non m1) (m_Finder_come_to (m_Finder_go_on n) [.ref f, edD (c.1, 1 - c.2), .ref (m.length + 2), .ref m.length] m3 = .exc ⟨14, none⟩ m1) := by
        unfold wyS
        rw [← hcd, if_pos hc]
        by_cases hlf : (sgAt st.sgs (c.1, 1 - c.2)).isSome ∨ st.lks.filter (shares (c.1, 1 - c.2)) = []
        · rw [if_pos hlf]
          obtain ⟨m1, q, k1, k2, k3, k4, k5⟩ := come_leaf (r := m_Finder_go_on n) (e := (c.1, 1 - c.2)) (qs := m.length + 2) (qn := m.length) h3 g.nd (by have := g.ll; rw [h.ly.hx] at this; simpa using this) (by omega) hlf
          refine ⟨m1, (u3.mono (by simp)).same k1, fun hle => ?_, fun hgt => ?_⟩
          · simp only [List.length_cons, List.length_nil] at hle
            rw [if_pos (by omega)] at k5
            refine ⟨k5, [(⟨sgAt st.sgs (c.1, 1 - c.2), ss ++ [c.1], merge ns x.1.needs⟩, q, m.length + 2, m.length)], ⟨rfl, ?_, ?_⟩, by simpa using k3⟩
            · simp only [List.mem_singleton]; rintro y rfl
              exact ⟨k4, k1.get _ _ s3 (by simp; omega), k1.get _ _ n3 (by simp; omega)⟩
            · simp only [List.mem_singleton]; rintro y rfl
              have := u3.le
              exact ⟨⟨by simp; omega, by simp, by simp⟩, by simp; omega, by simp; omega, by simp; omega⟩
          · simp only [List.length_cons, List.length_nil] at hgt
            rw [if_neg (by omega)] at k5
            exact k5
        · rw [if_neg hlf]
          simp only [not_or, Bool.not_eq_true, Option.isSome_eq_false_iff, Option.isNone_iff_eq_none] at hlf
          obtain ⟨m4, u4, k4⟩ := come_deep (r := m_Finder_go_on n) (e := (c.1, 1 - c.2)) (qs := m.length + 2) (qn := m.length) h3 g.nd (by have := g.ll; rw [h.ly.hx] at this; simpa using this) hlf.1 hlf.2
          have u04 := u3.then u4
          obtain ⟨m1, A⟩ := IH m4 f a fl sg bg lk xs st old (c.1, 1 - c.2) (ss ++ [c.1]) (merge ns x.1.needs) (m.length + 2) m.length g (h.up u04) (u4.get _ _ s3 nofun) (u4.get _ _ n3 nofun) (by omega)
            (List.nodup_append.mpr ⟨nd, by simp, by simpa using fun a ha e => hc.2.1 (by rw [← e]; exact ha)⟩) (fun s hs' => by
              rcases List.mem_append.mp hs' with q | q
              · exact hsub s q
              · obtain rfl := List.mem_singleton.mp q; exact f1) (by simp; omega) (merge_nd hnd) (by
              have := merge_len (ws := x.1.needs) (ns := ns)
              have := (g.lk _ hm).2.2.2
              simp; omega) ho
          refine ⟨m1, (u04.mono (by simp)).same A.up, fun hle => ?_, fun hgt => ?_⟩
          · obtain ⟨q, ps, q1, q2⟩ := A.le hle
            exact ⟨by rw [k4, q]; rfl, ps, q1.mono u04.le, q2⟩
          · rw [k4, A.gt hgt]; rfl
      obtain ⟨m1, A⟩ := one
      rw [List.flatMap_cons]
      by_cases h60 : old.length + (wyS st.lks st.sgs bg.1 (wys st.lks st.sgs bg.1 n) e ss ns x.1).length ≤ 60
      · obtain ⟨q, ps, q1, q2⟩ := A.le h60
        have pl : ps.length = (wyS st.lks st.sgs bg.1 (wys st.lks st.sgs bg.1 n) e ss ns x.1).length := by rw [← q1.w]; simp
        have u1 := A.up
        obtain ⟨m2, B⟩ := ih hr m1 (old ++ ps.map fun x => .ref x.2.1) (some (.ref x.2.1)) z5 z6 z7 (h.grow u1 q2) (u1.get _ _ hs (by simpa using hqf)) (u1.get _ _ hn (by simpa using nqn)) (u1.get _ _ hl (by simpa using hlq)) (by simp; omega)
        have eb := body q
        refine ⟨m2, u1.same B.up, fun hle => ?_, fun hgt => ?_⟩
        · simp only [List.length_append] at hle
          obtain ⟨⟨ρ', k⟩, ps', p1, p2⟩ := B.le (by rw [List.length_append, List.length_map]; omega)
          refine ⟨⟨ρ', ?_⟩, ps ++ ps', (q1.up B.up).app (p1.mono u1.le), by rw [p2]; simp⟩
          simp [forGo, isObj_ok hl, gV, eb, k]
        · simp only [List.length_append] at hgt
          obtain ⟨ρ', k⟩ := B.gt (by rw [List.length_append, List.length_map]; omega)
          exact ⟨ρ', by simp [forGo, isObj_ok hl, gV, eb, k]⟩
      · have eb := body (A.gt (by omega))
        refine ⟨m1, A.up, fun hle => absurd hle (by simp only [List.length_append]; omega), fun hgt => ⟨[some (.ref f), some (edD e), some (.ref qs), some (.ref qn), some (.ref x.2.1), z5, z6, z7], ?_⟩⟩
        simp [forGo, isObj_ok hl, gV, eb, ex1]
    · obtain ⟨z5, z6, b⟩ := step_no (r := m_Finder_go_on n) (y4 := y4) (y5 := y5) (y6 := y6) (y7 := y7) g h hx hs hn hc
      obtain ⟨m1, A⟩ := ih hr m old (some (.ref x.2.1)) z5 z6 y7 h hs hn hl ho
      have w0 : wyS st.lks st.sgs bg.1 (wys st.lks st.sgs bg.1 n) e ss ns x.1 = [] := by unfold wyS; rw [if_neg hc]
      rw [List.flatMap_cons, w0, List.nil_append]
      refine ⟨m1, A.up, fun hle => ?_, fun hgt => ?_⟩
      · obtain ⟨⟨ρ', k⟩, p⟩ := A.le hle
        exact ⟨⟨ρ', by simp [forGo, isObj_ok hl, gV, b, k]⟩, p⟩
      · obtain ⟨ρ', k⟩ := A.gt hgt
        exact ⟨ρ', by simp [forGo, isObj_ok hl, gV, b, k]⟩
theorem goes : ∀ n, GoesN n
  | 0 => goes_zero
  | n + 1 => by
    intro m f a fl sg bg lk xs st old e ss ns qs qn g h hs hn hq nd hsub hfu hnd hnl ho
    have la := links_ok (e := e) h.ly (by have := g.ll; rw [h.ly.hx] at this; simpa using this)
    obtain ⟨m0, hm0⟩ : ∃ m0, m0 = m ++ [O.lst ((xs.filter fun x => shares e x.1).map fun x => .ref x.2.1)] := ⟨_, rfl⟩
    rw [← hm0] at la
    have u0 : Up [] m m0 := by rw [hm0]; exact Up.app
    have lf := get_lt h.fo
    have gl : m0[m.length]? = some (.lst ((xs.filter fun x => shares e x.1).map fun x => .ref x.2.1)) := by rw [hm0]; exact get_new
    obtain ⟨m1, A⟩ := loop_go (goes n) (xs := xs) (lq := m.length) (e := e) g hq nd hsub (by omega) hnd hnl (by omega) (xs.filter fun x => shares e x.1) (fun y hy => (List.mem_filter.mp hy).1) m0 old none none none none (h.up u0) (u0.get _ _ hs nofun) (u0.get _ _ hn nofun) gl ho
    have fd := h.fd
    have hL := h.ly.hL
    have W : (wys st.lks st.sgs bg.1 (n + 1) e ss ns) = (xs.filter fun x => shares e x.1).flatMap fun x => wyS st.lks st.sgs bg.1 (wys st.lks st.sgs bg.1 n) e ss ns x.1 := by
      rw [wys_succ]
      conv => lhs; rw [h.ly.hx]
      rw [List.filter_map, List.flatMap_map]
      rw [show (shares e ∘ fun x : Lk × Nat × Nat => x.1) = fun x => shares e x.1 from rfl, ← h.ly.hx]
    have ev : m_Finder_go_on (n + 1) [.ref f, edD e, .ref qs, .ref qn] m = fnK (forGo (gV 4) (fun M => isObj M m.length (.lst ((xs.filter fun x => shares e x.1).map fun x => .ref x.2.1))) (goBody (m_Finder_go_on n)) ((xs.filter fun x => shares e x.1).map fun x => .ref x.2.1) [some (.ref f), some (edD e), some (.ref qs), some (.ref qn), none, none, none, none] m0) := by
      simp [m_Finder_go_on, m_Finder_go_on_body, mkFn_eq, fd, hL, la, gl]
      rfl
    rw [W]
    refine ⟨m1, (u0.mono (by simp)).same A.up, fun hle => ?_, fun hgt => ?_⟩
    · obtain ⟨⟨ρ', k⟩, ps, p1, p2⟩ := A.le hle
      exact ⟨by rw [ev, k]; rfl, ps, p1.mono u0.le, p2⟩
    · obtain ⟨ρ', k⟩ := A.gt hgt
      rw [ev, k]; rfl
end
end Mn
end

section
set_option linter.all false
namespace Mn
/-! ### all routes -/
def rtsOf (st : St) : List (Tx × Wy) := st.sgs.flatMap fun g => (wys st.lks st.sgs g.2.1 32 g.2 [] []).map fun w => (g.1, w)
/-- a route of a signal, its places -/
abbrev RsP := Tx × RtP
def RsAt (m : M) (lo : Nat) (W : List (Tx × Wy)) (ps : List RsP) : Prop := ps.map (fun x => (x.1, x.2.1)) = W ∧ (∀ x ∈ ps, RtAt m x.1 x.2) ∧ ∀ x ∈ ps, lo ≤ x.2.2.1 ∧ lo ≤ x.2.2.2.1 ∧ lo ≤ x.2.2.2.2
def rsRefs (ps : List RsP) : List D := ps.map fun x => .ref x.2.2.1
section
variable {m m' : M} {a : Nat} {lk : Bool} {xs : List (Lk × Nat × Nat)} {st : St}
theorem RsAt.up {lo : Nat} {W : List (Tx × Wy)} {ps : List RsP} (h : RsAt m lo W ps) (u : Up [] m m') : RsAt m' lo W ps := ⟨h.1, fun x hx => (h.2.1 x hx).up u nofun, h.2.2⟩
theorem RsAt.app {lo : Nat} {W V : List (Tx × Wy)} {ps qs : List RsP} (h : RsAt m lo W ps) (k : RsAt m lo V qs) : RsAt m lo (W ++ V) (ps ++ qs) :=
  ⟨by rw [List.map_append, h.1, k.1], fun x hx => (List.mem_append.mp hx).elim (h.2.1 x) (k.2.1 x), fun x hx => (List.mem_append.mp hx).elim (h.2.2 x) (k.2.2 x)⟩
theorem RtsAt.rs {sg : Tx} {lo fl lo' : Nat} {W : List Wy} {ps : List RtP} (h : RtsAt m sg lo fl W ps) (hl : lo' ≤ lo) : RsAt m lo' (W.map fun w => (sg, w)) (ps.map fun p => (sg, p)) := by
  refine ⟨by rw [← h.w, List.map_map, List.map_map]; rfl, ?_, ?_⟩
  · intro x hx
    obtain ⟨p, hp, rfl⟩ := List.mem_map.mp hx
    exact h.r p hp
  · intro x hx
    obtain ⟨p, hp, rfl⟩ := List.mem_map.mp hx
    have := (h.lo p hp).1
    exact ⟨by simp; omega, by simp; omega, by simp; omega⟩
def rtStep : MS := (sSeq (sAsg (gV 3) (eNew 4 m_Finder_init__ (aCons (eV 0) (aCons (eV 2) aNil))))
    (sSeq (sExp (eMeth 4 (m_Finder_go_on 32) (eV 3) (aCons (eFld cs_begin 12 (eV 3)) (aCons (eLst aNil) (aCons eD0 aNil)))))
    (sSeq (sAsg (gV 1) (eOp pAdd (eV 1) (eFld cs_found 13 (eV 3))))
    (sIf (tV (eOp pGt (eUn pLen (eV 1)) (eC (.int 60)))) (sRaise 14) sPass))))
theorem finder_init {s : Tx} {e : Ed} {kvs : List (Ky × D)} {q : Nat} {d1 d2 d3 : D} (h : m[q]? = some (.ins 4 [])) (hL : m[a]? = some (.ins 1 [(3, d1), (4, d2), (5, d3), (6, .ref (a + 4))])) (hg : m[a + 4]? = some (.dct lk kvs)) (hs : getKv kvs (.inr s) = some (edD e)) (hq : q ≠ a) (hq4 : q ≠ a + 4) :
    m_Finder_init__ [.ref q, .ref a, .str s] m = .ok .non (m.set q (.ins 4 [(7, .ref a), (10, .str s), (12, edD e), (13, .ref m.length)]) ++ [.lst []]) := by
  have lq := get_lt h
  have g0 : ∀ o, (m.set q o)[q]? = some o := fun o => get_set_self h
  have gn : ∀ o, (m.set q o ++ [O.lst []])[q]? = some o := fun o => get_push (g0 o)
  have ga : ∀ o, (m.set q o)[a]? = some (.ins 1 [(3, d1), (4, d2), (5, d3), (6, .ref (a + 4))]) := fun o => by rw [get_set_ne hq]; exact hL
  have g4 : ∀ o, (m.set q o)[a + 4]? = some (.dct lk kvs) := fun o => by rw [get_set_ne hq4]; exact hg
  have ss : ∀ o o', (m.set q o ++ [O.lst []]).set q o' = m.set q o' ++ [O.lst []] := fun o o' => by
    rw [List.set_append_left _ _ (by simpa using lq), set_set]
  simp [m_Finder_init__, m_Finder_init___body, mkFn_eq, h, g0, ga, g4, hs, gn, ss]
theorem rtStep_ok (g : GoOk st) {y : Tx × Ed} {q1 : Nat} {ps : List RsP} {W : List (Tx × Wy)} {lo : Nat} {y3 : Option D} (h : LyAt m a true xs st) (hy : y ∈ st.sgs) (hq : m[q1]? = some (.lst (rsRefs ps))) (hp : RsAt m lo W ps) (hl : ps.length ≤ 60) (hlo : lo ≤ m.length) :
    ∃ m1, Up [] m m1 ∧ (ps.length + (wys st.lks st.sgs y.2.1 32 y.2 [] []).length ≤ 60 → ∃ z3 q1' ps', rtStep [some (.ref a), some (.ref q1), some (.str y.1), y3] m = .nx [some (.ref a), some (.ref q1'), some (.str y.1), z3] m1 ∧ m1[q1']? = some (.lst (rsRefs (ps ++ ps'))) ∧ lo ≤ q1' ∧
        RsAt m1 lo ((wys st.lks st.sgs y.2.1 32 y.2 [] []).map fun w => (y.1, w)) ps') ∧
      (60 < ps.length + (wys st.lks st.sgs y.2.1 32 y.2 [] []).length → ∃ ρ', rtStep [some (.ref a), some (.ref q1), some (.str y.1), y3] m = .exc ⟨14, none⟩ ρ' m1) := by
  have la := get_lt h.hL
  have l4 := get_lt h.hg
  have gk : getKv (st.sgs.map eKv) (.inr y.1) = some (edD y.2) := getKv_e g.nd hy
  obtain ⟨mA, hA⟩ : ∃ mA, mA = m ++ [O.ins 4 [(7, .ref a), (10, .str y.1), (12, edD y.2), (13, .ref (m.length + 1))], .lst []] := ⟨_, rfl⟩
  have ini : m_Finder_init__ [.ref m.length, .ref a, .str y.1] (m ++ [.ins 4 []]) = .ok .non mA := by
    rw [finder_init (q := m.length) (a := a) (lk := true) (e := y.2) get_new (get_push h.hL) (get_push h.hg) gk (by omega) (by omega), hA]
    simp
  have uA : Up [] m mA := by rw [hA]; exact Up.app
  obtain ⟨mB, hB⟩ : ∃ mB, mB = mA ++ [O.lst [], .dct false []] := ⟨_, rfl⟩
  have uB : Up [] m mB := by rw [hB]; exact uA.then Up.app
  have lA : mA.length = m.length + 2 := by rw [hA]; simp
  have fA : mA[m.length]? = some (.ins 4 [(7, .ref a), (10, .str y.1), (12, edD y.2), (13, .ref (m.length + 1))]) := by rw [hA]; simp
  have fB : mB[m.length]? = some (.ins 4 [(7, .ref a), (10, .str y.1), (12, edD y.2), (13, .ref (m.length + 1))]) := by rw [hB]; exact get_app fA _
  have oB : mB[m.length + 1]? = some (.lst []) := by rw [hB, hA]; simp
  have sB : mB[mA.length]? = some (.lst (([] : List Tx).map .str)) := by rw [hB]; simp
  have nB : mB[mA.length + 1]? = some (.dct false (([] : List (Tx × Tx)).map tKv)) := by rw [hB]; simp
  obtain ⟨m1, A⟩ := goes 32 mB m.length a (m.length + 1) y.1 y.2 true xs st [] y.2 [] [] mA.length (mA.length + 1) g ⟨h.up uB, fB, oB, by omega, by omega⟩ sB nB (by omega) (by simp) (by simp) (by have := g.sl; simp; omega) (by simp) (by simp) (by simp)
  have eB2 : mA ++ [O.lst [], .dct false []] = mB := hB.symm
  have u1 : Up [] m m1 := uB.trans A.up (by simp)
  have q1' := u1.get _ _ hq nofun
  have f1 := A.up.get _ _ fB (by simp)
  by_cases h60 : (wys st.lks st.sgs y.2.1 32 y.2 [] []).length ≤ 60
  · obtain ⟨k, pr, k1, k2⟩ := A.le (by simpa using h60)
    have prl : pr.length = (wys st.lks st.sgs y.2.1 32 y.2 [] []).length := by rw [← k1.w]; simp
    simp only [List.nil_append] at k2
    have R1 := k1.rs (lo' := lo) (by have := uB.le; omega)
    obtain ⟨m2, hm2⟩ : ∃ m2, m2 = m1 ++ [O.lst (rsRefs (ps ++ pr.map fun p => (y.1, p)))] := ⟨_, rfl⟩
    have u2 : Up [] m m2 := by rw [hm2]; exact u1.then Up.app
    have cat : catOb (some (.lst (rsRefs ps))) (some (.lst (pr.map fun x => .ref x.2.1))) m1 = .ok (.ref m1.length) m2 := by
      rw [catOb_ok (by simp [LIM, rsRefs]; omega), hm2]; simp [rsRefs]
    have g2 : m2[m1.length]? = some (.lst (rsRefs (ps ++ pr.map fun p => (y.1, p)))) := by rw [hm2]; exact get_new
    have len : (rsRefs (ps ++ pr.map fun p => (y.1, p))).length = ps.length + pr.length := by simp [rsRefs]
    refine ⟨m2, u2, fun hle => ⟨some (.ref m.length), m1.length, pr.map fun p => (y.1, p), ?_, g2, by have := u1.le; omega, R1.up (by rw [hm2]; exact Up.app)⟩, fun hgt => ⟨[some (.ref a), some (.ref m1.length), some (.str y.1), some (.ref m.length)], ?_⟩⟩
    · have h61 : ¬ ((60 : Int) < (ps.length : Int) + (pr.length : Int)) := by omega
      simp [rtStep, ini, fA, eB2, fB, k, f1, k2, q1', cat, g2, len, h61]
    · have h61 : (60 : Int) < (ps.length : Int) + (pr.length : Int) := by omega
      simp [rtStep, ini, fA, eB2, fB, k, f1, k2, q1', cat, g2, len, h61, sRaise]
  · have k := A.gt (by simp; omega)
    refine ⟨m1, u1, fun hle => absurd hle (by omega), fun _ => ⟨[some (.ref a), some (.ref q1), some (.str y.1), some (.ref m.length)], ?_⟩⟩
    simp [rtStep, ini, fA, eB2, fB, k, ex1]
end
end Mn
end

section
set_option linter.all false
namespace Mn
section
variable {m m' : M} {a : Nat} {lk : Bool} {xs : List (Lk × Nat × Nat)} {st : St}
theorem rt_loop (g : GoOk st) {lo : Nat} : ∀ (ys : List (Tx × Ed)), (∀ y ∈ ys, y ∈ st.sgs) → ∀ (m : M) (q1 : Nat) (ps : List RsP) (W : List (Tx × Wy)) (y2 y3 : Option D), LyAt m a true xs st → m[q1]? = some (.lst (rsRefs ps)) → RsAt m lo W ps → ps.length ≤ 60 → lo ≤ m.length → lo ≤ q1 →
    ∃ m1, Up [] m m1 ∧ (ps.length + (ys.flatMap fun g => (wys st.lks st.sgs g.2.1 32 g.2 [] []).map fun w => (g.1, w)).length ≤ 60 → ∃ z2 z3 q1' ps', forGo (gV 2) (fun M => isObj M (a + 4) (.dct true (st.sgs.map eKv))) rtStep (ys.map fun x => .str x.1) [some (.ref a), some (.ref q1), y2, y3] m = .nx [some (.ref a), some (.ref q1'), z2, z3] m1 ∧
        m1[q1']? = some (.lst (rsRefs ps')) ∧ lo ≤ q1' ∧ RsAt m1 lo (W ++ ys.flatMap fun g => (wys st.lks st.sgs g.2.1 32 g.2 [] []).map fun w => (g.1, w)) ps') ∧
      (60 < ps.length + (ys.flatMap fun g => (wys st.lks st.sgs g.2.1 32 g.2 [] []).map fun w => (g.1, w)).length → ∃ ρ', forGo (gV 2) (fun M => isObj M (a + 4) (.dct true (st.sgs.map eKv))) rtStep (ys.map fun x => .str x.1) [some (.ref a), some (.ref q1), y2, y3] m = .exc ⟨14, none⟩ ρ' m1)
  | [], _, m, q1, ps, W, y2, y3, h, hq, hp, hl, hlo, hlq => by
    refine ⟨m, Up.refl _ _, fun _ => ⟨y2, y3, q1, ps, by simp [forGo, isObj_ok h.hg], hq, hlq, by simpa using hp⟩, fun z => absurd z (by simp; omega)⟩
  | y :: r, hy, m, q1, ps, W, y2, y3, h, hq, hp, hl, hlo, hlq => by
    obtain ⟨m1, u1, k1, k2⟩ := rtStep_ok g (y3 := y3) h (hy y (by simp)) hq hp hl hlo
    rw [List.flatMap_cons]
    by_cases h60 : ps.length + (wys st.lks st.sgs y.2.1 32 y.2 [] []).length ≤ 60
    · obtain ⟨z3, q1', ps', c1, c2, c2', c3⟩ := k1 h60
      have pl : ps'.length = (wys st.lks st.sgs y.2.1 32 y.2 [] []).length := by have := congrArg List.length c3.1; simpa using this
      obtain ⟨m2, u2, d1, d2⟩ := rt_loop g (lo := lo) r (fun z hz => hy z (by simp [hz])) m1 q1' (ps ++ ps') _ (some (.str y.1)) z3 (h.up u1) c2 ((hp.up u1).app c3) (by simp; omega) (by have := u1.le; omega) c2'
      refine ⟨m2, u1.then u2, fun hle => ?_, fun hgt => ?_⟩
      · simp only [List.length_append, List.length_map] at hle
        obtain ⟨w2, w3, q2, ps2, e1, e2, e2', e3⟩ := d1 (by rw [List.length_append]; omega)
        refine ⟨w2, w3, q2, ps2, ?_, e2, e2', by rw [← List.append_assoc]; exact e3⟩
        simp [forGo, isObj_ok h.hg, gV, c1, e1]
      · simp only [List.length_append, List.length_map] at hgt
        obtain ⟨ρ', e⟩ := d2 (by rw [List.length_append]; omega)
        exact ⟨ρ', by simp [forGo, isObj_ok h.hg, gV, c1, e]⟩
    · obtain ⟨ρ', e⟩ := k2 (by omega)
      refine ⟨m1, u1, fun hle => absurd hle (by simp only [List.length_append, List.length_map]; omega), fun _ => ⟨ρ', ?_⟩⟩
      simp [forGo, isObj_ok h.hg, gV, e]
/-- all routes, or too many -/
theorem routes_ok (g : GoOk st) (h : LyAt m a lk xs st) : ∃ m1, LyAt m1 a (if (rtsOf st).length ≤ 60 then lk else true) xs st ∧ Up [a + 4] m m1 ∧
      ((rtsOf st).length ≤ 60 → Up [] m m1 ∧ ∃ q ps, m_routes_of [.ref a] m = .ok (.ref q) m1 ∧ m1[q]? = some (.lst (rsRefs ps)) ∧ m.length ≤ q ∧ RsAt m1 m.length (rtsOf st) ps) ∧
      (60 < (rtsOf st).length → m_routes_of [.ref a] m = .exc ⟨14, none⟩ m1) := by
  obtain ⟨mA, hA⟩ : ∃ mA, mA = m ++ [O.lst []] := ⟨_, rfl⟩
  have uA : Up [] m mA := by rw [hA]; exact Up.app
  have hAly := h.up uA
  have lkd := hAly.lock true
  obtain ⟨mL, hL⟩ : ∃ mL, mL = mA.set (a + 4) (.dct true (st.sgs.map eKv)) := ⟨_, rfl⟩
  rw [← hL] at lkd
  have l4 := get_lt h.hg
  have gA : mA[m.length]? = some (.lst []) := by rw [hA]; exact get_new
  have gL : mL[m.length]? = some (.lst (rsRefs [])) := by rw [hL, get_set_ne (by omega)]; exact gA
  obtain ⟨m1, u1, k1, k2⟩ := rt_loop g (lo := m.length) st.sgs (fun _ h => h) mL m.length [] [] none none lkd gL ⟨rfl, by simp, by simp⟩ (by simp) (by rw [hL, hA]; simp) (Nat.le_refl _)
  have ik : iKeys (eFld cs_signals 6 (eV 0)) [some (.ref a), some (.ref m.length), none, none] mL = .ok (st.sgs.map fun x => .str x.1, fun M => isObj M (a + 4) (.dct true (st.sgs.map eKv))) mL := by
    simp [lkd.hL, lkd.hg]; exact keysOf_t
  have fr : sFor (gV 2) (iKeys (eFld cs_signals 6 (eV 0))) rtStep [some (.ref a), some (.ref m.length), none, none] mL = forGo (gV 2) (fun M => isObj M (a + 4) (.dct true (st.sgs.map eKv))) rtStep (st.sgs.map fun x => .str x.1) [some (.ref a), some (.ref m.length), none, none] mL := by
    rw [sFor_eq, ik, fo1_ok]
  have e0 : (eFld cs_signals 6 (eV 0)) [some (.ref a), some (.ref m.length), none, none] mA = .ok (.ref (a + 4)) mA := by simp [hAly.hL]
  have ev : m_routes_of [.ref a] m = fnK (sq1 (sRet (eV 1)) (sLock (eFld cs_signals 6 (eV 0)) (sFor (gV 2) (iKeys (eFld cs_signals 6 (eV 0))) rtStep) [some (.ref a), some (.ref m.length), none, none] mA)) := by
    rw [hA]; simp [-sFor_eq, m_routes_of, m_routes_of_body, rtStep]
  have g1 := u1.get _ _ lkd.hg nofun
  subst hL
  by_cases h60 : (rtsOf st).length ≤ 60
  · obtain ⟨z2, z3, q, ps, e1, e2, e2', e3⟩ := k1 (by simpa [rtsOf] using h60)
    rw [e1] at fr
    have sl := slock_nx e0 hAly.hg fr g1
    obtain ⟨u2, _⟩ := up_lock hAly.hg u1
    have qne : q ≠ a + 4 := fun z => by rw [z, g1] at e2; cases e2
    have lq := e3.2.2
    refine ⟨_, by rw [if_pos h60]; exact h.up (uA.then u2), (uA.then u2).mono (by simp), fun _ => ⟨uA.then u2, q, ps, ?_, ?_, ?_, ?_⟩, fun z => absurd z (by omega)⟩
    · rw [ev, sl]; simp
    · rw [get_set_ne (Ne.symm qne)]; exact e2
    · exact e2'
    · have e3' : RsAt m1 m.length (rtsOf st) ps := by simpa [rtsOf] using e3
      refine ⟨e3'.1, fun x hx => (e3'.2.1 x hx).up (S := [a + 4]) Up.set ?_, e3'.2.2⟩
      have := e3'.2.2 x hx
      simp; omega
  · obtain ⟨ρ', e⟩ := k2 (by simp [rtsOf] at h60; simp; omega)
    rw [e] at fr
    have sl := slock_exc e0 hAly.hg fr
    refine ⟨m1, by rw [if_neg h60]; exact lkd.up u1, ?_, fun z => absurd z h60, fun _ => ?_⟩
    · have : Up [a + 4] m (mA.set (a + 4) (.dct true (st.sgs.map eKv))) := (uA.mono (by simp)).same Up.set
      exact this.then u1
    · rw [ev, sl]; rfl
end
end Mn
end

section
set_option linter.all false
namespace Mn
structure StW (m : M) (r d s p l g B : Nat) (scr : List Int) (st : St) : Prop where
  row : Row m r scr
  o : r < d ∧ d < p ∧ p < l ∧ l < g ∧ g < B ∧ B ≤ m.length
  sn : s ≠ r ∧ s ≠ d ∧ s ≠ p ∧ s ≠ l ∧ s ≠ g
  hd : m[d]? = some (.dct false [(.inr [115, 101, 99, 116, 105, 111, 110, 115], .ref s), (.inr [112, 111, 105, 110, 116, 115], .ref p), (.inr [108, 105, 110, 107, 115], .ref l), (.inr [115, 105, 103, 110, 97, 108, 115], .ref g), (.inr [116, 117, 114, 110], .int (st.turn : Int))])
  hs : m[s]? = some (.lst (st.secs.map .str))
  hp : m[p]? = some (.dct false (st.pts.map tKv))
  hl : ∃ xs : List (Lk × Nat), st.lks = xs.map (·.1) ∧ m[l]? = some (.lst (xs.map lkD)) ∧ ∀ x ∈ xs, B ≤ x.2 ∧ m[x.2]? = some (.dct false (x.1.needs.map tKv))
  hg : m[g]? = some (.dct false (st.sgs.map eKv))
variable {m m' : M} {r d s p l g B : Nat} {scr : List Int} {st : St}
theorem StW.at (h : StW m r d s p l g B scr st) : StAt m d s p l g st := by
  obtain ⟨h0, h1, h2, h3, h4, h5, ⟨xs, x1, x2, x3⟩, h6⟩ := h
  exact ⟨h3, h4, h5, ⟨xs, x1, x2, fun x hx => (x3 x hx).2⟩, h6⟩
theorem StW.toL (h : StW m r d s p l g B scr st) : ∃ xs, StL m d s p l g false xs st ∧ (r ≠ d ∧ r ≠ s ∧ r ≠ p ∧ r ≠ l ∧ r ≠ g ∧ ∀ x ∈ xs, r ≠ x.2) := by
  obtain ⟨h0, h1, h2, h3, h4, h5, ⟨xs, x1, x2, x3⟩, h6⟩ := h
  exact ⟨xs, ⟨h3, h4, h5, x1, x2, fun x hx => (x3 x hx).2, h6, by omega, by omega, by omega, by omega, fun x hx => by have := (x3 x hx).1; omega⟩, by omega, by omega, by omega, by omega, by omega, fun x hx => by have := (x3 x hx).1; omega⟩
theorem StW.upS (h : StW m r d s p l g B scr st) {S : List Nat} (u : Up S m m') (hS : ∀ i ∈ S, i ≠ d ∧ i ≠ s ∧ i ≠ p ∧ i ≠ l ∧ i ≠ g ∧ (i = r ∨ ∃ ds, m[i]? = some (.lst ds))) (hr : Row m' r scr) : StW m' r d s p l g B scr st := by
  obtain ⟨h0, h1, h2, h3, h4, h5, ⟨xs, x1, x2, x3⟩, h6⟩ := h
  refine ⟨hr, ⟨h1.1, h1.2.1, h1.2.2.1, h1.2.2.2.1, h1.2.2.2.2.1, Nat.le_trans h1.2.2.2.2.2 u.le⟩, h2, u.get _ _ h3 fun z => (hS _ z).1 rfl, u.get _ _ h4 fun z => (hS _ z).2.1 rfl, u.get _ _ h5 fun z => (hS _ z).2.2.1 rfl, ⟨xs, x1, u.get _ _ x2 fun z => (hS _ z).2.2.2.1 rfl, fun x hx => ⟨(x3 x hx).1, u.get _ _ (x3 x hx).2 fun z => ?_⟩⟩, u.get _ _ h6 fun z => (hS _ z).2.2.2.2.1 rfl⟩
  obtain ⟨_, _, _, _, _, q | ⟨ds, q⟩⟩ := hS _ z
  · have := (x3 x hx).1; omega
  · rw [(x3 x hx).2] at q; cases q
theorem StW.up (h : StW m r d s p l g B scr st) (u : Up [] m m') : StW m' r d s p l g B scr st := h.upS u nofun (h.row.up u nofun)
theorem StW.upf (h : StW m r d s p l g B scr st) {f : Nat} {ds : List D} {o : O} (hf : m[f]? = some (.lst ds)) (h1 : f ≠ r ∧ f ≠ d ∧ f ≠ s ∧ f ≠ p ∧ f ≠ l ∧ f ≠ g) : StW (m.set f o) r d s p l g B scr st :=
  h.upS (S := [f]) Up.set (by simp; exact ⟨h1.2.1, h1.2.2.1, h1.2.2.2.1, h1.2.2.2.2.1, h1.2.2.2.2.2, .inr ⟨ds, hf⟩⟩) (h.row.up (S := [f]) Up.set (by simpa using h1.1.symm))
theorem StW.taken (h : StW m r d s p l g B scr st) {N : Int} (hn : 0 < N) (hn2 : N < 1000) : ∃ (k : Nat) (m' : M), (k : Int) < N ∧ m_law_taken [.ref r, .int N] m = .ok (.int (k : Int)) m' ∧ StW m' r d s p l g B scr st ∧ Up [r] m m' ∧ m'.length = m.length := by
  obtain ⟨k, m', a1, a2, a3, a4, a5⟩ := taken_ok h.row hn hn2
  have o := h.o
  have sn := h.sn
  exact ⟨k, m', a1, a2, h.upS a4 (by simp; omega) a3, a4, a5⟩
theorem StW.addP (h : StW m r d s p l g B scr st) {x : Tx × Tx} (hx : x.1 ∉ st.pts.map (·.1)) (hl : st.pts.length ≤ 100) :
    setOb (some (.dct false (st.pts.map tKv))) p (.str x.1) (.str x.2) m = some (m.set p (.dct false ((st.pts ++ [x]).map tKv))) ∧ StW (m.set p (.dct false ((st.pts ++ [x]).map tKv))) r d s p l g B scr (addP st x) := by
  constructor
  · rw [setOb_dct (by simp only [LIM, List.length_map]; omega)]
    have := putKv_new (f := D.str) (v := x.2) hx
    congr 3
  · obtain ⟨h0, h1, h2, h3, h4, h5, ⟨xs, x1, x2, x3⟩, h6⟩ := h
    have nm : ∀ {i o}, m[i]? = some o → i ≠ p → (m.set p (.dct false ((st.pts ++ [x]).map tKv)))[i]? = some o := fun hi ne => by
      rw [get_set_ne (Ne.symm ne)]; exact hi
    exact ⟨h0.up (S := [p]) Up.set (by simp; omega), by simpa using h1, h2, nm h3 (by omega), nm h4 (by omega), by rw [get_set_self h5]; rfl, ⟨xs, x1, nm x2 (by omega), fun x hx => ⟨(x3 x hx).1, nm (x3 x hx).2 (by have := (x3 x hx).1; omega)⟩⟩, nm h6 (by omega)⟩
theorem StW.addG (h : StW m r d s p l g B scr st) {x : Tx × Ed} (hx : x.1 ∉ st.sgs.map (·.1)) (hl : st.sgs.length ≤ 100) :
    setOb (some (.dct false (st.sgs.map eKv))) g (.str x.1) (edD x.2) m = some (m.set g (.dct false ((st.sgs ++ [x]).map eKv))) ∧ StW (m.set g (.dct false ((st.sgs ++ [x]).map eKv))) r d s p l g B scr (addG st x) := by
  constructor
  · rw [setOb_dct (by simp only [LIM, List.length_map]; omega)]
    have := putKv_new (f := edD) (v := x.2) hx
    congr 3
  · obtain ⟨h0, h1, h2, h3, h4, h5, ⟨xs, x1, x2, x3⟩, h6⟩ := h
    have nm : ∀ {i o}, m[i]? = some o → i ≠ g → (m.set g (.dct false ((st.sgs ++ [x]).map eKv)))[i]? = some o := fun hi ne => by
      rw [get_set_ne (Ne.symm ne)]; exact hi
    exact ⟨h0.up (S := [g]) Up.set (by simp; omega), by simpa using h1, h2, nm h3 (by omega), nm h4 (by omega), nm h5 (by omega), ⟨xs, x1, nm x2 (by omega), fun x hx => ⟨(x3 x hx).1, nm (x3 x hx).2 (by have := (x3 x hx).1; omega)⟩⟩, by rw [get_set_self h6]; rfl⟩
theorem StW.addL (h : StW m r d s p l g B scr st) (k : Lk) (hz : st.lks.length ≤ 100) : ∃ ld, m[l]? = some (.lst ld) ∧ (m ++ [O.dct false (k.needs.map tKv)])[l]? = some (.lst ld) ∧
    ∃ m', appOb (some (.lst ld)) l (.tup [edD k.one, edD k.other, .ref m.length]) (m ++ [.dct false (k.needs.map tKv)]) = .ok .non m' ∧ StW m' r d s p l g B scr (addL st k) ∧ Up [l] m m' := by
  have hh := h.up (Up.app (l := [.dct false (k.needs.map tKv)]))
  obtain ⟨h0, h1, h2, h3, h4, h5, ⟨xs, x1, x2, x3⟩, h6⟩ := h
  obtain ⟨j0, j1, j2, j3, j4, j5, _, j6⟩ := hh
  have xl : xs.length ≤ 100 := by rw [x1] at hz; simpa using hz
  have y2 := get_app x2 [.dct false (k.needs.map tKv)]
  refine ⟨_, x2, y2, (m ++ [O.dct false (k.needs.map tKv)]).set l (.lst (xs.map lkD ++ [.tup [edD k.one, edD k.other, .ref m.length]])), ?_, ?_, ?_⟩
  · exact appOb_ok (by simp only [LIM, List.length_map]; omega)
  · have nm : ∀ {i o}, (m ++ [O.dct false (k.needs.map tKv)])[i]? = some o → i ≠ l → ((m ++ [O.dct false (k.needs.map tKv)]).set l (.lst (xs.map lkD ++ [.tup [edD k.one, edD k.other, .ref m.length]])))[i]? = some o := fun hi ne => by
      rw [get_set_ne (Ne.symm ne)]; exact hi
    refine ⟨j0.up (S := [l]) Up.set (by simp; omega), by simpa using j1, j2, nm j3 (by omega), nm j4 (by omega), nm j5 (by omega), ⟨xs ++ [(k, m.length)], by simp [Mn.addL, x1], ?_, ?_⟩, nm j6 (by omega)⟩
    · rw [get_set_self y2]; simp [lkD]
    · intro x hx
      rcases List.mem_append.mp hx with hx | hx
      · exact ⟨(x3 x hx).1, nm (get_app (x3 x hx).2 _) (by have := (x3 x hx).1; omega)⟩
      · have : x = (k, m.length) := by simpa using hx
        subst this
        exact ⟨h1.2.2.2.2.2, nm get_new (show m.length ≠ l by omega)⟩
  · exact (Up.app.mono (by simp)).same Up.set
/-! the names -/
def pname (t i : Nat) : Tx := 112 :: numT ((t + 3 * i) % 10)
theorem pMod_nat {a b : Nat} {i j : Int} {m : M} (hi : i = (a : Int)) (hj : j = (b : Int)) (h : 0 < b) : pMod (.int i) (.int j) m = .ok (.int ((a % b : Nat) : Int)) m := by
  subst hi; subst hj
  rw [pMod_ok (by omega), Int.fmod_eq_emod_of_nonneg _ (by omega)]; rfl
def r1k (j : Int) (m : M) : R (List D × (M → Bool)) := if j < 1000000 ∧ -1000000 < j then .ok (rng 0 j.toNat, fun _ => true) m else .bad
theorem iRng1_k {e : ME} {ρ : Fr} {m0 m : M} {j : Int} (h : e ρ m0 = .ok (.int j) m) : iRng1 e ρ m0 = r1k j m := by
  unfold iRng1; rw [h]; rfl
theorem r1k_ok {m : M} {n : Nat} (hn : n < 1000) : r1k (n : Int) m = .ok ((List.range n).map fun (k : Nat) => D.int (k : Int), fun _ => true) m := by
  have h1 : (n : Int) < 1000000 := by omega
  have h2 : (-1000000 : Int) < n := by omega
  unfold r1k
  rw [if_pos ⟨h1, h2⟩, Int.toNat_natCast]
  simp [rng]
theorem rng1_ok {e : ME} {ρ : Fr} {m0 m : M} {n : Nat} (h : e ρ m0 = .ok (.int (n : Int)) m) (hn : n < 1000) : iRng1 e ρ m0 = .ok ((List.range n).map fun (k : Nat) => D.int (k : Int), fun _ => true) m := by
  rw [iRng1_k h, r1k_ok hn]
end Mn
end

section
set_option linter.all false
namespace Mn
theorem pname_len {t i : Nat} : pname t i = [112, 48 + (t + 3 * i) % 10] := by
  rw [pname, numT_1 (Nat.mod_lt _ (by omega))]
theorem pname_inj {t i j : Nat} (hi : i < 10) (hj : j < 10) (h : pname t i = pname t j) : i = j := by
  rw [pname_len, pname_len] at h
  simp only [List.cons.injEq, and_true, true_and] at h
  omega
def nT : Tx := [110]
def rT : Tx := [114]
inductive Spr (st : St) (one : Ed) (others : List Ed) : St → List Ed → Prop
  | two (a b : Ed) (rest : List Ed) (h : others.Perm (a :: b :: rest)) :
    Spr st one others (addL (addL (addP st (pname st.turn st.pts.length, one.1)) ⟨one, a, [(pname st.turn st.pts.length, nT)]⟩) ⟨one, b, [(pname st.turn st.pts.length, rT)]⟩) [a, b]
  | thrA (a b c : Ed) (rest : List Ed) (h : others.Perm (a :: b :: rest)) (hc : c ∈ rest) (hcb : c.1 ≠ b.1) :
    Spr st one others (addL (addL (addP (addL (addP st (pname st.turn st.pts.length, one.1)) ⟨one, a, [(pname st.turn st.pts.length, nT)]⟩) (pname st.turn (st.pts.length + 1), b.1)) ⟨one, b, [(pname st.turn st.pts.length, rT), (pname st.turn (st.pts.length + 1), nT)]⟩) ⟨c, b, [(pname st.turn (st.pts.length + 1), rT)]⟩) [a, b, c]
  | thrB (a b c : Ed) (rest : List Ed) (h : others.Perm (a :: b :: rest)) (hc : c ∈ rest) :
    Spr st one others (addL (addL (addP (addL (addP st (pname st.turn st.pts.length, one.1)) ⟨one, a, [(pname st.turn st.pts.length, nT)]⟩) (pname st.turn (st.pts.length + 1), one.1)) ⟨one, b, [(pname st.turn st.pts.length, rT), (pname st.turn (st.pts.length + 1), nT)]⟩) ⟨one, c, [(pname st.turn st.pts.length, rT), (pname st.turn (st.pts.length + 1), rT)]⟩) [a, b, c]
theorem pIx_lst {m : M} {a k : Nat} {xs : List D} {v : D} (h : m[a]? = some (.lst xs)) (hv : xs[k]? = some v) : pIx (.ref a) (.int (k : Int)) m = .ok v m := by
  rw [pIx_ref, h, ixOb_lst, atI_nat, hv]; rfl
@[simp] theorem dct_1 {m : M} {k : Ky} {v : D} : dc2 m.length (some [(k, v)]) (m ++ [.dct false []]) = .ok (.ref m.length) (m ++ [.dct false [(k, v)]]) := by
  rw [dc2_ok (by simp) (by simp)]; simp [putKv]
theorem dct_2 {m : M} {k k' : Ky} {v v' : D} (h : k ≠ k') : dc2 m.length (some [(k, v), (k', v')]) (m ++ [.dct false []]) = .ok (.ref m.length) (m ++ [.dct false [(k, v), (k', v')]]) := by
  rw [dc2_ok (by simp) (by simp)]; simp [putKv, h]
theorem erase_map {α β : Type} (f : α → β) : ∀ (xs : List α) (k : Nat), (xs.map f).eraseIdx k = (xs.eraseIdx k).map f
  | [], _ => rfl
  | x :: r, 0 => rfl
  | x :: r, k + 1 => by simp [erase_map f r k]
theorem perm_erase {α : Type} : ∀ (l : List α) (i : Nat) (h : i < l.length), l.Perm (l[i] :: l.eraseIdx i)
  | x :: r, 0, h => List.Perm.refl _
  | x :: r, i + 1, h => ((perm_erase r i (by simpa using h)).cons x).trans (List.Perm.swap _ _ _)
theorem popL_ok {m : M} {a k : Nat} {xs : List Ed} (h : m[a]? = some (.lst (xs.map edD))) (hk : k < xs.length) : pPopL (.ref a) (.int (k : Int)) m = .ok (edD xs[k]) (m.set a (.lst ((xs.eraseIdx k).map edD))) := by
  rw [pPopL_nat, h, popOb_ok (v := edD xs[k]) (by simp [hk])]
  congr 3
  exact erase_map ..
variable {m : M} {r d s p l g B : Nat} {scr : List Int} {st : St}
theorem StW.addL' (h : StW m r d s p l g B scr st) (k : Lk) {q : Nat} (hq : m[q]? = some (.dct false (k.needs.map tKv))) (qB : B ≤ q) (hz : st.lks.length ≤ 100) : ∃ ld, m[l]? = some (.lst ld) ∧
    ∃ m', appOb (some (.lst ld)) l (.tup [edD k.one, edD k.other, .ref q]) m = .ok .non m' ∧ StW m' r d s p l g B scr (Mn.addL st k) ∧ Up [l] m m' := by
  obtain ⟨h0, h1, h2, h3, h4, h5, ⟨xs, x1, x2, x3⟩, h6⟩ := h
  have xl : xs.length ≤ 100 := by rw [x1] at hz; simpa using hz
  refine ⟨_, x2, m.set l (.lst (xs.map lkD ++ [.tup [edD k.one, edD k.other, .ref q]])), ?_, ?_, Up.set⟩
  · exact appOb_ok (by simp only [LIM, List.length_map]; omega)
  · have nm : ∀ {i o}, m[i]? = some o → i ≠ l → (m.set l (.lst (xs.map lkD ++ [.tup [edD k.one, edD k.other, .ref q]])))[i]? = some o := fun hi ne => by
      rw [get_set_ne (Ne.symm ne)]; exact hi
    refine ⟨h0.up (S := [l]) Up.set (by simp; omega), by simpa using h1, h2, nm h3 (by omega), nm h4 (by omega), nm h5 (by omega), ⟨xs ++ [(k, q)], by simp [Mn.addL, x1], ?_, ?_⟩, nm h6 (by omega)⟩
    · rw [get_set_self x2]; simp [lkD]
    · intro x hx
      rcases List.mem_append.mp hx with hx | hx
      · exact ⟨(x3 x hx).1, nm (x3 x hx).2 (by have := (x3 x hx).1; omega)⟩
      · have : x = (k, q) := by simpa using hx
        subst this
        exact ⟨qB, nm hq (show q ≠ l by omega)⟩
theorem StW.ll (h : StW m r d s p l g B scr st) : ∃ ld, m[l]? = some (.lst ld) := by
  obtain ⟨xs, x1, x2, x3⟩ := h.hl
  exact ⟨_, x2⟩
theorem spread_ok (h : StW m r d s p l g B scr st) {f : Nat} {others : List Ed} {one : Ed} (hf : m[f]? = some (.lst (others.map edD))) (hB : B ≤ f) (sf : s ≠ f) (h2 : 2 ≤ others.length) (h3 : others.length ≤ 100)
    (hp : st.pts.length ≤ 8) (hk : st.pts.map (·.1) = (List.range st.pts.length).map (pname st.turn)) (hll : st.lks.length ≤ 90) :
    ∃ u m' st' used, m_law_spread [.ref r, .ref d, edD one, .ref f] m = .ok (.ref u) m' ∧ m'[u]? = some (.lst (used.map edD)) ∧ StW m' r d s p l g B scr st' ∧ Spr st one others st' used ∧ Up [r, p, l, f] m m' ∧ m.length ≤ u := by
  obtain ⟨n, hn⟩ : ∃ n, n = st.pts.length := ⟨_, rfl⟩
  obtain ⟨P, hP⟩ : ∃ P, P = pname st.turn n := ⟨_, rfl⟩
  obtain ⟨Q, hQ⟩ : ∃ Q, Q = pname st.turn (n + 1) := ⟨_, rfl⟩
  have o := h.o
  have fo : f ≠ r ∧ f ≠ d ∧ f ≠ s ∧ f ≠ p ∧ f ≠ l ∧ f ≠ g := by omega
  have PQ : P ≠ Q := fun e => by rw [hP, hQ] at e; have := pname_inj (by omega) (by omega) e; omega
  have Pn : P ∉ st.pts.map (·.1) := by
    rw [hk, hP, ← hn]; intro e
    obtain ⟨i, hi, e⟩ := List.mem_map.mp e
    have hi := List.mem_range.mp hi
    have := pname_inj (by omega) (by omega) e; omega
  have Qn : Q ∉ st.pts.map (·.1) := by
    rw [hk, hQ, ← hn]; intro e
    obtain ⟨i, hi, e⟩ := List.mem_map.mp e
    have hi := List.mem_range.mp hi
    have := pname_inj (by omega) (by omega) e; omega
  -- the points' names
  have mul : ∀ (x : Int) (m : M), pMul (.int 3) (.int x) m = .ok (.int (3 * x)) m := fun x m => pMul_l (by decide)
  obtain ⟨N0, hN0⟩ : ∃ N0, N0 = (st.turn + 3 * n) % 10 := ⟨_, rfl⟩
  obtain ⟨N1, hN1⟩ : ∃ N1, N1 = (st.turn + 3 * (n + 1)) % 10 := ⟨_, rfl⟩
  have q0 : ∀ M, pMod (.int ((st.turn : Int) + 3 * (n : Int))) (.int 10) M = .ok (.int (N0 : Int)) M := fun M => by rw [hN0]; exact pMod_nat (by omega) rfl (by omega)
  have q1 : ∀ M, pMod (.int ((st.turn : Int) + 3 * ((n : Int) + 1))) (.int 10) M = .ok (.int (N1 : Int)) M := fun M => by rw [hN1]; exact pMod_nat (by omega) rfl (by omega)
  have t0 : ∀ M, pStr (.int (N0 : Int)) M = .ok (.str (numT N0)) M := fun M => pStr_nat (by omega)
  have t1 : ∀ M, pStr (.int (N1 : Int)) M = .ok (.str (numT N1)) M := fun M => pStr_nat (by omega)
  have c0 : ∀ M, pAdd (.str [112]) (.str (numT N0)) M = .ok (.str P) M := fun M => by
    rw [cat_ok (by rw [numT_1 (by omega)]; simp), hP, hN0]; rfl
  have c1 : ∀ M, pAdd (.str [112]) (.str (numT N1)) M = .ok (.str Q) M := fun M => by
    rw [cat_ok (by rw [numT_1 (by omega)]; simp), hQ, hN1]; rfl
  -- the first point
  obtain ⟨a1, w1⟩ := h.addP (x := (P, one.1)) Pn (by omega)
  obtain ⟨m1, hm1⟩ : ∃ m1, m1 = m.set p (.dct false ((st.pts ++ [(P, one.1)]).map tKv)) := ⟨_, rfl⟩
  rw [← hm1] at a1 w1
  have u1 : Up [r, p, l, f] m m1 := by rw [hm1]; exact Up.set.mono (by simp)
  have f1 : m1[f]? = some (.lst (others.map edD)) := by rw [hm1, get_set_ne (by omega)]; exact hf
  -- a
  obtain ⟨i, m2, i1, i2, w2, v2, l2⟩ := w1.taken (N := (others.length : Int)) (by omega) (by omega)
  have u2 : Up [r, p, l, f] m m2 := u1.trans v2 (by simp)
  have f2 := v2.get _ _ f1 (by simp; omega)
  have pa := popL_ok f2 (k := i) (by omega)
  obtain ⟨a, ha⟩ : ∃ a, a = others[i]'(by omega) := ⟨_, rfl⟩
  obtain ⟨O1, hO1⟩ : ∃ O1, O1 = others.eraseIdx i := ⟨_, rfl⟩
  have O1l : O1.length = others.length - 1 := by rw [hO1, List.length_eraseIdx]; rw [if_pos (by omega)]
  have pm1 : others.Perm (a :: O1) := by rw [ha, hO1]; exact perm_erase _ _ _
  rw [← ha, ← hO1] at pa
  have w3 := w2.upf (o := .lst (O1.map edD)) f2 fo
  obtain ⟨m3, hm3⟩ : ∃ m3, m3 = m2.set f (.lst (O1.map edD)) := ⟨_, rfl⟩
  rw [← hm3] at pa w3
  have u3 : Up [r, p, l, f] m m3 := by rw [hm3]; exact u2.trans Up.set (by simp)
  have f3 : m3[f]? = some (.lst (O1.map edD)) := by rw [hm3]; exact get_set_self f2
  -- b
  obtain ⟨j, m4, j1, j2, w4, v4, l4⟩ := w3.taken (N := (O1.length : Int)) (by omega) (by omega)
  have u4 : Up [r, p, l, f] m m4 := u3.trans v4 (by simp)
  have f4 := v4.get _ _ f3 (by simp; omega)
  have pb := popL_ok f4 (k := j) (by omega)
  obtain ⟨b, hb⟩ : ∃ b, b = O1[j]'(by omega) := ⟨_, rfl⟩
  obtain ⟨O2, hO2⟩ : ∃ O2, O2 = O1.eraseIdx j := ⟨_, rfl⟩
  have O2l : O2.length = O1.length - 1 := by rw [hO2, List.length_eraseIdx]; rw [if_pos (by omega)]
  have pm2 : O1.Perm (b :: O2) := by rw [hb, hO2]; exact perm_erase _ _ _
  have pm : others.Perm (a :: b :: O2) := pm1.trans (pm2.cons a)
  rw [← hb, ← hO2] at pb
  have w5 := w4.upf (o := .lst (O2.map edD)) f4 fo
  obtain ⟨m5, hm5⟩ : ∃ m5, m5 = m4.set f (.lst (O2.map edD)) := ⟨_, rfl⟩
  rw [← hm5] at pb w5
  have u5 : Up [r, p, l, f] m m5 := by rw [hm5]; exact u4.trans Up.set (by simp)
  have f5 : m5[f]? = some (.lst (O2.map edD)) := by rw [hm5]; exact get_set_self f4
  -- the first link
  obtain ⟨ld, d1, d2, m6, d3, w6, v6⟩ := w5.addL ⟨one, a, [(P, nT)]⟩ (by simp [addP]; omega)
  simp only [List.map_cons, List.map_nil, tKv, nT] at d2 d3
  have u6 : Up [r, p, l, f] m m6 := u5.trans v6 (by simp)
  have f6 := v6.get _ _ f5 (by simp; omega)
  -- the way
  obtain ⟨way, m7, y1, y2, w7, v7, l7⟩ := w6.taken (N := 4) (by omega) (by omega)
  have u7 : Up [r, p, l, f] m m7 := u6.trans v7 (by simp)
  have f7 := v7.get _ _ f6 (by simp; omega)
  -- more
  obtain ⟨more, hmore⟩ : ∃ more, more = O2.filter fun e => (!decide (e.1 = b.1)) || decide (way = 3) := ⟨_, rfl⟩
  have lc := lc_pure (i := 9) (ρ := [some (.ref r), some (.ref d), some (edD one), some (.ref f), some (.str P), some (edD a), some (edD b), some (.int (way : Int)), none, none, none, none]) (it := iList (eV 3)) (chk := fun M => isObj M f (.lst (O2.map edD)))
    (t := tOr (tV (eOp pNe (eOp pIx (eV 9) (eC (.int 0))) (eOp pIx (eV 6) (eC (.int 0))))) (tV (eOp pEq (eV 7) (eC (.int 3))))) (e := eV 9) (m0 := m7) (m := m7)
    edD (fun e => (!decide (e.1 = b.1)) || decide (way = 3)) edD O2 (by simp [f7]) (isObj_ok f7) (by omega)
    (by
      intro x _
      have : ((way : Int) = 3) ↔ way = 3 := by omega
      by_cases e : x.1 = b.1 <;> simp [e, this]) (by intro x _ _; simp)
  rw [← hmore] at lc
  obtain ⟨m8, hm8⟩ : ∃ m8, m8 = m7 ++ [O.lst (more.map edD)] := ⟨_, rfl⟩
  obtain ⟨m9, hm9⟩ : ∃ m9, m9 = m8 ++ [O.lst []] := ⟨_, rfl⟩
  obtain ⟨q8, hq8⟩ : ∃ q8, q8 = m7.length := ⟨_, rfl⟩
  rw [← hm8, ← hq8] at lc
  have v8 : Up [] m7 m8 := by rw [hm8]; exact Up.app
  have v9 : Up [] m8 m9 := by rw [hm9]; exact Up.app
  have g8 : m8[q8]? = some (.lst (more.map edD)) := by rw [hm8, hq8]; exact get_new
  have g9 := v9.get _ _ g8 nofun
  have z9 : m9[m8.length]? = some (.lst []) := by rw [hm9]; exact get_new
  have w9 := w7.up (v8.then v9)
  have u9 : Up [r, p, l, f] m m9 := (u7.then v8).then v9
  have e9 : eqO m9 (.ref q8) (.ref m8.length) = some (decide (more = [])) := eqO_nil_e g9 z9
  have wl7 : m.length ≤ q8 := by have := u7.le; omega
  have moreS : ∀ c ∈ more, c ∈ O2 ∧ (c.1 ≠ b.1 ∨ way = 3) := fun c hc => by
    rw [hmore] at hc
    obtain ⟨h1, h2⟩ := List.mem_filter.mp hc
    exact ⟨h1, by simpa using h2⟩
  have hd0 := h.hd
  have hp0 := h.hp
  have hd1 := w1.hd
  have hd5 := w5.hd
  have hd9 := w9.hd
  have hp9 := w9.hp
  have pl9 : ((addP st (P, one.1)).pts).length = n + 1 := by simp [addP, hn]
  by_cases hA : more = [] ∨ way < 2
  · obtain ⟨ld9, k1, k2, m10, k3, w10, v10⟩ := w9.addL ⟨one, b, [(P, rT)]⟩ (by simp [addP, addL]; omega)
    refine ⟨m10.length, m10 ++ [.lst ([a, b].map edD)], _, [a, b], ?_, get_new, w10.up Up.app, ?_, (u9.trans v10 (by simp)).then Up.app, by have := v10.le; have := u9.le; omega⟩
    · have hc : (if more = [] then R.ok true m9 else .ok (decide ((way : Int) < 2)) m9) = .ok true m9 := by
        rcases hA with e | e
        · simp [e]
        · have : (way : Int) < 2 := by omega
          simp [this]
      simp only [List.map_cons, List.map_nil, tKv, rT] at k2 k3
      simp [m_law_spread, m_law_spread_body, hd0, hp0, mul, q0, t0, c0, a1, f1, i2, f2, pa, f3, j2, f4, pb, f5, d1, d2, d3, hd5, ← hn, y2, lc, ← hm9, e9, hc, hd9, k1, k2, k3]
    · rw [hP, hn]; exact .two a b O2 pm
  · have hA1 : more ≠ [] := fun e => hA (.inl e)
    have hA2 : 2 ≤ way := by omega
    have hc : (if more = [] then R.ok true m9 else .ok (decide ((way : Int) < 2)) m9) = .ok false m9 := by
      have : ¬ (way : Int) < 2 := by omega
      simp [hA1, this]
    have hp9' : m9[p]? = some (.dct false ((st.pts ++ [(P, one.1)]).map tKv)) := hp9
    have ml : 0 < more.length := List.length_pos_iff.mpr hA1
    have ml2 : more.length ≤ O2.length := by rw [hmore]; exact List.length_filter_le ..
    obtain ⟨k, m10, k10a, k10b, w10, v10, l10⟩ := w9.taken (N := (more.length : Int)) (by omega) (by omega)
    have u10 : Up [r, p, l, f] m m10 := u9.trans v10 (by simp)
    have g10 := v10.get _ _ g9 (by simp; omega)
    obtain ⟨c, hcdef⟩ : ∃ c, c = more[k]'(by omega) := ⟨_, rfl⟩
    have pc : pIx (.ref q8) (.int (k : Int)) m10 = .ok (edD c) m10 := pIx_lst g10 (by rw [hcdef, List.getElem?_map, List.getElem?_eq_getElem (by omega)]; rfl)
    have hcm : c ∈ more := by rw [hcdef]; exact List.getElem_mem _
    obtain ⟨hcO, hcb⟩ := moreS c hcm
    obtain ⟨m11, hm11⟩ : ∃ m11, m11 = m10 ++ [O.lst [.str b.1, .str one.1]] := ⟨_, rfl⟩
    have v11 : Up [] m10 m11 := by rw [hm11]; exact Up.app
    have z11 : m11[m10.length]? = some (.lst [.str b.1, .str one.1]) := by rw [hm11]; exact get_new
    have w11 := w10.up v11
    have u11 := u10.then v11
    have hd11 := w11.hd
    have hp11 : m11[p]? = some (.dct false ((st.pts ++ [(P, one.1)]).map tKv)) := w11.hp
    have tn : (Mn.addL (addP st (P, one.1)) ⟨one, a, [(P, nT)]⟩).turn = st.turn := rfl
    have PQi : (Sum.inr P : Ky) ≠ Sum.inr Q := fun e => PQ (by simpa using e)
    have hw : way = 2 ∨ way = 3 := by omega
    rcases hw with hw | hw
    · have hw2 : (way : Int) - 2 = 0 := by omega
      obtain ⟨a2, w12⟩ := w11.addP (x := (Q, b.1)) (by simp [addP, Mn.addL]; exact ⟨by simpa using Qn, fun e => PQ e.symm⟩) (by simp [addP, Mn.addL]; omega)
      obtain ⟨m12, hm12⟩ : ∃ m12, m12 = m11.set p (.dct false ((st.pts ++ [(P, one.1)] ++ [(Q, b.1)]).map tKv)) := ⟨_, rfl⟩
      have a2' : setOb (some (.dct false ((st.pts ++ [(P, one.1)]).map tKv))) p (.str Q) (.str b.1) m11 = some m12 := by rw [hm12]; exact a2
      have w12' : StW m12 r d s p l g B scr (addP (Mn.addL (addP st (P, one.1)) ⟨one, a, [(P, nT)]⟩) (Q, b.1)) := by rw [hm12]; exact w12
      have u12 : Up [r, p, l, f] m m12 := by rw [hm12]; exact u11.trans Up.set (by simp)
      obtain ⟨ld12, k1, k2, m13, k3, w13, v13⟩ := w12'.addL ⟨one, b, [(P, rT), (Q, nT)]⟩ (by simp [addP, Mn.addL]; omega)
      have u13 : Up [r, p, l, f] m m13 := u12.trans v13 (by simp)
      obtain ⟨ld13, k4⟩ := w13.ll
      obtain ⟨m14, hm14⟩ : ∃ m14, m14 = m13 ++ [O.lst [edD c, edD one], .lst [edD b, edD c], .dct false [(.inr Q, .str [114])], .dct false [(.inr P, .str [114]), (.inr Q, .str [114])], .lst [.ref (m13.length + 2), .ref (m13.length + 3)]] := ⟨_, rfl⟩
      have z14 : m14[m13.length + 4]? = some (.lst [.ref (m13.length + 2), .ref (m13.length + 3)]) := by rw [hm14]; simp
      have v14 : Up [] m13 m14 := by rw [hm14]; exact Up.app
      have w14 := w13.up v14
      obtain ⟨ld14, k5, m15, k6, w15, v15⟩ := w14.addL' ⟨c, b, [(Q, rT)]⟩ (q := m13.length + 2) (by rw [hm14]; simp [tKv, rT]) (by have := w13.o; have : B ≤ m13.length := w13.o.2.2.2.2.2; omega) (by simp [addP, Mn.addL]; omega)
      have u15 : Up [r, p, l, f] m m15 := (u13.then v14).trans v15 (by simp)
      refine ⟨m15.length, m15 ++ [.lst ([a, b, c].map edD)], _, [a, b, c], ?_, get_new, w15.up Up.app, ?_, u15.then Up.app, u15.le⟩
      · simp only [List.map_cons, List.map_nil, tKv, rT, nT] at k2 k3
        simp only [List.map_append, List.map_cons, List.map_nil] at a2'
        have hd12 := w12'.hd
        have hd13 := w13.hd
        have x1 := dct_1 (m := m13 ++ [O.lst [edD c, edD one], .lst [edD b, edD c]]) (k := .inr Q) (v := .str [114])
        have x2 := dct_2 (m := m13 ++ [O.lst [edD c, edD one], .lst [edD b, edD c], .dct false [(.inr Q, .str [114])]]) (v := .str [114]) (v' := .str [114]) PQi
        simp only [List.append_assoc, List.cons_append, List.nil_append, List.length_append, List.length_cons, List.length_nil, Nat.zero_add, Nat.reduceAdd] at x1 x2
        simp [m_law_spread, m_law_spread_body, hd0, hp0, mul, q0, t0, c0, a1, f1, i2, f2, pa, f3, j2, f4, pb, f5, d1, d2, d3, hd5, ← hn, y2, lc, ← hm9, e9, hc, hd9, hp9', q1, t1, c1, g9, k10b, g10, pc, ← hm11, z11, hd11, hp11, a2', hd12, k1, dct_2 PQi, k2, k3, hd13, k4, hw2, tn, ← hm14, k5, k6, x1, x2, z14]
      · rw [hP, hQ, hn]; exact .thrA a b c O2 pm hcO (hcb.resolve_right (by omega))
    · have hw2 : (way : Int) - 2 = 1 := by omega
      obtain ⟨a2, w12⟩ := w11.addP (x := (Q, one.1)) (by simp [addP, Mn.addL]; exact ⟨by simpa using Qn, fun e => PQ e.symm⟩) (by simp [addP, Mn.addL]; omega)
      obtain ⟨m12, hm12⟩ : ∃ m12, m12 = m11.set p (.dct false ((st.pts ++ [(P, one.1)] ++ [(Q, one.1)]).map tKv)) := ⟨_, rfl⟩
      have a2' : setOb (some (.dct false ((st.pts ++ [(P, one.1)]).map tKv))) p (.str Q) (.str one.1) m11 = some m12 := by rw [hm12]; exact a2
      have w12' : StW m12 r d s p l g B scr (addP (Mn.addL (addP st (P, one.1)) ⟨one, a, [(P, nT)]⟩) (Q, one.1)) := by rw [hm12]; exact w12
      have u12 : Up [r, p, l, f] m m12 := by rw [hm12]; exact u11.trans Up.set (by simp)
      obtain ⟨ld12, k1, k2, m13, k3, w13, v13⟩ := w12'.addL ⟨one, b, [(P, rT), (Q, nT)]⟩ (by simp [addP, Mn.addL]; omega)
      have u13 : Up [r, p, l, f] m m13 := u12.trans v13 (by simp)
      obtain ⟨ld13, k4⟩ := w13.ll
      obtain ⟨m14, hm14⟩ : ∃ m14, m14 = m13 ++ [O.lst [edD c, edD one], .lst [edD b, edD c], .dct false [(.inr Q, .str [114])], .dct false [(.inr P, .str [114]), (.inr Q, .str [114])], .lst [.ref (m13.length + 2), .ref (m13.length + 3)]] := ⟨_, rfl⟩
      have z14 : m14[m13.length + 4]? = some (.lst [.ref (m13.length + 2), .ref (m13.length + 3)]) := by rw [hm14]; simp
      have v14 : Up [] m13 m14 := by rw [hm14]; exact Up.app
      have w14 := w13.up v14
      obtain ⟨ld14, k5, m15, k6, w15, v15⟩ := w14.addL' ⟨one, c, [(P, rT), (Q, rT)]⟩ (q := m13.length + 3) (by rw [hm14]; simp [tKv, rT]) (by have := w13.o; have : B ≤ m13.length := w13.o.2.2.2.2.2; omega) (by simp [addP, Mn.addL]; omega)
      have u15 : Up [r, p, l, f] m m15 := (u13.then v14).trans v15 (by simp)
      refine ⟨m15.length, m15 ++ [.lst ([a, b, c].map edD)], _, [a, b, c], ?_, get_new, w15.up Up.app, ?_, u15.then Up.app, u15.le⟩
      · simp only [List.map_cons, List.map_nil, tKv, rT, nT] at k2 k3
        simp only [List.map_append, List.map_cons, List.map_nil] at a2'
        have hd12 := w12'.hd
        have hd13 := w13.hd
        have x1 := dct_1 (m := m13 ++ [O.lst [edD c, edD one], .lst [edD b, edD c]]) (k := .inr Q) (v := .str [114])
        have x2 := dct_2 (m := m13 ++ [O.lst [edD c, edD one], .lst [edD b, edD c], .dct false [(.inr Q, .str [114])]]) (v := .str [114]) (v' := .str [114]) PQi
        simp only [List.append_assoc, List.cons_append, List.nil_append, List.length_append, List.length_cons, List.length_nil, Nat.zero_add, Nat.reduceAdd] at x1 x2
        simp [m_law_spread, m_law_spread_body, hd0, hp0, mul, q0, t0, c0, a1, f1, i2, f2, pa, f3, j2, f4, pb, f5, d1, d2, d3, hd5, ← hn, y2, lc, ← hm9, e9, hc, hd9, hp9', q1, t1, c1, g9, k10b, g10, pc, ← hm11, z11, hd11, hp11, a2', hd12, k1, dct_2 PQi, k2, k3, hd13, k4, hw2, tn, ← hm14, k5, k6, x1, x2, z14]
      · rw [hP, hQ, hn]; exact .thrB a b c O2 pm hcO
end Mn
end

section
set_option linter.all false
namespace Mn
structure LkR (st : St) (k : Lk) : Prop where
  o1 : k.one.1 ∈ st.secs ∧ k.one.2 < 2
  o2 : k.other.1 ∈ st.secs ∧ k.other.2 < 2
  ne : k.one.1 ≠ k.other.1
  len : k.needs.length ≤ 2
  nd : (k.needs.map (·.1)).Nodup
  ok : ∀ n ∈ k.needs, (∃ sec, (n.1, sec) ∈ st.pts ∧ (sec = k.one.1 ∨ sec = k.other.1)) ∧ (n.2 = nT ∨ n.2 = rT)
structure InvL (st : St) : Prop where
  pk : st.pts.map (·.1) = (List.range st.pts.length).map (pname st.turn)
  pl : st.pts.length ≤ 10
  pv : ∀ p ∈ st.pts, p.2 ∈ st.secs
  lk : ∀ k ∈ st.lks, LkR st k
  ap : st.lks.Pairwise fun k' k => (shares k.one k' = true ∨ shares k.other k' = true) → Apart k'.needs k.needs
  dg : ∀ e, (st.lks.filter (shares e)).length ≤ 3
structure Fee (st : St) (e : Ed) : Prop where
  s : e.1 ∈ st.secs
  z : e.2 < 2
  f : ∀ k ∈ st.lks, e ≠ k.one ∧ e ≠ k.other
theorem Fee.no {st : St} {e : Ed} (h : Fee st e) {k : Lk} (hk : k ∈ st.lks) : shares e k = false := by
  have := h.f k hk; simp [shares, this]
theorem cnt_addL {st : St} {k : Lk} {e : Ed} : ((Mn.addL st k).lks.filter (shares e)).length = (st.lks.filter (shares e)).length + if e = k.one ∨ e = k.other then 1 else 0 := by
  simp only [Mn.addL, List.filter_append, List.length_append]
  by_cases h : e = k.one ∨ e = k.other
  · simp [shares, h]
  · rw [if_neg h]
    have : shares e k = false := by simpa [shares] using h
    simp [this]
theorem Fee.cnt {st : St} {e : Ed} (h : Fee st e) : (st.lks.filter (shares e)).length = 0 := by
  rw [List.length_eq_zero_iff, List.filter_eq_nil_iff]
  intro k hk; rw [h.no hk]; simp
theorem InvL.addP {st : St} (h : InvL st) {sec : Tx} (hs : sec ∈ st.secs) (hl : st.pts.length < 10) : InvL (addP st (pname st.turn st.pts.length, sec)) := by
  refine ⟨?_, by simp [Mn.addP]; omega, ?_, ?_, h.ap, h.dg⟩
  · simp [Mn.addP, h.pk, List.range_succ]
  · intro p hp
    rcases List.mem_append.mp hp with hp | hp
    · exact h.pv p hp
    · have : p = (pname st.turn st.pts.length, sec) := by simpa using hp
      rw [this]; exact hs
  · intro k hk
    obtain ⟨a1, a2, a3, a4, a5, a6⟩ := h.lk k hk
    refine ⟨a1, a2, a3, a4, a5, fun n hn => ?_⟩
    obtain ⟨⟨sec', b1, b2⟩, b3⟩ := a6 n hn
    exact ⟨⟨sec', List.mem_append.mpr (.inl b1), b2⟩, b3⟩
theorem InvL.addL {st : St} (h : InvL st) {k : Lk} (hk : LkR st k) (ha : ∀ k' ∈ st.lks, (shares k.one k' = true ∨ shares k.other k' = true) → Apart k'.needs k.needs) (hd : ∀ e, (e = k.one ∨ e = k.other) → (st.lks.filter (shares e)).length ≤ 2) : InvL (addL st k) := by
  refine ⟨h.pk, h.pl, h.pv, ?_, ?_, ?_⟩
  · intro x hx
    rcases List.mem_append.mp hx with hx | hx
    · obtain ⟨a1, a2, a3, a4, a5, a6⟩ := h.lk x hx
      exact ⟨a1, a2, a3, a4, a5, a6⟩
    · have : x = k := by simpa using hx
      rw [this]
      obtain ⟨a1, a2, a3, a4, a5, a6⟩ := hk
      exact ⟨a1, a2, a3, a4, a5, a6⟩
  · refine List.pairwise_append.mpr ⟨h.ap, by simp, fun x hx y hy => ?_⟩
    have : y = k := by simpa using hy
    rw [this]; exact ha x hx
  · intro e
    rw [cnt_addL]
    by_cases he : e = k.one ∨ e = k.other
    · rw [if_pos he]; have := hd e he; omega
    · rw [if_neg he]; have := h.dg e; omega
theorem Fee.c0 {st : St} {e : Ed} (h : Fee st e) {p : Tx × Tx} : ((Mn.addP st p).lks.filter (shares e)).length ≤ 2 := by
  have := h.cnt; simp only [Mn.addP]; omega
theorem Fee.c00 {st : St} {e : Ed} (h : Fee st e) : (st.lks.filter (shares e)).length ≤ 2 := by
  have := h.cnt; omega
theorem Fee.c1 {st : St} {e : Ed} (h : Fee st e) {p : Tx × Tx} {k : Lk} : ((Mn.addL (Mn.addP st p) k).lks.filter (shares e)).length ≤ 2 := by
  have := h.cnt; rw [cnt_addL]; simp only [Mn.addP]; split <;> omega
theorem Fee.c1p {st : St} {e : Ed} (h : Fee st e) {p p2 : Tx × Tx} {k : Lk} : ((Mn.addP (Mn.addL (Mn.addP st p) k) p2).lks.filter (shares e)).length ≤ 2 := h.c1
theorem Fee.c2 {st : St} {e : Ed} (h : Fee st e) {p p2 : Tx × Tx} {k k2 : Lk} : ((Mn.addL (Mn.addP (Mn.addL (Mn.addP st p) k) p2) k2).lks.filter (shares e)).length ≤ 2 := by
  have := h.cnt; rw [cnt_addL]
  show ((Mn.addL (Mn.addP st p) k).lks.filter (shares e)).length + _ ≤ 2
  rw [cnt_addL]; simp only [Mn.addP]; split <;> split <;> omega
theorem Fee.addP {st : St} {e : Ed} (h : Fee st e) {p : Tx × Tx} : Fee (addP st p) e := ⟨h.s, h.z, h.f⟩
theorem Fee.addL {st : St} {e : Ed} (h : Fee st e) {k : Lk} (h1 : e ≠ k.one) (h2 : e ≠ k.other) : Fee (addL st k) e := ⟨h.s, h.z, fun x hx => by
  rcases List.mem_append.mp hx with hx | hx
  · exact h.f x hx
  · have : x = k := by simpa using hx
    rw [this]; exact ⟨h1, h2⟩⟩
theorem shares_no {e : Ed} {k : Lk} (h1 : e ≠ k.one) (h2 : e ≠ k.other) : shares e k = false := by simp [shares, h1, h2]
theorem ap_1 {P : Tx} {x y : Tx} {r t : List (Tx × Tx)} (h : x ≠ y) : Apart ((P, x) :: r) ((P, y) :: t) := ⟨(P, y), by simp, by simp [lookT, h]⟩
theorem ap_2 {P Q : Tx} {x y z : Tx} {t r : List (Tx × Tx)} (hm : (Q, y) ∈ t) (hPQ : P ≠ Q) (h : x ≠ y) : Apart ((P, z) :: (Q, x) :: r) t := ⟨(Q, y), hm, by simp [lookT, h, hPQ]⟩
theorem ne_fst {a b : Ed} (h : a.1 ≠ b.1) : a ≠ b := fun e => h (by rw [e])
structure SprInv (st st' : St) (one : Ed) (used : List Ed) : Prop where
  inv : InvL st'
  fr : ∀ e, Fee st e → e ∉ one :: used → Fee st' e
  same : st'.secs = st.secs ∧ st'.turn = st.turn ∧ st'.sgs = st.sgs
  len : st'.lks.length ≤ st.lks.length + 3
theorem spr_inv {st st' : St} {one : Ed} {others used : List Ed} (h : InvL st) (h1 : Fee st one) (h2 : ∀ e ∈ others, Fee st e ∧ e.1 ≠ one.1) (nd : others.Nodup) (hp : st.pts.length ≤ 8) (hs : Spr st one others st' used) : SprInv st st' one used := by
  have P0 : (pname st.turn st.pts.length, one.1) ∈ (addP st (pname st.turn st.pts.length, one.1)).pts := by simp [addP]
  have i1 := h.addP h1.s (by omega)
  cases hs with
  | two a b rest pm =>
    have hn := (List.Perm.nodup_iff pm).mp nd
    have ha := h2 a (pm.mem_iff.mpr (by simp))
    have hb := h2 b (pm.mem_iff.mpr (by simp))
    have ab : a ≠ b := fun e => by rw [e] at hn; simp at hn
    have i2 : InvL (addL (addP st (pname st.turn st.pts.length, one.1)) ⟨one, a, [(pname st.turn st.pts.length, nT)]⟩) := by
      refine i1.addL ⟨⟨h1.s, h1.z⟩, ⟨ha.1.s, ha.1.z⟩, fun e => ha.2 e.symm, by simp, by simp, ?_⟩ ?_ ?_
      · simp only [List.mem_singleton]; rintro n rfl; exact ⟨⟨one.1, P0, .inl rfl⟩, .inl rfl⟩
      · intro k' hk'; simp [h1.no hk', ha.1.no hk']
      · rintro e (rfl | rfl)
        · exact h1.c0
        · exact ha.1.c0
    have i3 := i2.addL (k := ⟨one, b, [(pname st.turn st.pts.length, rT)]⟩) ⟨⟨h1.s, h1.z⟩, ⟨hb.1.s, hb.1.z⟩, fun e => hb.2 e.symm, by simp, by simp, by
      simp only [List.mem_singleton]; rintro n rfl; exact ⟨⟨one.1, P0, .inl rfl⟩, .inr rfl⟩⟩ (by
      intro k' hk'
      rcases List.mem_append.mp hk' with hk' | hk'
      · simp [h1.no hk', hb.1.no hk']
      · obtain rfl := List.mem_singleton.mp hk'
        exact fun _ => ap_1 (by decide)) (by
      rintro e (rfl | rfl)
      · exact h1.c1
      · exact hb.1.c1)
    refine ⟨i3, fun e he hu => ?_, ⟨rfl, rfl, rfl⟩, by simp [addL, addP]⟩
    simp only [List.mem_cons, List.not_mem_nil, or_false, not_or] at hu
    exact (he.addP.addL hu.1 hu.2.1).addL hu.1 hu.2.2
  | thrA a b c rest pm hc hcb =>
    have hn := (List.Perm.nodup_iff pm).mp nd
    have ha := h2 a (pm.mem_iff.mpr (by simp))
    have hb := h2 b (pm.mem_iff.mpr (by simp))
    have hcc := h2 c (pm.mem_iff.mpr (by simp [hc]))
    have ab : a ≠ b := fun e => by rw [e] at hn; simp at hn
    have ac : a ≠ c := fun e => by rw [e] at hn; simp [hc] at hn
    have PQ : pname st.turn st.pts.length ≠ pname st.turn (st.pts.length + 1) := fun e => by have := pname_inj (by omega) (by omega) e; omega
    have i2 : InvL (addL (addP st (pname st.turn st.pts.length, one.1)) ⟨one, a, [(pname st.turn st.pts.length, nT)]⟩) := by
      refine i1.addL ⟨⟨h1.s, h1.z⟩, ⟨ha.1.s, ha.1.z⟩, fun e => ha.2 e.symm, by simp, by simp, ?_⟩ ?_ ?_
      · simp only [List.mem_singleton]; rintro n rfl; exact ⟨⟨one.1, P0, .inl rfl⟩, .inl rfl⟩
      · intro k' hk'; simp [h1.no hk', ha.1.no hk']
      · rintro e (rfl | rfl)
        · exact h1.c0
        · exact ha.1.c0
    have i3 := i2.addP (sec := b.1) hb.1.s (by simp [addP, addL]; omega)
    have e3 : pname (addL (addP st (pname st.turn st.pts.length, one.1)) ⟨one, a, [(pname st.turn st.pts.length, nT)]⟩).turn (addL (addP st (pname st.turn st.pts.length, one.1)) ⟨one, a, [(pname st.turn st.pts.length, nT)]⟩).pts.length = pname st.turn (st.pts.length + 1) := by simp [addP, addL]
    rw [e3] at i3
    have i4 := i3.addL (k := ⟨one, b, [(pname st.turn st.pts.length, rT), (pname st.turn (st.pts.length + 1), nT)]⟩) ⟨⟨h1.s, h1.z⟩, ⟨hb.1.s, hb.1.z⟩, fun e => hb.2 e.symm, by simp, by simp [PQ], by
      intro n hn
      simp only [List.mem_cons, List.not_mem_nil, or_false] at hn
      rcases hn with rfl | rfl
      · exact ⟨⟨one.1, by simp [addP, addL], .inl rfl⟩, .inr rfl⟩
      · exact ⟨⟨b.1, by simp [addP, addL], .inr rfl⟩, .inl rfl⟩⟩ (by
      intro k' hk'
      rcases List.mem_append.mp hk' with hk' | hk'
      · simp [h1.no hk', hb.1.no hk']
      · obtain rfl := List.mem_singleton.mp hk'
        exact fun _ => ap_1 (by decide)) (by
      rintro e (rfl | rfl)
      · exact h1.c1p
      · exact hb.1.c1p)
    have i5 := i4.addL (k := ⟨c, b, [(pname st.turn (st.pts.length + 1), rT)]⟩) ⟨⟨hcc.1.s, hcc.1.z⟩, ⟨hb.1.s, hb.1.z⟩, hcb, by simp, by simp, by
      simp only [List.mem_singleton]; rintro n rfl; exact ⟨⟨b.1, by simp [addP, addL], .inr rfl⟩, .inr rfl⟩⟩ (by
      intro k' hk'
      rcases List.mem_append.mp hk' with hk' | hk'
      · rcases List.mem_append.mp hk' with hk' | hk'
        · simp [hcc.1.no hk', hb.1.no hk']
        · obtain rfl := List.mem_singleton.mp hk'
          rw [shares_no (e := c) (ne_fst hcc.2) (fun e => ac e.symm), shares_no (e := b) (ne_fst hb.2) (fun e => ab e.symm)]
          simp
      · obtain rfl := List.mem_singleton.mp hk'
        exact fun _ => ap_2 (y := rT) (by simp) PQ (by decide)) (by
      rintro e (rfl | rfl)
      · exact hcc.1.c2
      · exact hb.1.c2)
    refine ⟨i5, fun e he hu => ?_, ⟨rfl, rfl, rfl⟩, by simp [addL, addP]⟩
    simp only [List.mem_cons, List.not_mem_nil, or_false, not_or] at hu
    exact (((he.addP.addL hu.1 hu.2.1).addP).addL hu.1 hu.2.2.1).addL hu.2.2.2 hu.2.2.1
  | thrB a b c rest pm hc =>
    have hn := (List.Perm.nodup_iff pm).mp nd
    have ha := h2 a (pm.mem_iff.mpr (by simp))
    have hb := h2 b (pm.mem_iff.mpr (by simp))
    have hcc := h2 c (pm.mem_iff.mpr (by simp [hc]))
    have PQ : pname st.turn st.pts.length ≠ pname st.turn (st.pts.length + 1) := fun e => by have := pname_inj (by omega) (by omega) e; omega
    have i2 : InvL (addL (addP st (pname st.turn st.pts.length, one.1)) ⟨one, a, [(pname st.turn st.pts.length, nT)]⟩) := by
      refine i1.addL ⟨⟨h1.s, h1.z⟩, ⟨ha.1.s, ha.1.z⟩, fun e => ha.2 e.symm, by simp, by simp, ?_⟩ ?_ ?_
      · simp only [List.mem_singleton]; rintro n rfl; exact ⟨⟨one.1, P0, .inl rfl⟩, .inl rfl⟩
      · intro k' hk'; simp [h1.no hk', ha.1.no hk']
      · rintro e (rfl | rfl)
        · exact h1.c0
        · exact ha.1.c0
    have i3 := i2.addP (sec := one.1) h1.s (by simp [addP, addL]; omega)
    have e3 : pname (addL (addP st (pname st.turn st.pts.length, one.1)) ⟨one, a, [(pname st.turn st.pts.length, nT)]⟩).turn (addL (addP st (pname st.turn st.pts.length, one.1)) ⟨one, a, [(pname st.turn st.pts.length, nT)]⟩).pts.length = pname st.turn (st.pts.length + 1) := by simp [addP, addL]
    rw [e3] at i3
    have i4 := i3.addL (k := ⟨one, b, [(pname st.turn st.pts.length, rT), (pname st.turn (st.pts.length + 1), nT)]⟩) ⟨⟨h1.s, h1.z⟩, ⟨hb.1.s, hb.1.z⟩, fun e => hb.2 e.symm, by simp, by simp [PQ], by
      intro n hn
      simp only [List.mem_cons, List.not_mem_nil, or_false] at hn
      rcases hn with rfl | rfl
      · exact ⟨⟨one.1, by simp [addP, addL], .inl rfl⟩, .inr rfl⟩
      · exact ⟨⟨one.1, by simp [addP, addL], .inl rfl⟩, .inl rfl⟩⟩ (by
      intro k' hk'
      rcases List.mem_append.mp hk' with hk' | hk'
      · simp [h1.no hk', hb.1.no hk']
      · obtain rfl := List.mem_singleton.mp hk'
        exact fun _ => ap_1 (by decide)) (by
      rintro e (rfl | rfl)
      · exact h1.c1p
      · exact hb.1.c1p)
    have i5 := i4.addL (k := ⟨one, c, [(pname st.turn st.pts.length, rT), (pname st.turn (st.pts.length + 1), rT)]⟩) ⟨⟨h1.s, h1.z⟩, ⟨hcc.1.s, hcc.1.z⟩, fun e => hcc.2 e.symm, by simp, by simp [PQ], by
      intro n hn
      simp only [List.mem_cons, List.not_mem_nil, or_false] at hn
      rcases hn with rfl | rfl
      · exact ⟨⟨one.1, by simp [addP, addL], .inl rfl⟩, .inr rfl⟩
      · exact ⟨⟨one.1, by simp [addP, addL], .inl rfl⟩, .inr rfl⟩⟩ (by
      intro k' hk'
      rcases List.mem_append.mp hk' with hk' | hk'
      · rcases List.mem_append.mp hk' with hk' | hk'
        · simp [h1.no hk', hcc.1.no hk']
        · obtain rfl := List.mem_singleton.mp hk'
          exact fun _ => ap_1 (by decide)
      · obtain rfl := List.mem_singleton.mp hk'
        exact fun _ => ap_2 (y := rT) (by simp) PQ (by decide)) (by
      rintro e (rfl | rfl)
      · exact h1.c2
      · exact hcc.1.c2)
    refine ⟨i5, fun e he hu => ?_, ⟨rfl, rfl, rfl⟩, by simp [addL, addP]⟩
    simp only [List.mem_cons, List.not_mem_nil, or_false, not_or] at hu
    exact (((he.addP.addL hu.1 hu.2.1).addP).addL hu.1 hu.2.2.1).addL hu.1 hu.2.2.2
end Mn
end

section
set_option linter.all false
namespace Mn
theorem tri_lt : ∀ (a b : Tx), ¬ b < a → a ≠ b → a < b
  | [], [], _, h => absurd rfl h
  | [], y :: t, _, _ => List.nil_lt_cons ..
  | x :: r, [], h, _ => absurd (List.nil_lt_cons ..) h
  | x :: r, y :: t, h, hn => by
    rw [List.cons_lt_cons_iff] at h ⊢
    by_cases e : x = y
    · subst e
      exact .inr ⟨rfl, tri_lt r t (fun q => h (.inr ⟨rfl, q⟩)) fun q => hn (by rw [q])⟩
    · have : ¬ y < x := fun q => h (.inl q)
      exact .inl (by omega)
theorem nrm_sorted {ns : List (Tx × Tx)} (h : ns.length ≤ 2) (nd : (ns.map (·.1)).Nodup) : (nrm ns).Pairwise fun a b => a.1 < b.1 := by
  match ns, h with
  | [], _ => simp [nrm]
  | [a], _ => simp [nrm]
  | [a, b], _ =>
    simp only [nrm]
    split
    · simpa
    · rename_i q
      have : a.1 ≠ b.1 := by simpa using nd
      simpa using tri_lt _ _ q this
theorem nrm_look {ns : List (Tx × Tx)} (nd : (ns.map (·.1)).Nodup) (p : Tx) : lookT (nrm ns) p = lookT ns p := by
  unfold nrm
  split
  · rename_i a b
    split
    · have ne : a.1 ≠ b.1 := by simpa using nd
      simp only [lookT]
      by_cases e1 : a.1 = p
      · have : ¬ b.1 = p := fun q => ne (by rw [e1, q])
        simp [e1, this]
      · by_cases e2 : b.1 = p <;> simp [e1, e2]
    · rfl
  · rfl
theorem nrm_apart {old new : List (Tx × Tx)} (nd : (old.map (·.1)).Nodup) (h : Apart old new) : Apart (nrm old) (nrm new) := by
  obtain ⟨n, hn, h⟩ := h
  exact ⟨n, nrm_mem.mpr hn, by rw [nrm_look nd]; exact h⟩
structure SecOk (secs : List Tx) : Prop where
  ne : secs ≠ []
  len : secs.length ≤ 30
  ok : ∀ s ∈ secs, good s ∧ s.head? ≠ some 112 ∧ s.head? ≠ some 122
  nd : secs.Nodup
structure SgOk (st : St) : Prop where
  len : st.sgs.length ≤ 16
  ok : ∀ g ∈ st.sgs, (∃ x < 16, g.1 = 122 :: numT x) ∧ g.2.1 ∈ st.secs ∧ g.2.2 < 2
  nd : (st.sgs.map (·.1)).Nodup
  ends : (st.sgs.map (·.2)).Nodup
theorem dig_sign : ∀ d, d < 10 → 48 + d ∈ SIGNS := by decide
theorem numT_16 : ∀ x, x < 16 → (numT x).length ≤ 2 ∧ ∀ c ∈ numT x, c ∈ SIGNS := by decide
theorem numT_inj : ∀ x, x < 16 → ∀ y, y < 16 → numT x = numT y → x = y := by decide
theorem good_p {t i : Nat} : good (pname t i) := by
  rw [pname_len]
  refine ⟨by simp, by simp, ?_⟩
  intro c hc
  simp only [List.mem_cons, List.not_mem_nil, or_false] at hc
  rcases hc with rfl | rfl
  · decide
  · exact dig_sign _ (Nat.mod_lt _ (by omega))
theorem good_z {x : Nat} (h : x < 16) : good (122 :: numT x) := by
  obtain ⟨h1, h2⟩ := numT_16 x h
  refine ⟨by simp, by simp; omega, ?_⟩
  intro c hc
  rcases List.mem_cons.mp hc with rfl | hc
  · decide
  · exact h2 c hc
theorem pts_name {st : St} (h : InvL st) {p : Tx × Tx} (hp : p ∈ st.pts) : ∃ i, i < st.pts.length ∧ p.1 = pname st.turn i := by
  have : p.1 ∈ st.pts.map (·.1) := List.mem_map.mpr ⟨p, hp, rfl⟩
  rw [h.pk] at this
  obtain ⟨i, hi, e⟩ := List.mem_map.mp this
  exact ⟨i, List.mem_range.mp hi, e.symm⟩
theorem pts_nd {st : St} (h : InvL st) : (st.pts.map (·.1)).Nodup := by
  rw [h.pk, List.Nodup, List.pairwise_map]
  refine List.Pairwise.imp_of_mem ?_ (List.nodup_range (n := st.pts.length))
  intro a b ha hb ne e
  have ha := List.mem_range.mp ha
  have hb := List.mem_range.mp hb
  have := h.pl
  exact ne (pname_inj (by omega) (by omega) e)
theorem need_ok {st : St} {k : Lk} (h : LkR st k) : NeedOk st (nrmL k) :=
  ⟨by simp [nrmL, nrm_len]; exact h.len, nrm_sorted h.len h.nd, fun n hn => h.ok n (nrm_mem.mp hn)⟩
theorem valid_of {st : St} (h : InvL st) (s : SecOk st.secs) (hl : st.lks.length ≤ 60) (g : SgOk st) : Valid (nrmS st) where
  s0 := s.ne
  s1 := s.len
  s2 := fun x hx => (s.ok x hx).1
  s3 := s.nd
  p1 := by have := h.pl; simp [nrmS]; omega
  p2 := fun p hp => by
    obtain ⟨i, hi, e⟩ := pts_name h hp
    refine ⟨by rw [e]; exact good_p, h.pv p hp, fun q => ?_⟩
    have := (s.ok _ q).2.1
    rw [e] at this
    exact this rfl
  p3 := show (st.pts.map (·.1)).Nodup from pts_nd h
  l1 := by simpa [nrmS] using hl
  l2 := fun k hk => by
    obtain ⟨k0, hk0, rfl⟩ := List.mem_map.mp hk
    have := h.lk k0 hk0
    refine ⟨this.o1, this.o2, this.ne, ?_⟩
    have n := need_ok this
    exact ⟨n.len, n.srt, n.ok⟩
  l3 := by
    simp only [nrmS, List.pairwise_map]
    refine List.Pairwise.imp_of_mem ?_ h.ap
    intro a b ha hb q hs
    exact nrm_apart (h.lk a ha).nd (q hs)
  g1 := g.len
  g2 := fun x hx => by
    obtain ⟨⟨n, hn, e⟩, a2, a3⟩ := g.ok x hx
    refine ⟨by rw [e]; exact good_z hn, a2, a3, fun q => ?_, fun q => ?_⟩
    · have := (s.ok _ q).2.2
      rw [e] at this
      exact this rfl
    · obtain ⟨p, hp, ep⟩ := List.mem_map.mp q
      obtain ⟨i, hi, e2⟩ := pts_name h hp
      rw [e, e2, pname] at ep
      simp at ep
  g3 := g.nd
  g4 := g.ends
theorem sz_of {st : St} (h : InvL st) (s : SecOk st.secs) (hl : st.lks.length ≤ 60) (g : SgOk st) : Sz st where
  s1 := s.len
  s2 := fun x hx => (s.ok x hx).1.hi
  p1 := by have := h.pl; omega
  p2 := fun p hp => by
    obtain ⟨i, hi, e⟩ := pts_name h hp
    exact ⟨by rw [e]; exact good_p.hi, (s.ok _ (h.pv p hp)).1.hi⟩
  p3 := pts_nd h
  l1 := hl
  l2 := fun k hk => by
    have := h.lk k hk
    refine ⟨⟨(s.ok _ this.o1.1).1.hi, this.o1.2⟩, ⟨(s.ok _ this.o2.1).1.hi, this.o2.2⟩, ⟨this.len, this.nd, fun n hn => ?_⟩⟩
    obtain ⟨⟨sec, b1, _⟩, b2⟩ := this.ok n hn
    obtain ⟨i, hi, e⟩ := pts_name h b1
    refine ⟨by rw [show n.1 = _ from e]; exact good_p.hi, ?_⟩
    rcases b2 with e | e <;> rw [e] <;> decide
  g1 := g.len
  g2 := fun x hx => by
    obtain ⟨⟨n, hn, e⟩, a2, a3⟩ := g.ok x hx
    exact ⟨by rw [e]; exact (good_z hn).hi, (s.ok _ a2).1.hi, a3⟩
  g3 := g.nd
end Mn
end

section
set_option linter.all false
namespace Mn
/-! ### sorting -/
theorem tx_tri (a b : Tx) (h : ¬ a < b) (h2 : a ≠ b) : b < a := by
  have := List.not_lt.mp h
  exact Std.lt_of_le_of_ne this (Ne.symm h2)
theorem insT_mem {x z : Tx} : ∀ {l : List Tx}, z ∈ insT x l ↔ z = x ∨ z ∈ l
  | [] => by simp [insT]
  | y :: r => by
    unfold insT
    split
    · simp only [List.mem_cons, insT_mem]
      constructor <;> rintro (h | h | h) <;> simp [h]
    · simp
theorem sortT_mem {z : Tx} : ∀ {l : List Tx}, z ∈ sortT l ↔ z ∈ l
  | [] => by simp [sortT]
  | x :: r => by
    have := sortT_mem (z := z) (l := r)
    unfold sortT at *
    simp only [List.foldr_cons, insT_mem, this, List.mem_cons]
theorem insT_srt {x : Tx} : ∀ {l : List Tx}, l.Pairwise (fun a b => ¬ b < a) → (insT x l).Pairwise fun a b => ¬ b < a
  | [], _ => by simp [insT]
  | y :: r, h => by
    unfold insT
    have h1 := List.pairwise_cons.mp h
    split
    · rename_i hy
      refine List.pairwise_cons.mpr ⟨fun z hz => ?_, insT_srt h1.2⟩
      rcases insT_mem.mp hz with rfl | hz
      · exact fun q => absurd (List.lt_trans hy q) (List.lt_irrefl _)
      · exact h1.1 z hz
    · rename_i hy
      refine List.pairwise_cons.mpr ⟨fun z hz => ?_, h⟩
      rcases List.mem_cons.mp hz with rfl | hz
      · exact hy
      · intro q
        by_cases e : y = x
        · exact h1.1 z hz (by rw [e]; exact q)
        · exact h1.1 z hz (List.lt_trans q (tx_tri _ _ hy e))
theorem sortT_srt : ∀ (l : List Tx), (sortT l).Pairwise fun a b => ¬ b < a
  | [] => by simp [sortT]
  | x :: r => by
    have := sortT_srt r
    unfold sortT at *
    exact insT_srt this
theorem insT_pm {x : Tx} : ∀ {l : List Tx}, (insT x l).Perm (x :: l)
  | [] => .refl _
  | y :: r => by
    unfold insT
    split
    · exact (List.Perm.cons y insT_pm).trans (List.Perm.swap x y r)
    · exact .refl _
theorem sortT_pm : ∀ (l : List Tx), (sortT l).Perm l
  | [] => .refl _
  | x :: r => by
    have := sortT_pm r
    unfold sortT at *
    exact insT_pm.trans (.cons x this)
theorem sortT_len (l : List Tx) : (sortT l).length = l.length := (sortT_pm l).length_eq
/-- two sorted lists of the same things are the same -/
theorem srt_eq : ∀ {a b : List Tx}, a.Nodup → b.Nodup → (∀ x, x ∈ a ↔ x ∈ b) → a.Pairwise (fun a b => ¬ b < a) → b.Pairwise (fun a b => ¬ b < a) → a = b
  | [], b, _, _, h, _, _ => by
    cases b with
    | nil => rfl
    | cons y r => exact absurd ((h y).mpr (by simp)) (by simp)
  | x :: r, [], _, _, h, _, _ => absurd ((h x).mp (by simp)) (by simp)
  | x :: r, y :: t, na, nb, h, sa, sb => by
    have a1 := List.pairwise_cons.mp sa
    have b1 := List.pairwise_cons.mp sb
    have na1 := List.nodup_cons.mp na
    have nb1 := List.nodup_cons.mp nb
    have e : x = y := by
      rcases List.mem_cons.mp ((h x).mp (by simp)) with e | hx
      · exact e
      · rcases List.mem_cons.mp ((h y).mpr (by simp)) with e | hy
        · exact e.symm
        · by_cases q : x = y
          · exact q
          · exact absurd (tx_tri _ _ (b1.1 x hx) q) (a1.1 y hy)
    subst e
    rw [srt_eq na1.2 nb1.2 (fun z => ?_) a1.2 b1.2]
    constructor
    · intro hz
      rcases List.mem_cons.mp ((h z).mp (by simp [hz])) with rfl | q
      · exact absurd hz na1.1
      · exact q
    · intro hz
      rcases List.mem_cons.mp ((h z).mpr (by simp [hz])) with rfl | q
      · exact absurd hz nb1.1
      · exact q
theorem sortT_congr {a b : List Tx} (na : a.Nodup) (nb : b.Nodup) (h : ∀ x, x ∈ a ↔ x ∈ b) : sortT a = sortT b :=
  srt_eq ((sortT_pm a).nodup_iff.mpr na) ((sortT_pm b).nodup_iff.mpr nb) (fun x => by rw [sortT_mem, sortT_mem, h]) (sortT_srt a) (sortT_srt b)
/-! ### wants, sorted -/
def nsort (ns : List (Tx × Tx)) : List (Tx × Tx) := (sortT (ns.map (·.1))).map fun p => (p, (lookT ns p).getD [])
def tD (p : Tx × Tx) : D := .tup [.str p.1, .str p.2]
abbrev Tw := Option Tx × List Tx × List (Tx × Tx)
def twOf (w : Wy) : Tw := (w.tg, w.ss, nsort w.ns)
def toldD (sg : Tx) (t : Tw) : D := .tup [.str sg, oT t.1, .tup (t.2.1.map .str), .tup (t.2.2.map tD)]
theorem look_none {ns : List (Tx × Tx)} {p : Tx} : lookT ns p = none ↔ p ∉ ns.map (·.1) := by
  induction ns with
  | nil => simp [lookT]
  | cons x r ih =>
    simp only [lookT, List.map_cons, List.mem_cons, not_or]
    split
    · rename_i h; simp [h]
    · rename_i h; rw [ih]; exact ⟨fun q => ⟨fun e => h e.symm, q⟩, fun q => q.2⟩
theorem look_mem {ns : List (Tx × Tx)} {p : Tx} (h : p ∈ ns.map (·.1)) : ∃ v, lookT ns p = some v := by
  cases e : lookT ns p with
  | none => exact absurd h (look_none.mp e)
  | some v => exact ⟨v, rfl⟩
/-- the same wants -/
def NsEq (a b : List (Tx × Tx)) : Prop := (a.map (·.1)).Nodup ∧ (b.map (·.1)).Nodup ∧ ∀ p, lookT a p = lookT b p
theorem NsEq.keys {a b : List (Tx × Tx)} (h : NsEq a b) (p : Tx) : p ∈ a.map (·.1) ↔ p ∈ b.map (·.1) := by
  have e := h.2.2 p
  constructor
  · intro q; refine Decidable.byContradiction fun n => ?_
    rw [look_none.mpr n] at e; exact look_none.mp e q
  · intro q; refine Decidable.byContradiction fun n => ?_
    rw [look_none.mpr n] at e; exact look_none.mp e.symm q
theorem NsEq.sort {a b : List (Tx × Tx)} (h : NsEq a b) : nsort a = nsort b := by
  unfold nsort
  rw [sortT_congr h.1 h.2.1 h.keys]
  exact List.map_congr_left fun p _ => by rw [h.2.2 p]
theorem NsEq.refl {a : List (Tx × Tx)} (h : (a.map (·.1)).Nodup) : NsEq a a := ⟨h, h, fun _ => rfl⟩
theorem look_app {p : Tx} {b : List (Tx × Tx)} : ∀ {a : List (Tx × Tx)}, lookT (a ++ b) p = (lookT a p).or (lookT b p)
  | [] => rfl
  | x :: r => by simp only [List.cons_append, lookT]; split <;> simp [look_app]
theorem look_map {q v p : Tx} : ∀ {ns : List (Tx × Tx)}, lookT (ns.map fun x => if x.1 = q then (x.1, v) else x) p = if p = q ∧ p ∈ ns.map (·.1) then some v else lookT ns p
  | [] => by simp [lookT]
  | x :: r => by
    have ih := look_map (q := q) (v := v) (p := p) (ns := r)
    simp only [List.map_cons, lookT, List.mem_cons]
    by_cases hq : x.1 = q
    · by_cases hp : x.1 = p
      · have e : p = q := by rw [← hp, hq]
        simp [hq, e]
      · have e : ¬ p = q := fun z => hp (by rw [hq, z])
        have e' : ¬ q = p := fun z => e z.symm
        rw [if_pos hq, if_neg hp, ih]; simp [e, e', hq]
    · by_cases hp : x.1 = p
      · have e : ¬ p = q := fun z => hq (by rw [hp, z])
        simp [hq, hp, e]
      · have e : ¬ p = x.1 := fun z => hp z.symm
        rw [if_neg hq]
        show (if x.1 = p then _ else _) = _
        rw [if_neg hp, ih, if_neg hp]; simp only [e, false_or]
theorem look_put {ns : List (Tx × Tx)} {p : Tx × Tx} {q : Tx} : lookT (putT ns p) q = if q = p.1 then some p.2 else lookT ns q := by
  unfold putT
  have e : (ns.any fun q => decide (q.1 = p.1)) = decide (p.1 ∈ ns.map (·.1)) := by
    rw [Bool.eq_iff_iff]; simp
  rw [e]
  by_cases h : p.1 ∈ ns.map (·.1)
  · rw [if_pos (decide_eq_true h), look_map]
    by_cases hq : q = p.1
    · subst hq; rw [if_pos ⟨rfl, h⟩, if_pos rfl]
    · rw [if_neg (fun z => hq z.1), if_neg hq]
  · rw [if_neg (by simpa using h), look_app]
    by_cases hq : q = p.1
    · subst hq; rw [look_none.mpr h, if_pos rfl]; simp [lookT]
    · have : ¬ p.1 = q := fun z => hq z.symm
      rw [if_neg hq]; simp [lookT, this]
theorem look_merge {q : Tx} : ∀ {ws ns : List (Tx × Tx)}, (ws.map (·.1)).Nodup → lookT (merge ns ws) q = (lookT ws q).or (lookT ns q)
  | [], ns, _ => rfl
  | w :: ws, ns, h => by
    have h1 := List.nodup_cons.mp h
    show lookT (merge (putT ns w) ws) q = _
    rw [look_merge h1.2, look_put]
    simp only [lookT]
    by_cases e : w.1 = q
    · subst e
      rw [if_pos rfl, if_pos rfl, look_none.mpr h1.1]; rfl
    · rw [if_neg e, if_neg (fun z => e z.symm)]
theorem NsEq.merge {a b c d : List (Tx × Tx)} (h : NsEq a b) (k : NsEq c d) : NsEq (merge a c) (merge b d) :=
  ⟨merge_nd h.1, merge_nd h.2.1, fun p => by rw [look_merge k.1, look_merge k.2.1, h.2.2, k.2.2]⟩
theorem agrees_iff {ns ws : List (Tx × Tx)} (h : (ws.map (·.1)).Nodup) : agrees ns ws = true ↔ ∀ p v, lookT ws p = some v → (lookT ns p).getD v = v := by
  unfold agrees
  rw [List.all_eq_true]
  constructor
  · intro k p v e
    have : ∀ {ws : List (Tx × Tx)}, lookT ws p = some v → (p, v) ∈ ws := by
      intro ws
      induction ws with
      | nil => simp [lookT]
      | cons x r ih =>
        simp only [lookT]
        split
        · rename_i hx; intro z; cases z; subst hx; simp
        · intro z; exact List.mem_cons_of_mem _ (ih z)
    simpa using k _ (this e)
  · intro k w hw
    have : ∀ {ws : List (Tx × Tx)}, (ws.map (·.1)).Nodup → w ∈ ws → lookT ws w.1 = some w.2 := by
      intro ws
      induction ws with
      | nil => simp
      | cons x r ih =>
        intro hn hm
        have hn := List.nodup_cons.mp hn
        simp only [lookT]
        rcases List.mem_cons.mp hm with rfl | hm
        · simp
        · rw [if_neg (fun e => hn.1 (List.mem_map.mpr ⟨w, hm, e.symm⟩))]
          exact ih hn.2 hm
    simpa using k w.1 w.2 (this h hw)
theorem NsEq.agrees {a b c d : List (Tx × Tx)} (h : NsEq a b) (k : NsEq c d) : agrees a c = agrees b d := by
  rw [Bool.eq_iff_iff, agrees_iff k.1, agrees_iff k.2.1]
  constructor
  · intro q p v e; rw [← h.2.2]; exact q p v (by rw [k.2.2]; exact e)
  · intro q p v e; rw [h.2.2]; exact q p v (by rw [← k.2.2]; exact e)
theorem nrm_eq {ns : List (Tx × Tx)} (h : (ns.map (·.1)).Nodup) : NsEq ns (nrm ns) := by
  refine ⟨h, ?_, fun p => (nrm_look h p).symm⟩
  unfold nrm
  split
  · split
    · simp only [List.map_cons, List.map_nil] at h ⊢
      simp at h ⊢; exact fun e => h e.symm
    · exact h
  · exact h
end Mn
end

section
set_option linter.all false
namespace Mn
theorem flatMap_congr' {α β : Type} {l : List α} {f g : α → List β} (h : ∀ x ∈ l, f x = g x) : l.flatMap f = l.flatMap g := by
  rw [List.flatMap_def, List.flatMap_def, List.map_congr_left h]
theorem shares_nrm {e : Ed} {k : Lk} : shares e (nrmL k) = shares e k := rfl
theorem far_nrm {e : Ed} {k : Lk} : far (nrmL k) e = far k e := rfl
theorem filter_nrm {lks : List Lk} {e : Ed} : (lks.map nrmL).filter (shares e) = (lks.filter (shares e)).map nrmL := by
  rw [List.filter_map]; rfl
theorem wys_tw {lks : List Lk} {sgs : List (Tx × Ed)} {b : Tx} (hk : ∀ k ∈ lks, (k.needs.map (·.1)).Nodup) : ∀ (n : Nat) (e : Ed) (ss : List Tx) (ns ns' : List (Tx × Tx)), NsEq ns ns' →
    (wys lks sgs b n e ss ns).map twOf = (wys (lks.map nrmL) sgs b n e ss ns').map twOf
  | 0, _, _, _, _, _ => rfl
  | n + 1, e, ss, ns, ns', h => by
    rw [wys_succ, wys_succ, filter_nrm, List.map_flatMap, List.map_flatMap, List.flatMap_map]
    refine flatMap_congr' fun k hkk => ?_
    have hm := (List.mem_filter.mp hkk).1
    have nq := nrm_eq (hk k hm)
    have ag : agrees ns' (nrmL k).needs = agrees ns k.needs := ((h.agrees nq).symm : _)
    unfold wyS
    simp only [far_nrm, ag, filter_nrm, List.map_eq_nil_iff]
    split
    · split
      · simp only [List.map_cons, List.map_nil, twOf]
        rw [(h.merge nq).sort]; rfl
      · exact wys_tw hk n _ _ _ _ (h.merge nq)
    · rfl
/-- all routes, as they are told -/
def twsOf (st : St) : List (Tx × Tw) := (rtsOf st).map fun x => (x.1, twOf x.2)
theorem tws_eq {st : St} : twsOf st = st.sgs.flatMap fun g => ((wys st.lks st.sgs g.2.1 32 g.2 [] []).map twOf).map fun t => (g.1, t) := by
  unfold twsOf rtsOf
  rw [List.map_flatMap]
  refine flatMap_congr' fun g _ => ?_
  rw [List.map_map, List.map_map]; rfl
theorem tws_nrm {st : St} (hk : ∀ k ∈ st.lks, (k.needs.map (·.1)).Nodup) : twsOf (nrmS st) = twsOf st := by
  rw [tws_eq, tws_eq]
  refine flatMap_congr' fun g _ => ?_
  rw [wys_tw hk 32 g.2 [] [] [] (NsEq.refl (by simp))]; rfl
theorem tws_len {st : St} : (twsOf st).length = (rtsOf st).length := by simp [twsOf]
/-! what a way is like -/
structure WyOk (P S : List Tx) (w : Wy) : Prop where
  nd : (w.ns.map (·.1)).Nodup
  sub : ∀ p ∈ w.ns.map (·.1), p ∈ P
  ss : w.ss.Nodup
  sub2 : ∀ s ∈ w.ss, s ∈ S
theorem merge_keys {p : Tx} : ∀ {ws ns : List (Tx × Tx)}, p ∈ (merge ns ws).map (·.1) → p ∈ ws.map (·.1) ∨ p ∈ ns.map (·.1)
  | [], ns, h => .inr h
  | w :: ws, ns, h => by
    rcases merge_keys (ws := ws) (ns := putT ns w) h with h | h
    · exact .inl (List.mem_cons_of_mem _ h)
    · rw [putT_keys] at h
      split at h
      · exact .inr h
      · rcases List.mem_append.mp h with h | h
        · exact .inr h
        · simp at h; exact .inl (by simp [h])
theorem wys_ok {lks : List Lk} {sgs : List (Tx × Ed)} {b : Tx} {P S : List Tx} (hk : ∀ k ∈ lks, (∀ p ∈ k.needs.map (·.1), p ∈ P) ∧ k.one.1 ∈ S ∧ k.other.1 ∈ S) : ∀ (n : Nat) (e : Ed) (ss : List Tx) (ns : List (Tx × Tx)), (ns.map (·.1)).Nodup → (∀ p ∈ ns.map (·.1), p ∈ P) → ss.Nodup → (∀ s ∈ ss, s ∈ S) →
    ∀ w ∈ wys lks sgs b n e ss ns, WyOk P S w
  | 0, _, _, _, _, _, _, _, w, h => by simp [wys] at h
  | n + 1, e, ss, ns, h1, h2, h3, h4, w, h => by
    rw [wys_succ] at h
    obtain ⟨k, hkk, hw⟩ := List.mem_flatMap.mp h
    obtain ⟨k1, k2, k3⟩ := hk k (List.mem_filter.mp hkk).1
    unfold wyS at hw
    split at hw
    · rename_i hc
      have n1 : (merge ns k.needs).map (·.1) |>.Nodup := merge_nd h1
      have n2 : ∀ p ∈ (merge ns k.needs).map (·.1), p ∈ P := fun p hp => (merge_keys hp).elim (k1 p) (h2 p)
      have n3 : (ss ++ [(far k e).1]).Nodup := List.nodup_append.mpr ⟨h3, by simp, by simpa using fun a ha q => hc.2.1 (by rw [← q]; exact ha)⟩
      have n4 : ∀ s ∈ ss ++ [(far k e).1], s ∈ S := fun s hs => by
        rcases List.mem_append.mp hs with q | q
        · exact h4 s q
        · obtain rfl := List.mem_singleton.mp q
          unfold far; split
          · exact k3
          · exact k2
      split at hw
      · obtain rfl := List.mem_singleton.mp hw
        exact ⟨n1, n2, n3, n4⟩
      · exact wys_ok hk n _ _ _ n1 n2 n3 n4 w hw
    · simp at hw
theorem wys_len {lks : List Lk} {sgs : List (Tx × Ed)} {b : Tx} {S : List Tx} {Dg : Nat} (hd : ∀ e, (lks.filter (shares e)).length ≤ Dg) (h1 : 1 ≤ Dg) (hk : ∀ k ∈ lks, k.one.1 ∈ S ∧ k.other.1 ∈ S) : ∀ (n : Nat) (e : Ed) (ss : List Tx) (ns : List (Tx × Tx)), ss.Nodup → (∀ s ∈ ss, s ∈ S) →
    (wys lks sgs b n e ss ns).length ≤ Dg ^ (S.length - ss.length)
  | 0, _, _, _, _, _ => by simp [wys]
  | n + 1, e, ss, ns, h3, h4 => by
    rw [wys_succ]
    -- each link brings at most Dg ^ (rest - 1)
    have sl := nodup_le h3 h4
    by_cases hS : S.length = ss.length
    · -- no section is left
      have : (lks.filter (shares e)).flatMap (wyS lks sgs b (wys lks sgs b n) e ss ns) = [] := by
        refine List.flatMap_eq_nil_iff.mpr fun k hk' => ?_
        unfold wyS
        rw [if_neg]
        intro hc
        have hf : (far k e).1 ∈ S := by
          have := hk k (List.mem_filter.mp hk').1
          unfold far; split
          · exact this.2
          · exact this.1
        have := nodup_le (a := ss ++ [(far k e).1]) (b := S) (List.nodup_append.mpr ⟨h3, by simp, by simpa using fun a ha q => hc.2.1 (by rw [← q]; exact ha)⟩) (fun s hs => by
          rcases List.mem_append.mp hs with q | q
          · exact h4 s q
          · obtain rfl := List.mem_singleton.mp q; exact hf)
        simp at this; omega
      rw [this]; simp
    · obtain ⟨j, hj⟩ : ∃ j, S.length - ss.length = j + 1 := ⟨S.length - ss.length - 1, by omega⟩
      have step : ∀ k ∈ lks.filter (shares e), (wyS lks sgs b (wys lks sgs b n) e ss ns k).length ≤ Dg ^ j := by
        intro k hk'
        unfold wyS
        split
        · rename_i hc
          have hf : (far k e).1 ∈ S := by
            have := hk k (List.mem_filter.mp hk').1
            unfold far; split
            · exact this.2
            · exact this.1
          split
          · simp only [List.length_cons, List.length_nil]; exact Nat.one_le_iff_ne_zero.mpr (Nat.ne_of_gt (Nat.pow_pos (by omega)))
          · have := wys_len (sgs := sgs) (b := b) hd h1 hk n ((far k e).1, 1 - (far k e).2) (ss ++ [(far k e).1]) (merge ns k.needs) (List.nodup_append.mpr ⟨h3, by simp, by simpa using fun a ha q => hc.2.1 (by rw [← q]; exact ha)⟩) (fun s hs => by
              rcases List.mem_append.mp hs with q | q
              · exact h4 s q
              · obtain rfl := List.mem_singleton.mp q; exact hf)
            have e1 : S.length - (ss ++ [(far k e).1]).length = j := by simp; omega
            rw [e1] at this; exact this
        · simp
      rw [hj, Nat.pow_succ, List.length_flatMap]
      have sum : ∀ (l : List Lk), (∀ k ∈ l, (wyS lks sgs b (wys lks sgs b n) e ss ns k).length ≤ Dg ^ j) → (l.map fun k => (wyS lks sgs b (wys lks sgs b n) e ss ns k).length).sum ≤ l.length * Dg ^ j := by
        intro l
        induction l with
        | nil => intro _; simp
        | cons k r ih =>
          intro hh
          have a1 := hh k (by simp)
          have a2 := ih fun z hz => hh z (by simp [hz])
          simp only [List.map_cons, List.sum_cons, List.length_cons, Nat.add_mul]; omega
      refine Nat.le_trans (sum _ step) ?_
      rw [Nat.mul_comm]
      exact Nat.mul_le_mul_left _ (hd e)
/-! ### Route.told -/
section
variable {m m' : M} {sg : Tx} {x : RtP}
def lsOb (o : Option O) (m : M) : R D := match o with
  | some (.lst xs) => .ok (.ref m.length) (m ++ [.lst xs])
  | some (.dct false kvs) => .ok (.ref m.length) (m ++ [.lst (keysOf kvs)])
  | _ => .bad
@[simp] theorem pList_ref {a m} : pList (.ref a) m = lsOb m[a]? m := nr rfl
@[simp] theorem lsOb_lst {xs m} : lsOb (some (.lst xs)) m = .ok (.ref m.length) (m ++ [.lst xs]) := nr rfl
@[simp] theorem lsOb_dct {kvs m} : lsOb (some (.dct false kvs)) m = .ok (.ref m.length) (m ++ [.lst (keysOf kvs)]) := nr rfl
theorem pSorted_str {ss : List Tx} {x : D} {m : M} (hl : ss.length < 64) (h : itemsOf x m = some (ss.map .str)) : pSorted x m = .ok (.ref m.length) (m ++ [.lst ((sortT ss).map .str)]) := by
  simp [pSorted, h, hl, allStr_str]
def tpOb (o : Option O) (m : M) : R D := match o with
  | some (.lst xs) => .ok (.tup xs) m
  | _ => .bad
@[simp] theorem pTuple_ref {a m} : pTuple (.ref a) m = tpOb m[a]? m := nr rfl
@[simp] theorem tpOb_lst {xs m} : tpOb (some (.lst xs)) m = .ok (.tup xs) m := nr rfl
theorem told_ok (h : RtAt m sg x) (nd : (x.1.ns.map (·.1)).Nodup) (hl : x.1.ns.length < 64) : ∃ m', m_Route_told [.ref x.2.1] m = .ok (toldD sg (twOf x.1)) m' ∧ Up [] m m' := by
  obtain ⟨h1, h2, h3⟩ := h
  obtain ⟨mA, hA⟩ : ∃ mA, mA = m ++ [O.lst (x.1.ns.map fun p => .str p.1)] := ⟨_, rfl⟩
  have ko : keysOf (x.1.ns.map tKv) = x.1.ns.map fun p => .str p.1 := keysOf_t
  have gA : mA[m.length]? = some (.lst (x.1.ns.map fun p => .str p.1)) := by rw [hA]; exact get_new
  have so : pSorted (.ref m.length) mA = .ok (.ref mA.length) (mA ++ [.lst ((sortT (x.1.ns.map (·.1))).map .str)]) :=
    pSorted_str (by simpa using hl) (by simp [itemsOf, gA])
  obtain ⟨mB, hB⟩ : ∃ mB, mB = mA ++ [O.lst ((sortT (x.1.ns.map (·.1))).map .str)] := ⟨_, rfl⟩
  rw [← hB] at so
  have uB : Up [] m mB := by rw [hB, hA]; exact Up.app.then Up.app
  have gB : mB[mA.length]? = some (.lst ((sortT (x.1.ns.map (·.1))).map .str)) := by rw [hB]; exact get_new
  have nB := uB.get _ _ h3 nofun
  have oB := uB.get _ _ h1 nofun
  have lc := lc_map (i := 2) (ρ := [some (.ref x.2.1), none, none]) (it := iList (eUn pSorted (eUn pList (eFld cs_needs 2 (eV 0))))) (e := eTup (aCons (eV 2) (aCons (eOp pIx (eFld cs_needs 2 (eV 0)) (eV 2)) aNil))) (m0 := m) (m := mB)
    (chk := fun M => isObj M mA.length (.lst ((sortT (x.1.ns.map (·.1))).map .str))) (fun p => .str p) (fun p => tD (p, (lookT x.1.ns p).getD [])) (sortT (x.1.ns.map (·.1)))
    (by simp [h1, h3, ko, ← hA, so, gB]) (isObj_ok gB) (by rw [sortT_len]; simp; omega) (by
      intro p hp
      obtain ⟨v, hv⟩ := look_mem (sortT_mem.mp hp)
      simp [oB, nB, getKv_look, hv, tD])
  obtain ⟨mC, hC⟩ : ∃ mC, mC = mB ++ [O.lst ((sortT (x.1.ns.map (·.1))).map fun p => tD (p, (lookT x.1.ns p).getD []))] := ⟨_, rfl⟩
  rw [← hC] at lc
  have gC : mC[mB.length]? = some (.lst ((sortT (x.1.ns.map (·.1))).map fun p => tD (p, (lookT x.1.ns p).getD []))) := by rw [hC]; exact get_new
  have uC : Up [] m mC := by rw [hC]; exact uB.then Up.app
  have oC := uC.get _ _ h1 nofun
  have sC := uC.get _ _ h2 nofun
  refine ⟨mC, ?_, uC⟩
  simp [m_Route_told, m_Route_told_body, lc, gC, oC, sC, toldD, twOf, nsort, Function.comp_def]
end
end Mn
end

section
set_option linter.all false
namespace Mn
/-! ### the law's own search -/
section
variable {m m' : M} {d s p l g : Nat} {lk : Bool} {xs : List (Lk × Nat)} {st : St}
theorem StL.up (h : StL m d s p l g lk xs st) (u : Up [] m m') : StL m' d s p l g lk xs st :=
  ⟨u.get _ _ h.hd nofun, u.get _ _ h.hs nofun, u.get _ _ h.hp nofun, h.hx, u.get _ _ h.hl nofun, fun x hx => u.get _ _ (h.hk x hx) nofun, u.get _ _ h.hg nofun, h.ne⟩
/-- what lies higher is none of its -/
theorem StL.upS (h : StL m d s p l g lk xs st) {S : List Nat} (u : Up S m m') {lo : Nat} (hlo : ∀ i ∈ S, lo ≤ i) (hl : d < lo ∧ s < lo ∧ p < lo ∧ l < lo ∧ g < lo ∧ ∀ x ∈ xs, x.2 < lo) : StL m' d s p l g lk xs st := by
  have nn : ∀ i, i < lo → i ∉ S := fun i hi z => by have := hlo i z; omega
  exact ⟨u.get _ _ h.hd (nn _ hl.1), u.get _ _ h.hs (nn _ hl.2.1), u.get _ _ h.hp (nn _ hl.2.2.1), h.hx, u.get _ _ h.hl (nn _ hl.2.2.2.1), fun x hx => u.get _ _ (h.hk x hx) (nn _ (hl.2.2.2.2.2 x hx)), u.get _ _ h.hg (nn _ hl.2.2.2.2.1), h.ne⟩
theorem StL.low (h : StL m d s p l g lk xs st) : d < m.length ∧ s < m.length ∧ p < m.length ∧ l < m.length ∧ g < m.length ∧ ∀ x ∈ xs, x.2 < m.length :=
  ⟨get_lt h.hd, get_lt h.hs, get_lt h.hp, get_lt h.hl, get_lt h.hg, fun x hx => get_lt (h.hk x hx)⟩
theorem StL.lock (h : StL m d s p l g lk xs st) (lk' : Bool) : StL (m.set g (.dct lk' (st.sgs.map eKv))) d s p l g lk' xs st := by
  have nm : ∀ {i o}, m[i]? = some o → g ≠ i → (m.set g (.dct lk' (st.sgs.map eKv)))[i]? = some o := fun hi ne => by rw [get_set_ne ne]; exact hi
  obtain ⟨n1, n2, n3, n4, n5⟩ := h.ne
  exact ⟨nm h.hd n1, nm h.hs n3, nm h.hp n2, h.hx, nm h.hl n4, fun x hx => nm (h.hk x hx) (Ne.symm (n5 x hx)), get_set_self h.hg, h.ne⟩
theorem sgAt_head {sgs : List (Tx × Ed)} {e : Ed} : sgAt sgs e = ((sgs.filter fun x => decide (x.2 = e)).map (·.1)).head? := by
  unfold sgAt
  induction sgs with
  | nil => rfl
  | cons x r ih =>
    by_cases h : x.2 = e
    · simp [h]
    · simp only [List.find?_cons, List.filter_cons, h, decide_false, Bool.false_eq_true, if_false]; exact ih
theorem law_signal_ok {e : Ed} (h : StL m d s p l g lk xs st) (nd : (st.sgs.map (·.1)).Nodup) (hl : st.sgs.length ≤ 1000) :
    m_law_signal_at [.ref d, edD e] m = .ok (oT (sgAt st.sgs e)) (m ++ [.lst (((st.sgs.filter fun x => decide (x.2 = e)).map (·.1)).map .str), .lst []]) := by
  have k := h.lock true
  have back : ∀ l', (m.set g (.dct true (st.sgs.map eKv)) ++ l').set g (.dct lk (st.sgs.map eKv)) = m ++ l' := fun l' => unlock_app h.hg
  obtain ⟨ml, hml⟩ : ∃ ml, ml = m.set g (.dct true (st.sgs.map eKv)) := ⟨_, rfl⟩
  rw [← hml] at k back
  have p1 := lc_pure (i := 3) (ρ := [some (.ref d), some (edD e), none, none]) (it := iKeys (eOp pIx (eV 0) (eC (.str [115, 105, 103, 110, 97, 108, 115])))) (chk := fun M => isObj M g (.dct true (st.sgs.map eKv)))
    (t := tV (eOp pEq (eOp pIx (eOp pIx (eV 0) (eC (.str [115, 105, 103, 110, 97, 108, 115]))) (eV 3)) (eV 1))) (e := eV 3) (m0 := ml) (m := ml)
    (fun x => .str x.1) (fun x => decide (x.2 = e)) (fun x => .str x.1) st.sgs (by simp [k.hd, k.hg]; exact keysOf_t) (isObj_ok k.hg) hl
    (by
      intro x hx
      have g1 : getKv (st.sgs.map eKv) (.inr x.1) = some (edD x.2) := getKv_e nd hx
      simp [k.hd, k.hg, g1, eqO_eds]) (by intro x _ _; simp)
  obtain ⟨fl, hfl⟩ : ∃ fl, fl = (st.sgs.filter fun x => decide (x.2 = e)).map (·.1) := ⟨_, rfl⟩
  have e1 : ((st.sgs.filter fun x => decide (x.2 = e)).map fun x => D.str x.1) = fl.map D.str := by rw [hfl, List.map_map]; rfl
  rw [e1] at p1
  have sh : sgAt st.sgs e = fl.head? := by rw [hfl]; exact sgAt_head
  rw [← hfl, sh]
  have hlen : ml.length = m.length := by rw [hml]; simp
  rw [hlen] at p1
  have as : (sAsg (gV 2) (eLc 3 (iKeys (eOp pIx (eV 0) (eC (.str [115, 105, 103, 110, 97, 108, 115])))) (tV (eOp pEq (eOp pIx (eOp pIx (eV 0) (eC (.str [115, 105, 103, 110, 97, 108, 115]))) (eV 3)) (eV 1))) (eV 3))) [some (.ref d), some (edD e), none, none] (m.set g (.dct true (st.sgs.map eKv))) =
      .nx [some (.ref d), some (edD e), some (.ref m.length), none] (ml ++ [.lst (fl.map .str)]) := by
    rw [← hml, sAsg_eq, p1]; rfl
  have lkk := slock_nx (e := eOp pIx (eV 0) (eC (.str [115, 105, 103, 110, 97, 108, 115]))) (m' := m) (by simp [h.hd]) h.hg as (get_app k.hg _)
  rw [back] at lkk
  have eq1 : eqO (m ++ [.lst (fl.map .str), .lst []]) (.ref m.length) (.ref (m.length + 1)) = some (decide (fl = [])) := eqO_nil_s (by simp) (by simp)
  cases fl with
  | nil => simp [-sAsg_eq, m_law_signal_at, m_law_signal_at_body, mkFn_eq, lkk] ; simp at eq1; simp [eq1, oT]
  | cons z r => simp [-sAsg_eq, m_law_signal_at, m_law_signal_at_body, mkFn_eq, lkk]; simp at eq1; simp [eq1, oT]
end
end Mn
end

section
set_option linter.all false
namespace Mn
def lnkT : Tx := [108, 105, 110, 107, 115]
def lwC : MS := (sLock (eV 8) (sAsg (gV 11) (eLc 12 (iKeys (eV 8)) (tV (eOp pNe (eGet2 (eV 4) (eV 12) (eOp pIx (eV 8) (eV 12))) (eOp pIx (eV 8) (eV 12)))) (eV 12))))
def lwF : MS := (sLock (eV 8) (sFor (gV 12) (iKeys (eV 8)) (sSetIx (eV 13) (eV 12) (eOp pIx (eV 8) (eV 12)))))
def lwT : MT := (tOr (tV (eUn pNotN (eV 15))) (tV (eOp pEq (eLc 16 (iList (eOp pIx (eV 0) (eC (.str [108, 105, 110, 107, 115])))) (tV (eOp pIn (eV 14) (eSl (eV 16) oNone (oSome (eC (.int 2)))))) (eC (.int 1))) (eLst aNil))))
def lwY : MS := (sExp (eM1 0 pAppend (eV 5) (eTup (aCons (eV 15) (aCons (eOp pAdd (eV 3) (eLst (aCons (eV 9) aNil))) (aCons (eV 13) aNil))))))
def lwN (r : MF) : MS := (sAsg (gV 5) (eOp pAdd (eV 5) (eFn r (aCons (eV 0) (aCons (eV 1) (aCons (eV 14) (aCons (eOp pAdd (eV 3) (eLst (aCons (eV 9) aNil))) (aCons (eV 13) aNil))))))))
def lwD : MS := (sIf (tOr (tV (eOp pEq (eV 9) (eV 1))) (tOr (tV (eOp pIn (eV 9) (eV 3))) (tV (eOp pNe (eV 11) (eLst aNil))))) sCont sPass)
def lwBody (r : MF) : MS := (sSeq (sIf (tV (eOp pNotIn (eV 2) (eTup (aCons (eV 6) (aCons (eV 7) aNil))))) sCont sPass)
    (sSeq (sAsg (gTup [(gV 9), (gV 10)]) (eIf (tV (eOp pEq (eV 2) (eV 7))) (eV 6) (eV 7)))
    (sSeq lwC
    (sSeq lwD
    (sSeq (sAsg (gV 13) (eUn pDict (eV 4)))
    (sSeq lwF
    (sSeq (sAsg (gV 14) (eTup (aCons (eV 9) (aCons (eOp pSub (eC (.int 1)) (eV 10)) aNil))))
    (sSeq (sAsg (gV 15) (eFn m_law_signal_at (aCons (eV 0) (aCons (eV 14) aNil))))
    (sIf lwT lwY (lwN r))))))))))
/-- the names -/
def lwR (d : Nat) (b : Tx) (e : Ed) (qs qn q : Nat) (y6 y7 y8 y9 y10 y11 y12 y13 y14 y15 y16 : Option D) : Fr := [some (.ref d), some (.str b), some (edD e), some (.ref qs), some (.ref qn), some (.ref q), y6, y7, y8, y9, y10, y11, y12, y13, y14, y15, y16]
section
variable {m m' : M} {d s p l g : Nat} {lk : Bool} {xs : List (Lk × Nat)} {st : St} {b : Tx} {e : Ed} {qs qn q : Nat} {y6 y7 y9 y10 y11 y12 y13 y14 y15 y16 : Option D} {ns ws : List (Tx × Tx)} {n : Nat}
def apL (ns ws : List (Tx × Tx)) : List Tx := (ws.filter fun w => !decide ((lookT ns w.1).getD w.2 = w.2)).map (·.1)
theorem apL_nil : apL ns ws = [] ↔ agrees ns ws = true := by
  unfold apL agrees
  rw [List.map_eq_nil_iff, List.filter_eq_nil_iff, List.all_eq_true]
  simp
theorem lwC_ok (hn : m[qn]? = some (.dct false (ns.map tKv))) (hw : m[n]? = some (.dct false (ws.map tKv))) (ne : n ≠ qn) (nd : (ws.map (·.1)).Nodup) (hl : ws.length ≤ 1000) :
    lwC (lwR d b e qs qn q y6 y7 (some (.ref n)) y9 y10 y11 y12 y13 y14 y15 y16) m = .nx (lwR d b e qs qn q y6 y7 (some (.ref n)) y9 y10 (some (.ref m.length)) y12 y13 y14 y15 y16) (m ++ [.lst ((apL ns ws).map .str)]) := by
  obtain ⟨ml, hml⟩ : ∃ ml, ml = m.set n (.dct true (ws.map tKv)) := ⟨_, rfl⟩
  have g1 : ml[n]? = some (.dct true (ws.map tKv)) := by rw [hml]; exact get_set_self hw
  have g2 : ml[qn]? = some (.dct false (ns.map tKv)) := by rw [hml, get_set_ne ne]; exact hn
  have p1 := lc_pure (i := 12) (ρ := lwR d b e qs qn q y6 y7 (some (.ref n)) y9 y10 y11 y12 y13 y14 y15 y16) (it := iKeys (eV 8)) (chk := fun M => isObj M n (.dct true (ws.map tKv)))
    (t := tV (eOp pNe (eGet2 (eV 4) (eV 12) (eOp pIx (eV 8) (eV 12))) (eOp pIx (eV 8) (eV 12)))) (e := eV 12) (m0 := ml) (m := ml)
    (fun x => .str x.1) (fun w => !decide ((lookT ns w.1).getD w.2 = w.2)) (fun x => .str x.1) ws (by simp [lwR, g1]; exact keysOf_t) (isObj_ok g1) hl
    (by
      intro w hw
      have k : getKv (ws.map tKv) (.inr w.1) = some (.str w.2) := getKv_t nd hw
      simp [lwR, g1, g2, k, getKv_look, look_getD]) (by intro x _ _; simp [lwR])
  have e1 : ((ws.filter fun w => !decide ((lookT ns w.1).getD w.2 = w.2)).map fun x => D.str x.1) = (apL ns ws).map D.str := by rw [apL, List.map_map]; rfl
  have hlen : ml.length = m.length := by rw [hml]; simp
  rw [e1, hlen] at p1
  have as : (sAsg (gV 11) (eLc 12 (iKeys (eV 8)) (tV (eOp pNe (eGet2 (eV 4) (eV 12) (eOp pIx (eV 8) (eV 12))) (eOp pIx (eV 8) (eV 12)))) (eV 12))) (lwR d b e qs qn q y6 y7 (some (.ref n)) y9 y10 y11 y12 y13 y14 y15 y16) (m.set n (.dct true (ws.map tKv))) =
      .nx (lwR d b e qs qn q y6 y7 (some (.ref n)) y9 y10 (some (.ref m.length)) y12 y13 y14 y15 y16) (ml ++ [.lst ((apL ns ws).map .str)]) := by
    rw [← hml, sAsg_eq, p1]; rfl
  have := slock_nx (e := eV 8) (m' := m) (by simp [lwR]) hw as (get_app g1 _)
  rw [hml, unlock_app hw] at this
  exact this
theorem lwF_ok {qm : Nat} (hn : m[qm]? = some (.dct false (ns.map tKv))) (hw : m[n]? = some (.dct false (ws.map tKv))) (ne : n ≠ qm) (nd : (ws.map (·.1)).Nodup) (hl : ws.length ≤ 100) (hl2 : ns.length ≤ 900) :
    ∃ z12, lwF (lwR d b e qs qn q y6 y7 (some (.ref n)) y9 y10 y11 y12 (some (.ref qm)) y14 y15 y16) m = .nx (lwR d b e qs qn q y6 y7 (some (.ref n)) y9 y10 y11 z12 (some (.ref qm)) y14 y15 y16) (m.set qm (.dct false ((merge ns ws).map tKv))) := by
  obtain ⟨ml, hml⟩ : ∃ ml, ml = m.set n (.dct true (ws.map tKv)) := ⟨_, rfl⟩
  have g1 : ml[n]? = some (.dct true (ws.map tKv)) := by rw [hml]; exact get_set_self hw
  have g2 : ml[qm]? = some (.dct false (ns.map tKv)) := by rw [hml, get_set_ne ne]; exact hn
  have go : ∀ (ys : List (Tx × Tx)), (∀ y ∈ ys, y ∈ ws) → ∀ (M : Mn.M) (cur : List (Tx × Tx)) (y12 : Option D), M[n]? = some (.dct true (ws.map tKv)) → M[qm]? = some (.dct false (cur.map tKv)) → cur.length + ys.length ≤ 1000 →
      ∃ z12, forGo (gV 12) (fun M => isObj M n (.dct true (ws.map tKv))) (sSetIx (eV 13) (eV 12) (eOp pIx (eV 8) (eV 12))) (ys.map fun x => .str x.1) (lwR d b e qs qn q y6 y7 (some (.ref n)) y9 y10 y11 y12 (some (.ref qm)) y14 y15 y16) M =
        .nx (lwR d b e qs qn q y6 y7 (some (.ref n)) y9 y10 y11 z12 (some (.ref qm)) y14 y15 y16) (M.set qm (.dct false ((merge cur ys).map tKv))) := by
    intro ys
    induction ys with
    | nil => intro _ M cur y12 h1 h2 _; exact ⟨y12, by simp [forGo, isObj_ok h1, merge, set_same h2]⟩
    | cons y r ih =>
      intro hm M cur y12 h1 h2 h3
      have k : getKv (ws.map tKv) (.inr y.1) = some (.str y.2) := getKv_t nd (hm y (by simp))
      have pl := putT_len (ns := cur) (p := y)
      simp only [List.length_cons] at h3
      obtain ⟨z, hz⟩ := ih (fun x hx => hm x (by simp [hx])) (M.set qm (.dct false ((putT cur y).map tKv))) (putT cur y) (some (.str y.1)) (by rw [get_set_ne (Ne.symm ne)]; exact h1) (get_set_self h2) (by omega)
      rw [set_set] at hz
      refine ⟨z, ?_⟩
      have se : setOb (some (.dct false (cur.map tKv))) qm (.str y.1) (.str y.2) M = some (M.set qm (.dct false ((putT cur y).map tKv))) := by
        rw [setOb_dct (by simp only [LIM, List.length_map]; omega), putKv_t]
      have mm : merge cur (y :: r) = merge (putT cur y) r := rfl
      rw [mm, ← hz]
      simp [forGo, isObj_ok h1, gV, lwR, h1, k, h2, se]
  obtain ⟨z, hz⟩ := go ws (fun _ h => h) ml ns y12 g1 g2 (by omega)
  have fr : (sFor (gV 12) (iKeys (eV 8)) (sSetIx (eV 13) (eV 12) (eOp pIx (eV 8) (eV 12)))) (lwR d b e qs qn q y6 y7 (some (.ref n)) y9 y10 y11 y12 (some (.ref qm)) y14 y15 y16) (m.set n (.dct true (ws.map tKv))) =
      .nx (lwR d b e qs qn q y6 y7 (some (.ref n)) y9 y10 y11 z (some (.ref qm)) y14 y15 y16) (ml.set qm (.dct false ((merge ns ws).map tKv))) := by
    rw [← hml, ← hz, sFor_eq]
    have : iKeys (eV 8) (lwR d b e qs qn q y6 y7 (some (.ref n)) y9 y10 y11 y12 (some (.ref qm)) y14 y15 y16) ml = .ok (ws.map fun x => .str x.1, fun M => isObj M n (.dct true (ws.map tKv))) ml := by
      simp [lwR, g1]; exact keysOf_t
    rw [this, fo1_ok]
  have := slock_nx (e := eV 8) (m' := m) (by simp [lwR]) hw fr (by rw [get_set_ne (Ne.symm ne)]; exact g1)
  refine ⟨z, ?_⟩
  rw [hml, List.set_comm _ _ ne, set_set, ← List.set_comm _ _ ne, set_same hw] at this
  exact this
/-- whether it ends there -/
theorem lwT_ok {o : Ed} {t : Option Tx} (h : StL m d s p l g lk xs st) (hl : xs.length ≤ 1000) :
    ∃ m1 c, Up [] m m1 ∧ lwT (lwR d b e qs qn q y6 y7 (some (.ref n)) y9 y10 y11 y12 y13 (some (edD o)) (some (oT t)) y16) m = .ok c m1 ∧ (c = true ↔ (t.isSome = true ∨ st.lks.filter (shares o) = [])) := by
  cases t with
  | some z => exact ⟨m, true, Up.refl _ _, by simp [lwT, lwR, oT], by simp⟩
  | none =>
    have p1 := lc_pure (i := 16) (ρ := lwR d b e qs qn q y6 y7 (some (.ref n)) y9 y10 y11 y12 y13 (some (edD o)) (some .non) y16) (it := iList (eOp pIx (eV 0) (eC (.str [108, 105, 110, 107, 115])))) (chk := fun M => isObj M l (.lst (xs.map lkD)))
      (t := tV (eOp pIn (eV 14) (eSl (eV 16) oNone (oSome (eC (.int 2)))))) (e := eC (.int 1)) (m0 := m) (m := m)
      lkD (fun x => shares o x.1) (fun _ => .int 1) xs (by simp [lwR, h.hd, h.hl]) (isObj_ok h.hl) hl
      (by
        intro x hx
        have cu : cut [edD x.1.one, edD x.1.other, D.ref x.2] none (some 2) = [edD x.1.one, edD x.1.other] := rfl
        simp [lwR, lkD, eSl, oNone, oSome, sIx, cu, inO_e2, shares]) (by intro x _ _; simp)
    obtain ⟨m1, hm1⟩ : ∃ m1, m1 = m ++ [O.lst ((xs.filter fun x => shares o x.1).map fun _ => D.int 1), .lst []] := ⟨_, rfl⟩
    have eq1 : eqO m1 (.ref m.length) (.ref (m.length + 1)) = some (decide (xs.filter (fun x => shares o x.1) = [])) :=
      eqO_nil (fun _ => .int 1) (fun _ => .int 1) (fun _ _ => rfl) (by rw [hm1]; simp) (by rw [hm1]; simp) (fun _ _ => by simp [tree])
    have em : (xs.filter (fun x => shares o x.1) = []) ↔ st.lks.filter (shares o) = [] := by
      rw [h.hx, List.filter_map, List.map_eq_nil_iff]; rfl
    refine ⟨m1, decide (xs.filter (fun x => shares o x.1) = []), by rw [hm1]; exact Up.app, ?_, by simp [← em]⟩
    rw [hm1] at eq1 ⊢
    simp only [lwR] at p1
    simp [lwT, lwR, oT, p1, eq1]
end
end Mn
end

section
set_option linter.all false
namespace Mn
abbrev WyP := Wy × Nat × Nat
def wD (x : WyP) : D := .tup [oT x.1.tg, .ref x.2.1, .ref x.2.2]
structure WpAt (m : M) (lo q : Nat) (W : List Wy) (ps : List WyP) : Prop where
  w : ps.map (·.1) = W
  r : ∀ x ∈ ps, m[x.2.1]? = some (.lst (x.1.ss.map .str)) ∧ m[x.2.2]? = some (.dct false (x.1.ns.map tKv))
  lo : ∀ x ∈ ps, (lo ≤ x.2.1 ∧ lo ≤ x.2.2) ∧ x.2.1 ≠ q ∧ x.2.2 ≠ q
section
variable {m m' : M} {d s p l g : Nat} {lk : Bool} {xs : List (Lk × Nat)} {st : St} {b : Tx} {e : Ed} {qs qn q : Nat} {y6 y7 y9 y10 y11 y12 y13 y14 y15 y16 : Option D} {ns ws : List (Tx × Tx)} {n : Nat} {ss : List Tx}
theorem WpAt.up {lo : Nat} {W : List Wy} {ps : List WyP} (h : WpAt m lo q W ps) (u : Up [q] m m') : WpAt m' lo q W ps :=
  ⟨h.w, fun x hx => ⟨u.get _ _ (h.r x hx).1 (by simpa using (h.lo x hx).2.1), u.get _ _ (h.r x hx).2 (by simpa using (h.lo x hx).2.2)⟩, h.lo⟩
theorem WpAt.move {lo lo' q' : Nat} {W : List Wy} {ps : List WyP} (h : WpAt m lo q W ps) (hl : lo' ≤ lo) (hq : m.length ≤ q') : WpAt m lo' q' W ps :=
  ⟨h.w, h.r, fun x hx => ⟨by have := (h.lo x hx).1; omega, by have := get_lt (h.r x hx).1; omega, by have := get_lt (h.r x hx).2; omega⟩⟩
theorem WpAt.app {lo : Nat} {W V : List Wy} {ps qs : List WyP} (h : WpAt m lo q W ps) (k : WpAt m lo q V qs) : WpAt m lo q (W ++ V) (ps ++ qs) :=
  ⟨by rw [List.map_append, h.w, k.w], fun x hx => (List.mem_append.mp hx).elim (h.r x) (k.r x), fun x hx => (List.mem_append.mp hx).elim (h.lo x) (k.lo x)⟩
theorem WpAt.nil {lo : Nat} : WpAt m lo q [] [] := ⟨rfl, by simp, by simp⟩
@[simp] theorem notin_ed {a c : Ed} {m : M} : inO m (edD e) (.tup [edD a, edD c]) = some (decide (e = a ∨ e = c)) := inO_e2
theorem lw_no1 {r : MF} {k : Lk} (hk : shares e k = false) : lwBody r (lwR d b e qs qn q (some (edD k.one)) (some (edD k.other)) (some (.ref n)) y9 y10 y11 y12 y13 y14 y15 y16) m =
    .ct (lwR d b e qs qn q (some (edD k.one)) (some (edD k.other)) (some (.ref n)) y9 y10 y11 y12 y13 y14 y15 y16) m := by
  have h : ¬ (e = k.one ∨ e = k.other) := by simpa [shares] using hk
  simp only [not_or] at h
  simp [lwBody, lwR, h]
theorem far2 {k : Lk} (hk : shares e k = true) (hne : k.one ≠ k.other) : (if e = k.other then edD k.one else edD k.other) = edD (far k e) := by
  have h : e = k.one ∨ e = k.other := by simpa [shares] using hk
  unfold far
  by_cases h1 : e = k.one
  · have : ¬ e = k.other := fun z => hne (h1.symm.trans z)
    rw [if_neg this, if_pos h1]
  · have h2 := h.resolve_left h1
    rw [if_pos h2, if_neg h1]
/-- as far as the test whether it goes -/
theorem lw_test {r : MF} {k : Lk} (hk : shares e k = true) (hne : k.one ≠ k.other) (hs : m[qs]? = some (.lst (ss.map .str))) (hn : m[qn]? = some (.dct false (ns.map tKv))) (hw : m[n]? = some (.dct false (k.needs.map tKv))) (ne : n ≠ qn) (nd : (k.needs.map (·.1)).Nodup) (hl : k.needs.length ≤ 1000) :
    ∃ m1 z9 z10 z11, Up [] m m1 ∧ lwBody r (lwR d b e qs qn q (some (edD k.one)) (some (edD k.other)) (some (.ref n)) y9 y10 y11 y12 y13 y14 y15 y16) m =
      if (far k e).1 ≠ b ∧ (far k e).1 ∉ ss ∧ agrees ns k.needs = true then (sSeq (sAsg (gV 13) (eUn pDict (eV 4)))
          (sSeq lwF
          (sSeq (sAsg (gV 14) (eTup (aCons (eV 9) (aCons (eOp pSub (eC (.int 1)) (eV 10)) aNil))))
          (sSeq (sAsg (gV 15) (eFn m_law_signal_at (aCons (eV 0) (aCons (eV 14) aNil))))
          (sIf lwT lwY (lwN r)))))) (lwR d b e qs qn q (some (edD k.one)) (some (edD k.other)) (some (.ref n)) (some (.str (far k e).1)) (some (.int (far k e).2)) z11 y12 y13 y14 y15 y16) m1
      else .ct (lwR d b e qs qn q (some (edD k.one)) (some (edD k.other)) (some (.ref n)) z9 z10 z11 y12 y13 y14 y15 y16) m1 := by
  have h : (e = k.one ∨ e = k.other) := by simpa [shares] using hk
  have f2 := far2 hk hne
  obtain ⟨c, hc⟩ : ∃ c, c = far k e := ⟨_, rfl⟩
  rw [← hc] at f2 ⊢
  have C := lwC_ok (d := d) (b := b) (e := e) (qs := qs) (q := q) (y6 := some (edD k.one)) (y7 := some (edD k.other)) (y9 := some (.str c.1)) (y10 := some (.int c.2)) (y11 := y11) (y12 := y12) (y13 := y13) (y14 := y14) (y15 := y15) (y16 := y16) hn hw ne nd hl
  obtain ⟨mA, hA⟩ : ∃ mA, mA = m ++ [O.lst ((apL ns k.needs).map .str)] := ⟨_, rfl⟩
  rw [← hA] at C
  have uA : Up [] m mA := by rw [hA]; exact Up.app
  have sA := uA.get _ _ hs nofun
  have iA := inO_strs (s := c.1) sA
  have gA : mA[m.length]? = some (.lst ((apL ns k.needs).map .str)) := by rw [hA]; exact get_new
  obtain ⟨mB, hB⟩ : ∃ mB, mB = mA ++ [O.lst []] := ⟨_, rfl⟩
  have uB : Up [] m mB := by rw [hB]; exact uA.then Up.app
  have eq1 : eqO mB (.ref m.length) (.ref mA.length) = some (decide (apL ns k.needs = [])) := eqO_nil_s (by rw [hB]; exact get_push gA) (by rw [hB]; exact get_new)
  have first : lwBody r (lwR d b e qs qn q (some (edD k.one)) (some (edD k.other)) (some (.ref n)) y9 y10 y11 y12 y13 y14 y15 y16) m =
      (sSeq lwC (sSeq lwD (sSeq (sAsg (gV 13) (eUn pDict (eV 4))) (sSeq lwF (sSeq (sAsg (gV 14) (eTup (aCons (eV 9) (aCons (eOp pSub (eC (.int 1)) (eV 10)) aNil))))
          (sSeq (sAsg (gV 15) (eFn m_law_signal_at (aCons (eV 0) (aCons (eV 14) aNil)))) (sIf lwT lwY (lwN r)))))))) (lwR d b e qs qn q (some (edD k.one)) (some (edD k.other)) (some (.ref n)) (some (.str c.1)) (some (.int c.2)) y11 y12 y13 y14 y15 y16) m := by
    by_cases h2 : e = k.other
    · rw [if_pos h2] at f2
      simp only [lwBody, lwR] ; simp [h, h2, eqO_eds, f2]
    · rw [if_neg h2] at f2
      have h1 := h.resolve_right h2
      have h3 : ¬ k.one = k.other := hne
      subst h1
      have hco : c = k.other := by rw [hc]; simp [far]
      rw [hco]
      simp only [lwBody, lwR] ; simp [h3, eqO_eds]
  rw [first, sSeq_eq, C, sq1_nx, sSeq_eq]
  by_cases h1 : c.1 = b
  · refine ⟨mA, some (.str c.1), some (.int c.2), some (.ref m.length), uA, ?_⟩
    rw [if_neg (fun z => z.1 h1)]
    simp [lwD, lwR, h1]
  · by_cases h2 : c.1 ∈ ss
    · refine ⟨mA, some (.str c.1), some (.int c.2), some (.ref m.length), uA, ?_⟩
      rw [if_neg (fun z => z.2.1 h2)]
      simp only [h2, decide_true] at iA
      simp [lwD, lwR, h1, iA]
    · simp only [h2, decide_false] at iA
      refine ⟨mB, some (.str c.1), some (.int c.2), some (.ref m.length), uB, ?_⟩
      rw [hB] at eq1
      by_cases h3 : agrees ns k.needs = true
      · rw [if_pos ⟨h1, h2, h3⟩]
        have h4 := apL_nil.mpr h3
        simp only [h4, decide_true] at eq1
        simp [-sSeq_eq, lwD, lwR, h1, iA, eq1, hB]
      · rw [if_neg (fun z => h3 z.2.2)]
        have h4 : ¬ apL ns k.needs = [] := fun z => h3 (apL_nil.mp z)
        simp only [h4, decide_false] at eq1
        simp [lwD, lwR, h1, iA, eq1, hB]
/-- as far as the two ends -/
theorem lw_go {r : MF} {c : Ed} {k : Lk} {z11 : Option D} (h : StL m d s p l g lk xs st) (nds : (st.sgs.map (·.1)).Nodup) (hsl : st.sgs.length ≤ 1000) (hn : m[qn]? = some (.dct false (ns.map tKv))) (hw : m[n]? = some (.dct false (k.needs.map tKv))) (nd : (k.needs.map (·.1)).Nodup) (hl : k.needs.length ≤ 100) (hl2 : ns.length ≤ 900) (hc : c.2 < 2) :
    ∃ m1 qm, Up [] m m1 ∧ m.length ≤ qm ∧ m1[qm]? = some (.dct false ((merge ns k.needs).map tKv)) ∧ ∃ z12, (sSeq (sAsg (gV 13) (eUn pDict (eV 4)))
          (sSeq lwF
          (sSeq (sAsg (gV 14) (eTup (aCons (eV 9) (aCons (eOp pSub (eC (.int 1)) (eV 10)) aNil))))
          (sSeq (sAsg (gV 15) (eFn m_law_signal_at (aCons (eV 0) (aCons (eV 14) aNil))))
          (sIf lwT lwY (lwN r)))))) (lwR d b e qs qn q y6 y7 (some (.ref n)) (some (.str c.1)) (some (.int c.2)) z11 y12 y13 y14 y15 y16) m =
      sIf lwT lwY (lwN r) (lwR d b e qs qn q y6 y7 (some (.ref n)) (some (.str c.1)) (some (.int c.2)) z11 z12 (some (.ref qm)) (some (edD (c.1, 1 - c.2))) (some (oT (sgAt st.sgs (c.1, 1 - c.2)))) y16) m1 := by
  obtain ⟨mA, hA⟩ : ∃ mA, mA = m ++ [O.dct false (ns.map tKv)] := ⟨_, rfl⟩
  have uA : Up [] m mA := by rw [hA]; exact Up.app
  have gA : mA[m.length]? = some (.dct false (ns.map tKv)) := by rw [hA]; exact get_new
  have lw := get_lt hw
  obtain ⟨z12, F⟩ := lwF_ok (d := d) (b := b) (e := e) (qs := qs) (qn := qn) (q := q) (y6 := y6) (y7 := y7) (y9 := some (.str c.1)) (y10 := some (.int c.2)) (y11 := z11) (y12 := y12) (y14 := y14) (y15 := y15) (y16 := y16) gA (uA.get _ _ hw nofun) (by omega) nd hl hl2
  obtain ⟨mB, hB⟩ : ∃ mB, mB = mA.set m.length (.dct false ((merge ns k.needs).map tKv)) := ⟨_, rfl⟩
  rw [← hB] at F
  have uB : Up [] m mB := by rw [hB]; exact uA.trans Up.set (by simp)
  have gB : mB[m.length]? = some (.dct false ((merge ns k.needs).map tKv)) := by rw [hB]; exact get_set_self gA
  have sg := law_signal_ok (e := (c.1, 1 - c.2)) (h.up uB) nds hsl
  obtain ⟨mC, hC⟩ : ∃ mC, mC = mB ++ [O.lst (((st.sgs.filter fun x => decide (x.2 = (c.1, 1 - c.2))).map (·.1)).map .str), .lst []] := ⟨_, rfl⟩
  rw [← hC] at sg
  have uC : Up [] m mC := by rw [hC]; exact uB.then Up.app
  have ie : (1 : Int) - (c.2 : Int) = ((1 - c.2 : Nat) : Int) := by omega
  refine ⟨mC, m.length, uC, Nat.le_refl _, by rw [hC]; exact get_app gB _, z12, ?_⟩
  have a13 : (sAsg (gV 13) (eUn pDict (eV 4))) (lwR d b e qs qn q y6 y7 (some (.ref n)) (some (.str c.1)) (some (.int c.2)) z11 y12 y13 y14 y15 y16) m = .nx (lwR d b e qs qn q y6 y7 (some (.ref n)) (some (.str c.1)) (some (.int c.2)) z11 y12 (some (.ref m.length)) y14 y15 y16) mA := by
    simp [lwR, hn, hA]
  rw [sSeq_eq, a13, sq1_nx, sSeq_eq, F, sq1_nx]
  simp [-sIf_eq, lwR, ie, ed_mk, sg]
end
end Mn
end

section
set_option linter.all false
namespace Mn
section
variable {m m' : M} {d s p l g : Nat} {lk : Bool} {xs : List (Lk × Nat)} {st : St} {b : Tx} {e : Ed} {qs qn q : Nat} {y6 y7 y8 y9 y10 y11 y12 y13 y14 y15 y16 : Option D} {ns ws : List (Tx × Tx)} {n : Nat} {ss : List Tx}
theorem sec_more {c : Tx} (hs : m[qs]? = some (.lst (ss.map .str))) (hl : ss.length ≤ 1000) : catOb (some (.lst (ss.map .str))) (some (.lst [.str c])) (m ++ [.lst [.str c]]) = .ok (.ref (m.length + 1)) (m ++ [.lst [.str c], .lst ((ss ++ [c]).map .str)]) := by
  rw [catOb_ok (by simp [LIM]; omega)]; simp
theorem lwY_ok {c : Tx} {t : Option Tx} {qm : Nat} {old : List D} (hs : m[qs]? = some (.lst (ss.map .str))) (hl : ss.length ≤ 1000) (hq : m[q]? = some (.lst old)) (ho : old.length < LIM) :
    lwY (lwR d b e qs qn q y6 y7 y8 (some (.str c)) y10 y11 y12 (some (.ref qm)) y14 (some (oT t)) y16) m =
      .nx (lwR d b e qs qn q y6 y7 y8 (some (.str c)) y10 y11 y12 (some (.ref qm)) y14 (some (oT t)) y16) ((m ++ [O.lst [.str c], .lst ((ss ++ [c]).map .str)]).set q (O.lst (old ++ [D.tup [oT t, .ref (m.length + 1), .ref qm]]))) := by
  have s1 := get_app hs [O.lst [.str c]]
  have n1 : (m ++ [O.lst [.str c]])[m.length]? = some (.lst [.str c]) := get_new
  have q1 := get_app hq [O.lst [.str c], .lst ((ss ++ [c]).map .str)]
  have sm := sec_more (c := c) hs hl
  have ap := appOb_ok (a := q) (v := .tup [oT t, .ref (m.length + 1), .ref qm]) (m := m ++ [.lst [.str c], .lst ((ss ++ [c]).map .str)]) ho
  simp only [List.map_append, List.map_cons, List.map_nil] at sm q1 ap ⊢
  simp [lwY, lwR, hq, s1, sm, q1, ap]
theorem lwN_ok {r : MF} {c : Tx} {qm q2 : Nat} {o : Ed} {old new : List D} {m5 : M} (hs : m[qs]? = some (.lst (ss.map .str))) (hl : ss.length ≤ 1000) (hq : m[q]? = some (.lst old)) (ho : old.length + new.length ≤ LIM)
    (hr : r [.ref d, .str b, edD o, .ref (m.length + 1), .ref qm] (m ++ [.lst [.str c], .lst ((ss ++ [c]).map .str)]) = .ok (.ref q2) m5) (hq5 : m5[q]? = some (.lst old)) (h2 : m5[q2]? = some (.lst new)) :
    lwN r (lwR d b e qs qn q y6 y7 y8 (some (.str c)) y10 y11 y12 (some (.ref qm)) (some (edD o)) y15 y16) m =
      .nx (lwR d b e qs qn m5.length y6 y7 y8 (some (.str c)) y10 y11 y12 (some (.ref qm)) (some (edD o)) y15 y16) (m5 ++ [.lst (old ++ new)]) := by
  have s1 := get_app hs [O.lst [.str c]]
  have n1 : (m ++ [O.lst [.str c]])[m.length]? = some (.lst [.str c]) := get_new
  have sm := sec_more (c := c) hs hl
  have cat := catOb_ok (m := m5) ho
  simp only [List.map_append, List.map_cons, List.map_nil] at sm hr
  simp [lwN, lwR, s1, sm, hr, hq5, h2, cat]
def LGo (n : Nat) : Prop := ∀ (m : M) (d s p l g : Nat) (lk : Bool) (xs : List (Lk × Nat)) (st : St) (b : Tx) (e : Ed) (ss : List Tx) (ns : List (Tx × Tx)) (qs qn : Nat),
  GoOk st → (∀ k ∈ st.lks, k.one ≠ k.other) → st.sgs.length ≤ 1000 → StL m d s p l g lk xs st → m[qs]? = some (.lst (ss.map .str)) → m[qn]? = some (.dct false (ns.map tKv)) → (∀ x ∈ xs, x.2 ≠ qn) → ss.Nodup → (∀ s ∈ ss, s ∈ st.secs) → st.secs.length < n + ss.length →
    (ns.map (·.1)).Nodup → ns.length ≤ 12 * ss.length → (wys st.lks st.sgs b n e ss ns).length ≤ 100000 →
    ∃ m1 q ps, m_law_ways n [.ref d, .str b, edD e, .ref qs, .ref qn] m = .ok (.ref q) m1 ∧ Up [] m m1 ∧ m1[q]? = some (.lst (ps.map wD)) ∧ WpAt m1 m.length q (wys st.lks st.sgs b n e ss ns) ps ∧ m.length ≤ q
theorem lw_loop (IH : LGo n) (gk : GoOk st) (hne : ∀ k ∈ st.lks, k.one ≠ k.other) (hsg : st.sgs.length ≤ 1000) {m0 : M} (h0 : StL m0 d s p l g lk xs st) (hs : m0[qs]? = some (.lst (ss.map .str))) (hn : m0[qn]? = some (.dct false (ns.map tKv))) (hxn : ∀ x ∈ xs, x.2 ≠ qn) (nd : ss.Nodup) (hsub : ∀ s ∈ ss, s ∈ st.secs)
    (hfu : st.secs.length < n + 1 + ss.length) (hnd : (ns.map (·.1)).Nodup) (hnl : ns.length ≤ 12 * ss.length) :
    ∀ (ys : List (Lk × Nat)), (∀ y ∈ ys, y ∈ xs) → ∀ (m : M) (q : Nat) (W0 : List Wy) (ps : List WyP) (y6 y7 y8 y9 y10 y11 y12 y13 y14 y15 y16 : Option D), Up [] m0 m → m[q]? = some (.lst (ps.map wD)) → WpAt m m0.length q W0 ps → m0.length ≤ q →
      ps.length + ((ys.filter fun x => shares e x.1).flatMap fun x => wyS st.lks st.sgs b (wys st.lks st.sgs b n) e ss ns x.1).length ≤ 100000 →
      ∃ m1 q1 ps1 ρ1, forGo (gTup [(gV 6), (gV 7), (gV 8)]) (fun M => isObj M l (.lst (xs.map lkD))) (lwBody (m_law_ways n)) (ys.map lkD) (lwR d b e qs qn q y6 y7 y8 y9 y10 y11 y12 y13 y14 y15 y16) m = .nx ρ1 m1 ∧ ρ1[5]? = some (some (.ref q1)) ∧ Up [] m0 m1 ∧
        m1[q1]? = some (.lst (ps1.map wD)) ∧ WpAt m1 m0.length q1 (W0 ++ (ys.filter fun x => shares e x.1).flatMap fun x => wyS st.lks st.sgs b (wys st.lks st.sgs b n) e ss ns x.1) ps1 ∧ m0.length ≤ q1 := by
  have sl : ss.length ≤ 31 := Nat.le_trans (nodup_le nd hsub) gk.sl
  have qs0 := get_lt hs
  have qn0 := get_lt hn
  intro ys
  induction ys with
  | nil =>
    intro _ m q W0 ps y6 y7 y8 y9 y10 y11 y12 y13 y14 y15 y16 u hq hp hlo _
    exact ⟨m, q, ps, _, by simp [forGo, isObj_ok (h0.up u).hl]; rfl, rfl, u, hq, by simpa using hp, hlo⟩
  | cons x r ih =>
    intro hy m q W0 ps y6 y7 y8 y9 y10 y11 y12 y13 y14 y15 y16 u hq hp hlo hle
    have hx := hy x (by simp)
    have hr := fun y hy' => hy y (List.mem_cons_of_mem _ hy')
    have hm : x.1 ∈ st.lks := by rw [h0.hx]; exact List.mem_map.mpr ⟨x, hx, rfl⟩
    have h := h0.up u
    have g1 : ∀ ρ', gTup [gV 6, gV 7, gV 8] (lkD x) (lwR d b e qs qn q y6 y7 y8 y9 y10 y11 y12 y13 y14 y15 y16) m = .ok ρ' m ↔ ρ' = lwR d b e qs qn q (some (edD x.1.one)) (some (edD x.1.other)) (some (.ref x.2)) y9 y10 y11 y12 y13 y14 y15 y16 := fun ρ' => by
      show (R.ok _ m = R.ok ρ' m) ↔ _
      simp only [R.ok.injEq, and_true]; exact ⟨fun z => z.symm, fun z => z.symm⟩
    have gg := (g1 _).mpr rfl
    have chk := isObj_ok h.hl
    by_cases hsh : shares e x.1 = true
    · rw [List.filter_cons_of_pos (by simpa using hsh), List.flatMap_cons] at hle ⊢
      obtain ⟨lk3, lk4⟩ := (gk.lk _ hm).2.2
      obtain ⟨mA, z9, z10, z11, uA, T⟩ := lw_test (r := m_law_ways n) (d := d) (b := b) (q := q) (y9 := y9) (y10 := y10) (y11 := y11) (y12 := y12) (y13 := y13) (y14 := y14) (y15 := y15) (y16 := y16) hsh (hne _ hm) (u.get _ _ hs nofun) (u.get _ _ hn nofun) (h.hk x hx) (hxn x hx) lk3 (by omega)
      obtain ⟨f1, f2⟩ := far_in gk hm e
      by_cases hc : (far x.1 e).1 ≠ b ∧ (far x.1 e).1 ∉ ss ∧ agrees ns x.1.needs = true
      · rw [if_pos hc] at T
        obtain ⟨c, hcd⟩ : ∃ c, c = far x.1 e := ⟨_, rfl⟩
        have hW : wyS st.lks st.sgs b (wys st.lks st.sgs b n) e ss ns x.1 = if (sgAt st.sgs (c.1, 1 - c.2)).isSome ∨ st.lks.filter (shares (c.1, 1 - c.2)) = [] then [⟨sgAt st.sgs (c.1, 1 - c.2), ss ++ [c.1], merge ns x.1.needs⟩] else wys st.lks st.sgs b n (c.1, 1 - c.2) (ss ++ [c.1]) (merge ns x.1.needs) := by
          unfold wyS; rw [if_pos hc, hcd]
        rw [← hcd] at T hc f1 f2
        have uA0 := u.then uA
        have hA := h0.up uA0
        obtain ⟨mB, qm, uB, lqm, gqm, z12, B⟩ := lw_go (r := m_law_ways n) (d := d) (b := b) (e := e) (qs := qs) (q := q) (y6 := some (edD x.1.one)) (y7 := some (edD x.1.other)) (y12 := y12) (y13 := y13) (y14 := y14) (y15 := y15) (y16 := y16) (c := c) (z11 := z11) hA gk.nd hsg (uA0.get _ _ hn nofun) (hA.hk x hx) lk3 (by omega) (by omega) f2
        rw [B] at T
        have uB0 := uA0.then uB
        have hB := h0.up uB0
        obtain ⟨mC, ct, uC, C, hct⟩ := lwT_ok (d := d) (b := b) (e := e) (qs := qs) (qn := qn) (q := q) (n := x.2) (y6 := some (edD x.1.one)) (y7 := some (edD x.1.other)) (y9 := some (.str c.1)) (y10 := some (.int c.2)) (y11 := z11) (y12 := z12) (y13 := some (.ref qm)) (y16 := y16) (o := (c.1, 1 - c.2)) (t := sgAt st.sgs (c.1, 1 - c.2)) hB (by have := gk.ll; rw [h0.hx] at this; simpa using this)
        have uC0 := uB0.then uC
        have uqC : Up [] m mC := (uA.then uB).then uC
        have hqC := uqC.get _ _ hq nofun
        have pC := hp.up (uqC.mono (by simp))
        rw [sIf_eq, C, if1_ok] at T
        have gmC := uC.get _ _ gqm nofun
        have lm := uqC.le
        have sC := uC0.get _ _ hs nofun
        have lmA := u.le
        by_cases hlf : (sgAt st.sgs (c.1, 1 - c.2)).isSome = true ∨ st.lks.filter (shares (c.1, 1 - c.2)) = []
        · rw [hct.mpr hlf, if_pos rfl] at T
          rw [if_pos hlf] at hW
          rw [hW] at hle ⊢
          simp only [List.length_append, List.length_cons, List.length_nil] at hle
          rw [lwY_ok sC (by omega) hqC (by simp [LIM]; omega)] at T
          obtain ⟨mD, hD⟩ : ∃ mD, mD = (mC ++ [O.lst [.str c.1], .lst ((ss ++ [c.1]).map .str)]).set q (.lst (ps.map wD ++ [.tup [oT (sgAt st.sgs (c.1, 1 - c.2)), .ref (mC.length + 1), .ref qm]])) := ⟨_, rfl⟩
          rw [← hD] at T
          have uD : Up [q] mC mD := by rw [hD]; exact (Up.app.mono (by simp)).same Up.set
          have uD0 : Up [] m0 mD := uC0.trans uD (by simp; omega)
          have lq := get_lt hqC
          have gD : mD[q]? = some (.lst ((ps ++ [((⟨sgAt st.sgs (c.1, 1 - c.2), ss ++ [c.1], merge ns x.1.needs⟩ : Wy), mC.length + 1, qm)]).map wD)) := by
            rw [hD, get_set_self (get_app hqC _)]; simp [wD]
          have nqm : q ≠ qm := ne_of_get hqC gmC nofun
          have lqm2 := uA0.le
          have P1 : WpAt mD m0.length q [⟨sgAt st.sgs (c.1, 1 - c.2), ss ++ [c.1], merge ns x.1.needs⟩] [(⟨sgAt st.sgs (c.1, 1 - c.2), ss ++ [c.1], merge ns x.1.needs⟩, mC.length + 1, qm)] := by
            refine ⟨rfl, ?_, ?_⟩
            · simp only [List.mem_singleton]; rintro y rfl
              refine ⟨by rw [hD, get_set_ne (show q ≠ mC.length + 1 by omega)]; simp, uD.get _ _ gmC (by simpa using Ne.symm nqm)⟩
            · simp only [List.mem_singleton]; rintro y rfl
              have := uC0.le
              exact ⟨⟨by simp; omega, by simp; omega⟩, by simp; omega, Ne.symm nqm⟩
          obtain ⟨m1, q1, ps1, ρ1, e1, e2, e3, e4, e5, e6⟩ := ih hr mD q _ _ (some (edD x.1.one)) (some (edD x.1.other)) (some (.ref x.2)) (some (.str c.1)) (some (.int c.2)) z11 z12 (some (.ref qm)) (some (edD (c.1, 1 - c.2))) (some (oT (sgAt st.sgs (c.1, 1 - c.2)))) y16 uD0 gD ((pC.up uD).app P1) hlo (by rw [List.length_append]; simp only [List.length_cons, List.length_nil]; omega)
          refine ⟨m1, q1, ps1, ρ1, ?_, e2, e3, e4, by rw [← List.append_assoc]; exact e5, e6⟩
          simp only [List.map_cons, forGo, chk, if_true, gg, T]
          exact e1
        · have hcf : ct = false := by
            cases ct with
            | false => rfl
            | true => exact absurd (hct.mp rfl) hlf
          rw [hcf, if_neg (by decide)] at T
          rw [if_neg hlf] at hW
          rw [hW] at hle ⊢
          rw [List.length_append] at hle
          obtain ⟨mE, hE⟩ : ∃ mE, mE = mC ++ [O.lst [.str c.1], .lst ((ss ++ [c.1]).map .str)] := ⟨_, rfl⟩
          have uE : Up [] mC mE := by rw [hE]; exact Up.app
          have uE0 := uC0.then uE
          have gE : mE[mC.length + 1]? = some (.lst ((ss ++ [c.1]).map .str)) := by rw [hE]; simp
          have lqm2 := uA0.le
          obtain ⟨m5, q5, ps5, k1, k2, k3, k4, k5⟩ := IH mE d s p l g lk xs st b (c.1, 1 - c.2) (ss ++ [c.1]) (merge ns x.1.needs) (mC.length + 1) qm gk hne hsg (h0.up uE0) gE (uE.get _ _ gmC nofun)
            (fun z hz => by have := h0.low.2.2.2.2.2 z hz; omega)
            (List.nodup_append.mpr ⟨nd, by simp, by simpa using fun a ha e => hc.2.1 (by rw [← e]; exact ha)⟩) (fun s hs' => by
              rcases List.mem_append.mp hs' with q | q
              · exact hsub s q
              · obtain rfl := List.mem_singleton.mp q; exact f1) (by simp; omega) (merge_nd hnd) (by
              have := merge_len (ws := x.1.needs) (ns := ns)
              simp; omega) (by omega)
          have pl5 : ps5.length = (wys st.lks st.sgs b n (c.1, 1 - c.2) (ss ++ [c.1]) (merge ns x.1.needs)).length := by rw [← k4.w]; simp
          have u5 := (uE.then k2)
          rw [hE] at k1
          rw [lwN_ok sC (by omega) hqC (by simp [LIM]; omega) k1 (u5.get _ _ hqC nofun) k3] at T
          obtain ⟨mF, hF⟩ : ∃ mF, mF = m5 ++ [O.lst (ps.map wD ++ ps5.map wD)] := ⟨_, rfl⟩
          rw [← hF] at T
          have uF : Up [] m5 mF := by rw [hF]; exact Up.app
          have gF : mF[m5.length]? = some (.lst ((ps ++ ps5).map wD)) := by rw [hF, List.map_append]; exact get_new
          have P1 : WpAt m5 m0.length m5.length W0 ps := (pC.up (u5.mono (by simp))).move (Nat.le_refl _) (Nat.le_refl _)
          have P2 := k4.move (lo' := m0.length) (q' := m5.length) uE0.le (Nat.le_refl _)
          have u50 := uC0.then u5
          obtain ⟨m1, q1, ps1, ρ1, e1, e2, e3, e4, e5, e6⟩ := ih hr mF m5.length _ _ (some (edD x.1.one)) (some (edD x.1.other)) (some (.ref x.2)) (some (.str c.1)) (some (.int c.2)) z11 z12 (some (.ref qm)) (some (edD (c.1, 1 - c.2))) (some (oT (sgAt st.sgs (c.1, 1 - c.2)))) y16 (u50.then uF) gF ((P1.app P2).up (uF.mono (by simp))) u50.le (by rw [List.length_append]; omega)
          refine ⟨m1, q1, ps1, ρ1, ?_, e2, e3, e4, by rw [← List.append_assoc]; exact e5, e6⟩
          simp only [List.map_cons, forGo, chk, if_true, gg, T]
          exact e1
      · rw [if_neg hc] at T
        have w0 : wyS st.lks st.sgs b (wys st.lks st.sgs b n) e ss ns x.1 = [] := by unfold wyS; rw [if_neg hc]
        rw [w0, List.nil_append] at hle ⊢
        obtain ⟨m1, q1, ps1, ρ1, e1, e2⟩ := ih hr mA q W0 ps (some (edD x.1.one)) (some (edD x.1.other)) (some (.ref x.2)) z9 z10 z11 y12 y13 y14 y15 y16 (u.then uA) (uA.get _ _ hq nofun) (hp.up (uA.mono (by simp))) hlo hle
        refine ⟨m1, q1, ps1, ρ1, ?_, e2⟩
        simp only [List.map_cons, forGo, chk, if_true, gg, T]
        exact e1
    · simp only [Bool.not_eq_true] at hsh
      rw [List.filter_cons_of_neg (by simp [hsh])] at hle ⊢
      have T := lw_no1 (r := m_law_ways n) (m := m) (d := d) (b := b) (qs := qs) (qn := qn) (q := q) (n := x.2) (y9 := y9) (y10 := y10) (y11 := y11) (y12 := y12) (y13 := y13) (y14 := y14) (y15 := y15) (y16 := y16) hsh
      obtain ⟨m1, q1, ps1, ρ1, e1, e2⟩ := ih hr m q W0 ps (some (edD x.1.one)) (some (edD x.1.other)) (some (.ref x.2)) y9 y10 y11 y12 y13 y14 y15 y16 u hq hp hlo hle
      refine ⟨m1, q1, ps1, ρ1, ?_, e2⟩
      simp only [List.map_cons, forGo, chk, if_true, gg, T]
      exact e1
theorem lgo : ∀ n, LGo n
  | 0 => by
    intro m d s p l g lk xs st b e ss ns qs qn gk hne hsg h hs hn hxn nd hsub hfu
    have := nodup_le nd hsub
    omega
  | n + 1 => by
    intro m d s p l g lk xs st b e ss ns qs qn gk hne hsg h hs hn hxn nd hsub hfu hnd hnl hle
    have W : (wys st.lks st.sgs b (n + 1) e ss ns) = (xs.filter fun x => shares e x.1).flatMap fun x => wyS st.lks st.sgs b (wys st.lks st.sgs b n) e ss ns x.1 := by
      rw [wys_succ]
      conv => lhs; rw [h.hx]
      rw [List.filter_map, List.flatMap_map]
      rw [show (shares e ∘ fun x : Lk × Nat => x.1) = fun x => shares e x.1 from rfl, ← h.hx]
    rw [W] at hle ⊢
    obtain ⟨mA, hA⟩ : ∃ mA, mA = m ++ [O.lst []] := ⟨_, rfl⟩
    have uA : Up [] m mA := by rw [hA]; exact Up.app
    have gA : mA[m.length]? = some (.lst (([] : List WyP).map wD)) := by rw [hA]; exact get_new
    obtain ⟨m1, q1, ps1, ρ1, e1, e2, e3, e4, e5, e6⟩ := lw_loop (lgo n) gk hne hsg (e := e) (b := b) h hs hn hxn nd hsub (by omega) hnd hnl xs (fun _ h => h) mA m.length [] [] none none none none none none none none none none none uA gA WpAt.nil (Nat.le_refl _) (by simpa using hle)
    have hB := h.up uA
    have it : iList (eOp pIx (eV 0) (eC (.str [108, 105, 110, 107, 115]))) (lwR d b e qs qn m.length none none none none none none none none none none none) mA = .ok (xs.map lkD, fun M => isObj M l (.lst (xs.map lkD))) mA := by
      simp [lwR, hB.hd, hB.hl]
    refine ⟨m1, q1, ps1, ?_, e3, e4, by simpa using e5, e6⟩
    have fr : sFor (gTup [(gV 6), (gV 7), (gV 8)]) (iList (eOp pIx (eV 0) (eC (.str [108, 105, 110, 107, 115])))) (lwBody (m_law_ways n)) (lwR d b e qs qn m.length none none none none none none none none none none none) mA = .nx ρ1 m1 := by
      rw [sFor_eq, it, fo1_ok]; exact e1
    have ev : m_law_ways (n + 1) [.ref d, .str b, edD e, .ref qs, .ref qn] m = fnK (sq1 (sRet (eV 5)) (sFor (gTup [(gV 6), (gV 7), (gV 8)]) (iList (eOp pIx (eV 0) (eC (.str [108, 105, 110, 107, 115])))) (lwBody (m_law_ways n)) (lwR d b e qs qn m.length none none none none none none none none none none none) mA)) := by
      rw [hA]; simp [-sFor_eq, m_law_ways, m_law_ways_body, mkFn_eq, lwBody, lwC, lwD, lwF, lwT, lwY, lwN, lwR]
    rw [ev, fr]
    simp [e2]
end
end Mn
end

section
set_option linter.all false
namespace Mn
/-- what the law's search wants of a station -/
structure RoOk (st : St) : Prop where
  go : GoOk st
  ne : ∀ k ∈ st.lks, k.one ≠ k.other
  sg : st.sgs.length ≤ 16
  pn : ∀ k ∈ st.lks, ∀ p ∈ k.needs.map (·.1), p ∈ st.pts.map (·.1)
  pl : st.pts.length ≤ 12
  few : ∀ g ∈ st.sgs, (wys st.lks st.sgs g.2.1 32 g.2 [] []).length ≤ 6561
def tlD (x : Tx × Tw) : D := toldD x.1 x.2
section
variable {m m' : M} {d s p l g : Nat} {lk : Bool} {xs : List (Lk × Nat)} {st : St} {fq : Nat} {acc : List D}
theorem RoOk.way (h : RoOk st) {e : Ed} {n : Nat} {b : Tx} : ∀ w ∈ wys st.lks st.sgs b n e [] [], WyOk (st.pts.map (·.1)) st.secs w :=
  wys_ok (fun k hk => ⟨h.pn k hk, (h.go.lk k hk).1.1, (h.go.lk k hk).2.1.1⟩) n e [] [] (by simp) (by simp) (by simp) (by simp)
theorem WyOk.len {P S : List Tx} {w : Wy} (h : WyOk P S w) (hp : P.length ≤ 12) : w.ns.length < 64 := by
  have := nodup_le h.nd h.sub
  simp at this; omega
def lrIn : MS := (sSeq (sAsg (gV 7) (eUn pTuple (eLc 8 (iList (eUn pSorted (eV 6))) tYes (eTup (aCons (eV 8) (aCons (eOp pIx (eV 6) (eV 8)) aNil))))))
    (sExp (eM1 0 pAppend (eV 1) (eTup (aCons (eV 2) (aCons (eV 4) (aCons (eUn pTuple (eV 5)) (aCons (eV 7) aNil))))))))
theorem lrIn_ok {d0 : D} {sg : Tx} {x : WyP} {y3 y7 y8 : Option D} (h1 : m[x.2.1]? = some (.lst (x.1.ss.map .str))) (h2 : m[x.2.2]? = some (.dct false (x.1.ns.map tKv))) (nd : (x.1.ns.map (·.1)).Nodup) (hl : x.1.ns.length < 64) (hf : m[fq]? = some (.lst acc)) (ha : acc.length < LIM) :
    ∃ m' z7, lrIn [some d0, some (.ref fq), some (.str sg), y3, some (oT x.1.tg), some (.ref x.2.1), some (.ref x.2.2), y7, y8] m = .nx [some d0, some (.ref fq), some (.str sg), y3, some (oT x.1.tg), some (.ref x.2.1), some (.ref x.2.2), z7, y8] m' ∧
      Up [fq] m m' ∧ m'[fq]? = some (.lst (acc ++ [toldD sg (twOf x.1)])) := by
  have ko : keysOf (x.1.ns.map tKv) = x.1.ns.map fun p => .str p.1 := keysOf_t
  have so : pSorted (.ref x.2.2) m = .ok (.ref m.length) (m ++ [.lst ((sortT (x.1.ns.map (·.1))).map .str)]) :=
    pSorted_str (by simpa using hl) (by simp [itemsOf, h2, ko])
  obtain ⟨mB, hB⟩ : ∃ mB, mB = m ++ [O.lst ((sortT (x.1.ns.map (·.1))).map .str)] := ⟨_, rfl⟩
  rw [← hB] at so
  have uB : Up [] m mB := by rw [hB]; exact Up.app
  have gB : mB[m.length]? = some (.lst ((sortT (x.1.ns.map (·.1))).map .str)) := by rw [hB]; exact get_new
  have nB := uB.get _ _ h2 nofun
  have lc := lc_map (i := 8) (ρ := [some d0, some (.ref fq), some (.str sg), y3, some (oT x.1.tg), some (.ref x.2.1), some (.ref x.2.2), y7, y8]) (it := iList (eUn pSorted (eV 6))) (e := eTup (aCons (eV 8) (aCons (eOp pIx (eV 6) (eV 8)) aNil))) (m0 := m) (m := mB)
    (chk := fun M => isObj M m.length (.lst ((sortT (x.1.ns.map (·.1))).map .str))) (fun p => .str p) (fun p => tD (p, (lookT x.1.ns p).getD [])) (sortT (x.1.ns.map (·.1)))
    (by simp [so, gB]) (isObj_ok gB) (by rw [sortT_len]; simp; omega) (by
      intro p hp
      obtain ⟨v, hv⟩ := look_mem (sortT_mem.mp hp)
      simp [nB, getKv_look, hv, tD])
  obtain ⟨mC, hC⟩ : ∃ mC, mC = mB ++ [O.lst ((sortT (x.1.ns.map (·.1))).map fun p => tD (p, (lookT x.1.ns p).getD []))] := ⟨_, rfl⟩
  rw [← hC] at lc
  have gC : mC[mB.length]? = some (.lst ((sortT (x.1.ns.map (·.1))).map fun p => tD (p, (lookT x.1.ns p).getD []))) := by rw [hC]; exact get_new
  have uC : Up [] m mC := by rw [hC]; exact uB.then Up.app
  have sC := uC.get _ _ h1 nofun
  have fC := uC.get _ _ hf nofun
  have ap := appOb_ok (a := fq) (v := toldD sg (twOf x.1)) (m := mC) ha
  refine ⟨mC.set fq (.lst (acc ++ [toldD sg (twOf x.1)])), some (.tup ((sortT (x.1.ns.map (·.1))).map fun p => tD (p, (lookT x.1.ns p).getD []))), ?_, (uC.mono (by simp)).same Up.set, get_set_self fC⟩
  simp only [toldD, twOf, nsort, List.map_map, Function.comp_def] at ap ⊢
  simp [lrIn, lc, gC, sC, fC, ap]
theorem lr_inner {d0 : D} {sg : Tx} {q2 : Nat} {refs : List D} : ∀ (ps : List WyP) (m : M) (acc : List D) (y3 y4 y5 y6 y7 y8 : Option D), (∀ x ∈ ps, m[x.2.1]? = some (.lst (x.1.ss.map .str)) ∧ m[x.2.2]? = some (.dct false (x.1.ns.map tKv)) ∧ (x.1.ns.map (·.1)).Nodup ∧ x.1.ns.length < 64 ∧ x.2.1 ≠ fq ∧ x.2.2 ≠ fq) →
    m[fq]? = some (.lst acc) → acc.length + ps.length < LIM → m[q2]? = some (.lst refs) → q2 ≠ fq → ∃ m' ρ', forGo (gTup [(gV 4), (gV 5), (gV 6)]) (fun M => isObj M q2 (.lst refs)) lrIn (ps.map wD) [some d0, some (.ref fq), some (.str sg), y3, y4, y5, y6, y7, y8] m = .nx ρ' m' ∧
      (∃ z3 z4 z5 z6 z7 z8, ρ' = [some d0, some (.ref fq), some (.str sg), z3, z4, z5, z6, z7, z8]) ∧ Up [fq] m m' ∧ m'[fq]? = some (.lst (acc ++ ps.map fun x => toldD sg (twOf x.1)))
  | [], m, acc, y3, y4, y5, y6, y7, y8, _, hf, _, hq, _ => ⟨m, [some d0, some (.ref fq), some (.str sg), y3, y4, y5, y6, y7, y8], by simp [forGo, isObj_ok hq], ⟨_, _, _, _, _, _, rfl⟩, Up.refl _ _, by simpa using hf⟩
  | x :: r, m, acc, y3, y4, y5, y6, y7, y8, hx, hf, hl, hq, hne => by
    obtain ⟨h1, h2, h3, h4, h5, h6⟩ := hx x (by simp)
    simp only [List.length_cons] at hl
    obtain ⟨m1, z7, e1, u1, g1⟩ := lrIn_ok (d0 := d0) (sg := sg) (y3 := y3) (y7 := y7) (y8 := y8) h1 h2 h3 h4 hf (by omega)
    obtain ⟨m2, ρ2, e2, e3, e4, e5⟩ := lr_inner r m1 (acc ++ [toldD sg (twOf x.1)]) y3 (some (oT x.1.tg)) (some (.ref x.2.1)) (some (.ref x.2.2)) z7 y8
      (fun z hz => by
        obtain ⟨a1, a2, a3, a4, a5, a6⟩ := hx z (by simp [hz])
        exact ⟨u1.get _ _ a1 (by simpa using a5), u1.get _ _ a2 (by simpa using a6), a3, a4, a5, a6⟩) g1 (by simp; omega) (u1.get _ _ hq (by simpa using hne)) hne
    refine ⟨m2, ρ2, ?_, e3, u1.same e4, by simpa using e5⟩
    have gg : gTup [gV 4, gV 5, gV 6] (wD x) [some d0, some (.ref fq), some (.str sg), y3, y4, y5, y6, y7, y8] m = .ok [some d0, some (.ref fq), some (.str sg), y3, some (oT x.1.tg), some (.ref x.2.1), some (.ref x.2.2), y7, y8] m := rfl
    simp only [List.map_cons, forGo, isObj_ok hq, if_true, gg, e1]
    exact e2
def lrBody : MS := (sSeq (sAsg (gV 3) (eOp pIx (eOp pIx (eV 0) (eC (.str [115, 105, 103, 110, 97, 108, 115]))) (eV 2)))
    (sFor (gTup [(gV 4), (gV 5), (gV 6)]) (iList (eFn (m_law_ways 32) (aCons (eV 0) (aCons (eOp pIx (eV 3) (eC (.int 0))) (aCons (eV 3) (aCons (eLst aNil) (aCons eD0 aNil))))))) lrIn))
theorem lr_loop (h : RoOk st) {m0 : M} (h0 : StL m0 d s p l g true xs st) (hfq : m0.length ≤ fq) : ∀ (ys : List (Tx × Ed)), (∀ y ∈ ys, y ∈ st.sgs) → ∀ (m : M) (acc : List D) (y2 y3 y4 y5 y6 y7 y8 : Option D), Up [] m0 m → m[fq]? = some (.lst acc) → acc.length + ys.length * 6561 < LIM →
    ∃ m' ρ', forGo (gV 2) (fun M => isObj M g (.dct true (st.sgs.map eKv))) lrBody (ys.map fun x => .str x.1) [some (.ref d), some (.ref fq), y2, y3, y4, y5, y6, y7, y8] m = .nx ρ' m' ∧ (∃ z2 z3 z4 z5 z6 z7 z8, ρ' = [some (.ref d), some (.ref fq), z2, z3, z4, z5, z6, z7, z8]) ∧ Up [] m0 m' ∧
      m'[fq]? = some (.lst (acc ++ (ys.flatMap fun g => (wys st.lks st.sgs g.2.1 32 g.2 [] []).map fun w => toldD g.1 (twOf w))))
  | [], _, m, acc, y2, y3, y4, y5, y6, y7, y8, u, hf, _ => ⟨m, [some (.ref d), some (.ref fq), y2, y3, y4, y5, y6, y7, y8], by simp [forGo, isObj_ok (h0.up u).hg], ⟨_, _, _, _, _, _, _, rfl⟩, u, by simpa using hf⟩
  | y :: r, hy, m, acc, y2, y3, y4, y5, y6, y7, y8, u, hf, hl => by
    have hys := hy y (by simp)
    have hm := h0.up u
    have gk : getKv (st.sgs.map eKv) (.inr y.1) = some (edD y.2) := getKv_e h.go.nd hys
    have few := h.few y hys
    obtain ⟨mA, hA⟩ : ∃ mA, mA = m ++ [O.lst [], .dct false []] := ⟨_, rfl⟩
    have uA : Up [] m mA := by rw [hA]; exact Up.app
    obtain ⟨m1, q, ps, k1, k2, k3, k4, k5⟩ := lgo 32 mA d s p l g true xs st y.2.1 y.2 [] [] m.length (m.length + 1) h.go h.ne (by have := h.sg; omega) (hm.up uA) (by rw [hA]; simp) (by rw [hA]; simp)
      (fun z hz => by have := hm.low.2.2.2.2.2 z hz; omega) (by simp) (by simp) (by have := h.go.sl; simp; omega) (by simp) (by simp) (by omega)
    have u1 := uA.then k2
    have lf := get_lt hf
    have lA : mA.length = m.length + 2 := by rw [hA]; simp
    have psl : ps.length = (wys st.lks st.sgs y.2.1 32 y.2 [] []).length := by rw [← k4.w]; simp
    simp only [List.length_cons, Nat.add_mul] at hl
    obtain ⟨m2, ρ2, e1, ⟨z3, z4, z5, z6, z7, z8, rfl⟩, e2, e3⟩ := lr_inner (fq := fq) (d0 := .ref d) (sg := y.1) ps m1 acc (some (edD y.2)) y4 y5 y6 y7 y8
      (fun x hx => by
        have hw : WyOk (st.pts.map (·.1)) st.secs x.1 := h.way _ (by rw [← k4.w]; exact List.mem_map.mpr ⟨x, hx, rfl⟩)
        have := (k4.lo x hx).1
        exact ⟨(k4.r x hx).1, (k4.r x hx).2, hw.nd, hw.len (by simpa using h.pl), by omega, by omega⟩) (u1.get _ _ hf nofun) (by omega) k3 (by omega)
    have u20 : Up [] m0 m2 := (u.then u1).trans e2 (by simp; omega)
    obtain ⟨m3, ρ3, f1, f2, f3, f4⟩ := lr_loop h h0 hfq r (fun z hz => hy z (by simp [hz])) m2 _ (some (.str y.1)) z3 z4 z5 z6 z7 z8 u20 e3 (by simp; omega)
    have it : iList (eFn (m_law_ways 32) (aCons (eV 0) (aCons (eOp pIx (eV 3) (eC (.int 0))) (aCons (eV 3) (aCons (eLst aNil) (aCons eD0 aNil)))))) [some (.ref d), some (.ref fq), some (.str y.1), some (edD y.2), y4, y5, y6, y7, y8] m = .ok (ps.map wD, fun M => isObj M q (.lst (ps.map wD))) m1 := by
      rw [hA] at k1
      simp [k1, k3]
    have b1 : lrBody [some (.ref d), some (.ref fq), some (.str y.1), y3, y4, y5, y6, y7, y8] m = .nx [some (.ref d), some (.ref fq), some (.str y.1), z3, z4, z5, z6, z7, z8] m2 := by
      have a3 : (sAsg (gV 3) (eOp pIx (eOp pIx (eV 0) (eC (.str [115, 105, 103, 110, 97, 108, 115]))) (eV 2))) [some (.ref d), some (.ref fq), some (.str y.1), y3, y4, y5, y6, y7, y8] m = .nx [some (.ref d), some (.ref fq), some (.str y.1), some (edD y.2), y4, y5, y6, y7, y8] m := by
        simp [hm.hd, hm.hg, gk]
      rw [lrBody, sSeq_eq, a3, sq1_nx, sFor_eq, it, fo1_ok, e1]
    refine ⟨m3, ρ3, ?_, f2, f3, ?_⟩
    · simp only [List.map_cons, forGo, isObj_ok hm.hg, if_true, gV, List.set_cons_succ, List.set_cons_zero, b1]
      exact f1
    · rw [f4, List.flatMap_cons, ← List.append_assoc, ← k4.w, List.map_map]; rfl
theorem law_routes_ok (h : RoOk st) (hst : StL m d s p l g false xs st) : ∃ m1 q, m_law_routes [.ref d] m = .ok (.ref q) m1 ∧ Up [] m m1 ∧ m1[q]? = some (.lst ((twsOf st).map tlD)) := by
  obtain ⟨mA, hA⟩ : ∃ mA, mA = m ++ [O.lst []] := ⟨_, rfl⟩
  have uA : Up [] m mA := by rw [hA]; exact Up.app
  have gA : mA[m.length]? = some (.lst []) := by rw [hA]; exact get_new
  have hAs := hst.up uA
  have lg := hst.low.2.2.2.2.1
  have kL := hst.lock true
  obtain ⟨mB, hB⟩ : ∃ mB, mB = m.set g (.dct true (st.sgs.map eKv)) := ⟨_, rfl⟩
  have eAL : mA.set g (.dct true (st.sgs.map eKv)) = mB ++ [.lst []] := by rw [hA, hB, List.set_append_left _ _ lg]
  rw [← hB] at kL
  have lB : mB.length = m.length := by rw [hB]; simp
  have uB : Up [] mB (mA.set g (.dct true (st.sgs.map eKv))) := by rw [eAL]; exact Up.app
  have sgl := h.sg
  obtain ⟨m1, ρ1, e1, ⟨z2, z3, z4, z5, z6, z7, z8, rfl⟩, e2, e3⟩ := lr_loop (fq := m.length) h kL (by omega) st.sgs (fun _ h => h) (mA.set g (.dct true (st.sgs.map eKv))) [] none none none none none none none uB (by rw [get_set_ne (by omega)]; exact gA) (by simp [LIM]; omega)
  have gB1 := e2.get _ _ kL.hg nofun
  have it : iKeys (eOp pIx (eV 0) (eC (.str [115, 105, 103, 110, 97, 108, 115]))) [some (.ref d), some (.ref m.length), none, none, none, none, none, none, none] (mA.set g (.dct true (st.sgs.map eKv))) = .ok (st.sgs.map fun x => .str x.1, fun M => isObj M g (.dct true (st.sgs.map eKv))) (mA.set g (.dct true (st.sgs.map eKv))) := by
    have k := kL.up uB
    simp [k.hd, k.hg]; exact keysOf_t
  have fr : sFor (gV 2) (iKeys (eOp pIx (eV 0) (eC (.str [115, 105, 103, 110, 97, 108, 115])))) lrBody [some (.ref d), some (.ref m.length), none, none, none, none, none, none, none] (mA.set g (.dct true (st.sgs.map eKv))) = .nx [some (.ref d), some (.ref m.length), z2, z3, z4, z5, z6, z7, z8] m1 := by
    rw [sFor_eq, it, fo1_ok]; exact e1
  have sl := slock_nx (e := eOp pIx (eV 0) (eC (.str [115, 105, 103, 110, 97, 108, 115]))) (m' := mA) (by simp [hAs.hd]) hAs.hg fr gB1
  have u2 : Up [] m (m1.set g (.dct false (st.sgs.map eKv))) := (up_lock (o' := .dct true (st.sgs.map eKv)) hst.hg (by rw [← hB]; exact e2)).1
  refine ⟨m1.set g (.dct false (st.sgs.map eKv)), m.length, ?_, u2, ?_⟩
  · have ev : m_law_routes [.ref d] m = fnK (sq1 (sRet (eV 1)) (sLock (eOp pIx (eV 0) (eC (.str [115, 105, 103, 110, 97, 108, 115]))) (sFor (gV 2) (iKeys (eOp pIx (eV 0) (eC (.str [115, 105, 103, 110, 97, 108, 115])))) lrBody) [some (.ref d), some (.ref m.length), none, none, none, none, none, none, none] mA)) := by
      rw [hA]; simp [-sFor_eq, m_law_routes, m_law_routes_body, lrBody, lrIn]
    rw [ev, sl]; simp
  · rw [get_set_ne (by omega), e3]
    simp only [List.nil_append, twsOf, rtsOf, List.map_flatMap, List.map_map]
    rfl
end
end Mn
end

section
set_option linter.all false
namespace Mn
variable {M : M} {r d s p l g B : Nat} {scr : List Int} {st : St}
theorem addP_inv {st : St} (h : InvL st) {one b : Ed} (h1 : Fee st one) (h2 : Fee st b) (hne : b.1 ≠ one.1) : SprInv st (addL st ⟨one, b, []⟩) one [b] := by
  have i := h.addL (k := ⟨one, b, []⟩) ⟨⟨h1.s, h1.z⟩, ⟨h2.s, h2.z⟩, fun e => hne e.symm, by simp, by simp, by simp⟩ (by
    intro k' hk'; simp [h1.no hk', h2.no hk']) (by
    rintro e (rfl | rfl)
    · exact h1.c00
    · exact h2.c00)
  refine ⟨i, fun e he hu => ?_, ⟨rfl, rfl, rfl⟩, by simp [addL]⟩
  simp only [List.mem_cons, List.not_mem_nil, or_false, not_or] at hu
  exact he.addL hu.1 hu.2
def iterD : MS := (sIf (tAnd (tV (eOp pGt (eUn pLen (eV 9)) (eC (.int 1)))) (tAnd (tV (eOp pLt (eUn pLen (eOp pIx (eV 5) (eC (.str [112, 111, 105, 110, 116, 115])))) (eC (.int 9)))) (tV (eOp pEq (eFn m_law_taken (aCons (eV 0) (aCons (eC (.int 2)) aNil))) (eC (.int 1)))))) (sAsg (gV 11) (eOp pAdd (eV 11) (eFn m_law_spread (aCons (eV 0) (aCons (eV 5) (aCons (eV 8) (aCons (eV 9) aNil))))))) (sIf (tV (eOp pNe (eV 9) (eLst aNil))) (sSeq (sAsg (gV 12) (eOp pIx (eV 9) (eFn m_law_taken (aCons (eV 0) (aCons (eUn pLen (eV 9)) aNil)))))
    (sSeq (sExp (eM1 0 pAppend (eOp pIx (eV 5) (eC (.str [108, 105, 110, 107, 115]))) (eTup (aCons (eV 8) (aCons (eV 12) (aCons eD0 aNil))))))
    (sExp (eM1 0 pAppend (eV 11) (eV 12))))) sPass))
theorem iterD_ok (h : StW M r d s p l g B scr st) {q9 q11 : Nat} {others : List Ed} {one : Ed} {x1 x2 x3 x4 x6 x7 x10 x12 x13 : Option D} (h9 : M[q9]? = some (.lst (others.map edD))) (h11 : M[q11]? = some (.lst [edD one])) (b9 : B ≤ q9) (b11 : B ≤ q11) (n911 : q9 ≠ q11) (s9 : s ≠ q9) (s11 : s ≠ q11)
    (inv : InvL st) (f1 : others = [] ∨ Fee st one) (f2 : ∀ e ∈ others, Fee st e ∧ e.1 ≠ one.1) (nd : others.Nodup) (ol : others.length ≤ 100) (ll : st.lks.length ≤ 50) :
    ∃ M' st' used q11' x12', iterD [some (.ref r), x1, x2, x3, x4, some (.ref d), x6, x7, some (edD one), some (.ref q9), x10, some (.ref q11), x12, x13] M = .nx [some (.ref r), x1, x2, x3, x4, some (.ref d), x6, x7, some (edD one), some (.ref q9), x10, some (.ref q11'), x12', x13] M' ∧
      M'[q11']? = some (.lst ((one :: used).map edD)) ∧ StW M' r d s p l g B scr st' ∧ SprInv st st' one used ∧ Up [r, p, l, q9, q11] M M' := by
  have o := h.o
  have hd := h.hd
  have hp := h.hp
  -- the test
  have test : ∃ bb MD, (tAnd (tV (eOp pGt (eUn pLen (eV 9)) (eC (.int 1)))) (tAnd (tV (eOp pLt (eUn pLen (eOp pIx (eV 5) (eC (.str [112, 111, 105, 110, 116, 115])))) (eC (.int 9)))) (tV (eOp pEq (eFn m_law_taken (aCons (eV 0) (aCons (eC (.int 2)) aNil))) (eC (.int 1))))))
      [some (.ref r), x1, x2, x3, x4, some (.ref d), x6, x7, some (edD one), some (.ref q9), x10, some (.ref q11), x12, x13] M = .ok bb MD ∧ StW MD r d s p l g B scr st ∧ Up [r] M MD ∧ (bb = true → 1 < others.length ∧ st.pts.length ≤ 8) := by
    by_cases c1 : 1 < others.length
    · by_cases c2 : st.pts.length ≤ 8
      · obtain ⟨k, MD, k1, k2, k3, k4, k5⟩ := h.taken (N := 2) (by omega) (by omega)
        have c1' : (1 : Int) < (others.length : Int) := by omega
        have c2' : (st.pts.length : Int) < 9 := by omega
        exact ⟨decide ((k : Int) = 1), MD, by simp [h9, c1', hd, hp, c2', k2], k3, k4, fun _ => ⟨c1, c2⟩⟩
      · have c1' : (1 : Int) < (others.length : Int) := by omega
        have c2' : ¬ (st.pts.length : Int) < 9 := by omega
        exact ⟨false, M, by simp [h9, c1', hd, hp, c2'], h, Up.refl _ _, by simp⟩
    · have c1' : ¬ (1 : Int) < (others.length : Int) := by omega
      exact ⟨false, M, by simp [h9, c1'], h, Up.refl _ _, by simp⟩
  obtain ⟨bb, MD, t1, t2, t3, t4⟩ := test
  have h9' := t3.get _ _ h9 (by simp; omega)
  have h11' := t3.get _ _ h11 (by simp; omega)
  have u0 : Up [r, p, l, q9, q11] M MD := t3.mono (by simp)
  cases bb with
  | true =>
    obtain ⟨c1, c2⟩ := t4 rfl
    have fo : Fee st one := f1.resolve_left (fun e => by rw [e] at c1; simp at c1)
    obtain ⟨u, MS, st', used, a1, a2, a3, a4, a5, a6⟩ := spread_ok t2 (one := one) h9' b9 s9 (by omega) ol c2 inv.pk (by omega)
    have i11 := a5.get _ _ h11' (by simp; omega)
    have si := spr_inv inv fo f2 nd c2 a4
    have ul : used.length ≤ 3 := by cases a4 <;> simp
    have ad : pAdd (.ref q11) (.ref u) MS = .ok (.ref MS.length) (MS ++ [.lst ((one :: used).map edD)]) := by
      rw [pAdd_ref, i11, a2, catOb_ok (by simp [LIM]; omega)]; rfl
    refine ⟨_, st', used, MS.length, x12, ?_, get_new, a3.up Up.app, si, (u0.trans a5 (by simp)).then Up.app⟩
    simp [-tAnd_eq, iterD, t1, a1, ad]
  | false =>
    have z1 := (Up.app (l := [O.lst []])).get _ _ h9' nofun
    have e1 : eqO (MD ++ [.lst []]) (.ref q9) (.ref MD.length) = some (decide (others = [])) := eqO_nil_e z1 get_new
    by_cases ho : others = []
    · refine ⟨MD ++ [.lst []], st, [], q11, x12, ?_, get_app h11' _, t2.up Up.app, ⟨inv, fun e he _ => he, ⟨rfl, rfl, rfl⟩, by omega⟩, u0.then Up.app⟩
      simp [-tAnd_eq, iterD, t1, e1, ho]
    · have fo : Fee st one := f1.resolve_left ho
      have ol0 : 0 < others.length := List.length_pos_iff.mpr ho
      obtain ⟨ME, hME⟩ : ∃ ME, ME = MD ++ [O.lst []] := ⟨_, rfl⟩
      have vE : Up [] MD ME := by rw [hME]; exact Up.app
      rw [← hME] at z1 e1
      obtain ⟨k, MF, k1, k2, k3, k4, k5⟩ := (t2.up vE).taken (N := (others.length : Int)) (by omega) (by omega)
      have z2 := k4.get _ _ z1 (by simp; omega)
      obtain ⟨b, hb⟩ : ∃ b, b = others[k]'(by omega) := ⟨_, rfl⟩
      have pb : pIx (.ref q9) (.int (k : Int)) MF = .ok (edD b) MF := pIx_lst z2 (by rw [hb, List.getElem?_map, List.getElem?_eq_getElem (by omega)]; rfl)
      have bm : b ∈ others := by rw [hb]; exact List.getElem_mem _
      obtain ⟨ld, d1, d2, MG, d3, d4, d5⟩ := k3.addL ⟨one, b, []⟩ (by omega)
      have i11 := d5.get _ _ (k4.get _ _ (vE.get _ _ h11' nofun) (by simp; omega)) (by simp; omega)
      have ap := row_ok (v := edD b) i11 (by simp)
      rw [pAppend_ref, i11] at ap
      have hd' := k3.hd
      have si := addP_inv inv fo (f2 b bm).1 (f2 b bm).2
      simp only [List.map_nil] at d2 d3
      refine ⟨MG.set q11 (.lst ([edD one] ++ [edD b])), _, [b], q11, some (edD b), ?_, by rw [get_set_self i11]; rfl, d4.upf i11 (by omega), si, ?_⟩
      · simp [-tAnd_eq, iterD, t1, ← hME, e1, ho, z1, k2, pb, hd', d1, d2, d3, i11]
        simp at ap
        simp [ap]
      · exact (((u0.then vE).trans k4 (by simp)).trans d5 (by simp)).trans Up.set (by simp)
def iterBody : MS := (sSeq (sAsg (gV 8) (eIf (tV (eOp pNe (eV 6) (eLst aNil))) (eOp pIx (eV 6) (eFn m_law_taken (aCons (eV 0) (aCons (eUn pLen (eV 6)) aNil)))) (eTup (aCons (eC (.str [])) (aCons (eC (.int 0)) aNil)))))
    (sSeq (sAsg (gV 9) (eLc 10 (iList (eV 6)) (tV (eOp pNe (eOp pIx (eV 10) (eC (.int 0))) (eOp pIx (eV 8) (eC (.int 0))))) (eV 10)))
    (sSeq (sAsg (gV 11) (eLst (aCons (eV 8) aNil)))
    (sSeq iterD
    (sAsg (gV 6) (eLc 10 (iList (eV 6)) (tV (eOp pNotIn (eV 10) (eV 11))) (eV 10)))))))
theorem iter_ok (h : StW M r d s p l g B scr st) {f : Nat} {free : List Ed} {x1 x2 x3 x4 x7 x8 x9 x10 x11 x12 x13 : Option D} (hf : M[f]? = some (.lst (free.map edD))) (bf : B ≤ f) (sB : s < B)
    (inv : InvL st) (fr : ∀ e ∈ free, Fee st e) (nd : free.Nodup) (fl : free.length ≤ 90) (ll : st.lks.length ≤ 50) :
    ∃ (M' : Mn.M) (st' : St) (free' : List Ed) (f' : Nat) (y8 y9 y10 y11 y12 : Option D), iterBody [some (.ref r), x1, x2, x3, x4, some (.ref d), some (.ref f), x7, x8, x9, x10, x11, x12, x13] M = .nx [some (.ref r), x1, x2, x3, x4, some (.ref d), some (.ref f'), x7, y8, y9, y10, y11, y12, x13] M' ∧
      StW M' r d s p l g B scr st' ∧ M'[f']? = some (.lst (free'.map edD)) ∧ B ≤ f' ∧ InvL st' ∧ (∀ e ∈ free', Fee st' e) ∧ free'.Nodup ∧ free'.length ≤ 90 ∧ st'.lks.length ≤ st.lks.length + 3 ∧ st'.secs = st.secs ∧ st'.turn = st.turn ∧ st'.sgs = st.sgs ∧ Up [r, p, l] M M' := by
  have o := h.o
  -- one
  have one : ∃ (one : Ed) (MA : Mn.M), (eIf (tV (eOp pNe (eV 6) (eLst aNil))) (eOp pIx (eV 6) (eFn m_law_taken (aCons (eV 0) (aCons (eUn pLen (eV 6)) aNil)))) (eTup (aCons (eC (.str [])) (aCons (eC (.int 0)) aNil)))) [some (.ref r), x1, x2, x3, x4, some (.ref d), some (.ref f), x7, x8, x9, x10, x11, x12, x13] M = .ok (edD one) MA ∧
      StW MA r d s p l g B scr st ∧ Up [r] M MA ∧ (free = [] ∨ one ∈ free) := by
    have z1 := (Up.app (l := [O.lst []])).get _ _ hf nofun
    have e1 : eqO (M ++ [.lst []]) (.ref f) (.ref M.length) = some (decide (free = [])) := eqO_nil_e z1 get_new
    obtain ⟨ME, hME⟩ : ∃ ME, ME = M ++ [O.lst []] := ⟨_, rfl⟩
    have vE : Up [] M ME := by rw [hME]; exact Up.app
    rw [← hME] at z1 e1
    by_cases h0 : free = []
    · refine ⟨([], 0), ME, ?_, h.up vE, vE.mono (by simp), .inl h0⟩
      simp [← hME, e1, h0, edD]
    · have l0 : 0 < free.length := List.length_pos_iff.mpr h0
      obtain ⟨k, MF, k1, k2, k3, k4, k5⟩ := (h.up vE).taken (N := (free.length : Int)) (by omega) (by omega)
      have z2 := k4.get _ _ z1 (by simp; omega)
      have pb : pIx (.ref f) (.int (k : Int)) MF = .ok (edD (free[k]'(by omega))) MF := pIx_lst z2 (by rw [List.getElem?_map, List.getElem?_eq_getElem (by omega)]; rfl)
      refine ⟨free[k]'(by omega), MF, ?_, k3, (vE.mono (by simp)).trans k4 (by simp), .inr (List.getElem_mem _)⟩
      simp [-pIx_ref, ← hME, e1, h0, z1, k2, pb]
  obtain ⟨one, MA, a1, a2, a3, a4⟩ := one
  have f1 := a3.get _ _ hf (by simp; omega)
  -- others
  obtain ⟨others, ho⟩ : ∃ others, others = free.filter fun e => !decide (e.1 = one.1) := ⟨_, rfl⟩
  have lc := lc_pure (i := 10) (ρ := [some (.ref r), x1, x2, x3, x4, some (.ref d), some (.ref f), x7, some (edD one), x9, x10, x11, x12, x13]) (it := iList (eV 6)) (chk := fun M => isObj M f (.lst (free.map edD)))
    (t := tV (eOp pNe (eOp pIx (eV 10) (eC (.int 0))) (eOp pIx (eV 8) (eC (.int 0))))) (e := eV 10) (m0 := MA) (m := MA) edD (fun e => !decide (e.1 = one.1)) edD free (by simp [f1]) (isObj_ok f1) (by omega)
    (by intro x _; simp) (by intro x _ _; simp)
  rw [← ho] at lc
  obtain ⟨MB, hMB⟩ : ∃ MB, MB = MA ++ [O.lst (others.map edD)] := ⟨_, rfl⟩
  obtain ⟨MC, hMC⟩ : ∃ MC, MC = MB ++ [O.lst [edD one]] := ⟨_, rfl⟩
  have vB : Up [] MA MB := by rw [hMB]; exact Up.app
  have vC : Up [] MB MC := by rw [hMC]; exact Up.app
  have g9 : MB[MA.length]? = some (.lst (others.map edD)) := by rw [hMB]; exact get_new
  have g11 : MC[MB.length]? = some (.lst [edD one]) := by rw [hMC]; exact get_new
  rw [← hMB] at lc
  have lB : MB.length = MA.length + 1 := by rw [hMB]; simp
  have lA : M.length ≤ MA.length := a3.le
  have of : ∀ e ∈ others, Fee st e ∧ e.1 ≠ one.1 := fun e he => by
    rw [ho] at he
    obtain ⟨h1, h2⟩ := List.mem_filter.mp he
    exact ⟨fr e h1, by simpa using h2⟩
  have f1' : others = [] ∨ Fee st one := by
    rcases a4 with e | e
    · left; rw [ho, e]; rfl
    · exact .inr (fr _ e)
  have ond : others.Nodup := by rw [ho]; exact nd.filter _
  have ol : others.length ≤ free.length := by rw [ho]; exact List.length_filter_le ..
  obtain ⟨MD, st', used, q11, x12', d1, d2, d3, d4, d5⟩ := iterD_ok (x1 := x1) (x2 := x2) (x3 := x3) (x4 := x4) (x6 := some (.ref f)) (x7 := x7) (x10 := x10) (x12 := x12) (x13 := x13) (a2.up (vB.then vC)) (vC.get _ _ g9 nofun) g11 (by omega) (by omega) (by omega) (by omega) (by omega) inv f1' of ond (by omega) ll
  have fD := d5.get _ _ ((vB.then vC).get _ _ f1 nofun) (by have := get_lt hf; simp; omega)
  -- free
  obtain ⟨free', hfr⟩ : ∃ free', free' = free.filter fun e => !decide (e ∈ one :: used) := ⟨_, rfl⟩
  have lc2 := lc_pure (i := 10) (ρ := [some (.ref r), x1, x2, x3, x4, some (.ref d), some (.ref f), x7, some (edD one), some (.ref MA.length), x10, some (.ref q11), x12', x13]) (it := iList (eV 6)) (chk := fun M => isObj M f (.lst (free.map edD)))
    (t := tV (eOp pNotIn (eV 10) (eV 11))) (e := eV 10) (m0 := MD) (m := MD) edD (fun e => !decide (e ∈ one :: used)) edD free (by simp [fD]) (isObj_ok fD) (by omega)
    (by intro x _; have := inO_eds (e := x) d2; simp [this]) (by intro x _ _; simp)
  rw [← hfr] at lc2
  refine ⟨MD ++ [.lst (free'.map edD)], st', free', MD.length, some (edD one), some (.ref MA.length), x10, some (.ref q11), x12', ?_, d3.up Up.app, get_new, d3.o.2.2.2.2.2, d4.inv, ?_, ?_, ?_, d4.len, d4.same.1, d4.same.2.1, d4.same.2.2, ?_⟩
  · simp [-eIf_eq, iterBody, a1, lc, ← hMC, d1, lc2]
  · intro e he
    rw [hfr] at he
    obtain ⟨h1, h2⟩ := List.mem_filter.mp he
    exact d4.fr e (fr e h1) (by simpa using h2)
  · rw [hfr]; exact nd.filter _
  · have : free'.length ≤ free.length := by rw [hfr]; exact List.length_filter_le ..
    omega
  · refine ((((a3.mono (S' := [r, p, l]) (by simp)).then vB).then vC).trans d5 ?_).then Up.app
    have : M.length ≤ MA.length := a3.le
    intro i hi
    simp at hi ⊢
    omega
end Mn
end

section
set_option linter.all false
namespace Mn
variable {M : M} {r d s p l g B : Nat} {scr : List Int} {st : St}
def zname (t i : Nat) : Tx := 122 :: numT ((t + 3 * i) % 16)
theorem zname_inj {t i j : Nat} (hi : i < 16) (hj : j < 16) (h : zname t i = zname t j) : i = j := by
  simp only [zname, List.cons.injEq, true_and] at h
  have := numT_inj _ (Nat.mod_lt _ (by omega)) _ (Nat.mod_lt _ (by omega)) h
  omega
/-- the signals so far -/
structure SgI (st : St) (done : List Ed) : Prop where
  nm : st.sgs.map (·.1) = (List.range st.sgs.length).map (zname st.turn)
  le : st.sgs.length ≤ 16
  sub : List.Sublist (st.sgs.map (·.2)) done
  ok : ∀ x ∈ st.sgs, x.2.1 ∈ st.secs ∧ x.2.2 < 2
def sgStep : MS := sIf (tAnd (tV (eOp pGt (eFn m_law_taken (aCons (eV 0) (aCons (eC (.int 3)) aNil))) (eC (.int 0)))) (tV (eOp pLt (eUn pLen (eOp pIx (eV 5) (eC (.str [115, 105, 103, 110, 97, 108, 115])))) (eC (.int 16))))) (sSetIx (eOp pIx (eV 5) (eC (.str [115, 105, 103, 110, 97, 108, 115]))) (eOp pAdd (eC (.str [122])) (eUn pStr (eOp pMod (eOp pAdd (eV 2) (eOp pMul (eC (.int 3)) (eUn pLen (eOp pIx (eV 5) (eC (.str [115, 105, 103, 110, 97, 108, 115])))))) (eC (.int 16))))) (eTup (aCons (eV 7) (aCons (eV 13) aNil)))) sPass
theorem sgStep_ok (h : StW M r d s p l g B scr st) {done : List Ed} {e : Ed} {x1 x3 x4 x6 x8 x9 x10 x11 x12 : Option D} (i : SgI st done) (hs : e.1 ∈ st.secs) (hz : e.2 < 2) (inv : InvL st) :
    ∃ (M' : Mn.M) (st' : St), sgStep [some (.ref r), x1, some (.int (st.turn : Int)), x3, x4, some (.ref d), x6, some (.str e.1), x8, x9, x10, x11, x12, some (.int (e.2 : Int))] M = .nx [some (.ref r), x1, some (.int (st.turn : Int)), x3, x4, some (.ref d), x6, some (.str e.1), x8, x9, x10, x11, x12, some (.int (e.2 : Int))] M' ∧
      StW M' r d s p l g B scr st' ∧ SgI st' (done ++ [e]) ∧ InvL st' ∧ st'.lks = st.lks ∧ st'.secs = st.secs ∧ st'.turn = st.turn ∧ Up [r, g] M M' := by
  have o := h.o
  obtain ⟨k, MA, k1, k2, k3, k4, k5⟩ := h.taken (N := 3) (by omega) (by omega)
  have hd := k3.hd
  have hg := k3.hg
  have skip : SgI st (done ++ [e]) := ⟨i.nm, i.le, i.sub.trans (List.sublist_append_left ..), i.ok⟩
  by_cases c1 : 0 < k
  · have c1' : (0 : Int) < (k : Int) := by omega
    by_cases c2 : st.sgs.length < 16
    · obtain ⟨n, hn⟩ : ∃ n, n = st.sgs.length := ⟨_, rfl⟩
      have c2' : (n : Int) < 16 := by omega
      obtain ⟨N0, hN0⟩ : ∃ N0, N0 = (st.turn + 3 * n) % 16 := ⟨_, rfl⟩
      obtain ⟨Z, hZ⟩ : ∃ Z, Z = zname st.turn n := ⟨_, rfl⟩
      have mul : ∀ (x : Int) (m : Mn.M), pMul (.int 3) (.int x) m = .ok (.int (3 * x)) m := fun x m => pMul_l (by decide)
      have q0 : ∀ M, pMod (.int ((st.turn : Int) + 3 * (n : Int))) (.int 16) M = .ok (.int (N0 : Int)) M := fun M => by rw [hN0]; exact pMod_nat (by omega) rfl (by omega)
      have t0 : ∀ M, pStr (.int (N0 : Int)) M = .ok (.str (numT N0)) M := fun M => pStr_nat (by omega)
      have c0 : ∀ M, pAdd (.str [122]) (.str (numT N0)) M = .ok (.str Z) M := fun M => by
        have := (numT_16 N0 (by omega)).1
        rw [cat_ok (by simp; omega), hZ, hN0]; rfl
      have zn : Z ∉ st.sgs.map (·.1) := by
        rw [i.nm, hZ, ← hn]; intro q
        obtain ⟨j, hj, q⟩ := List.mem_map.mp q
        have hj := List.mem_range.mp hj
        have := zname_inj (by omega) (by omega) q; omega
      obtain ⟨a1, a2⟩ := k3.addG (x := (Z, e)) zn (by omega)
      simp only [edD, List.map_append, List.map_cons, List.map_nil] at a1
      refine ⟨_, addG st (Z, e), ?_, a2, ?_, ⟨inv.pk, inv.pl, inv.pv, fun x hx => ?_, inv.ap, inv.dg⟩, rfl, rfl, rfl, (k4.mono (by simp)).trans Up.set (by simp)⟩
      · simp [sgStep, k2, c1, hd, hg, ← hn, c2', mul, q0, t0, c0, a1]
      · refine ⟨?_, by simp [addG]; omega, ?_, ?_⟩
        · simp [addG, i.nm, List.range_succ, hZ, hn]
        · simp only [addG, List.map_append, List.map_cons, List.map_nil]; exact i.sub.append_right [e]
        · intro x hx
          rcases List.mem_append.mp hx with hx | hx
          · exact i.ok x hx
          · obtain rfl := List.mem_singleton.mp hx
            exact ⟨hs, hz⟩
      · obtain ⟨b1, b2, b3, b4, b5, b6⟩ := inv.lk x hx
        exact ⟨b1, b2, b3, b4, b5, b6⟩
    · have c2' : ¬ (st.sgs.length : Int) < 16 := by omega
      refine ⟨MA, st, ?_, k3, skip, inv, rfl, rfl, rfl, k4.mono (by simp)⟩
      simp [sgStep, k2, c1, hd, hg, c2']
  · have c1' : ¬ (0 : Int) < (k : Int) := by omega
    refine ⟨MA, st, ?_, k3, skip, inv, rfl, rfl, rfl, k4.mono (by simp)⟩
    simp [sgStep, k2, c1]
def pairsOf (ns : List Tx) : List Ed := ns.flatMap fun n => [(n, 0), (n, 1)]
def sgLoop : MS := (sFor (gV 7) (iList (eV 3)) (sFor (gV 13) (iRng1 (eC (.int 2))) sgStep))
theorem sgLoop_ok (h : StW M r d s p l g B scr st) {x1 x4 x6 x7 x8 x9 x10 x11 x12 x13 : Option D} (i : SgI st []) (inv : InvL st) (hl : st.secs.length ≤ 100) :
    ∃ (ρ' : Fr) (M' : Mn.M) (st' : St), sgLoop [some (.ref r), x1, some (.int (st.turn : Int)), some (.ref s), x4, some (.ref d), x6, x7, x8, x9, x10, x11, x12, x13] M = .nx ρ' M' ∧ ρ'[5]? = some (some (.ref d)) ∧
      StW M' r d s p l g B scr st' ∧ SgI st' (pairsOf st.secs) ∧ InvL st' ∧ st'.lks = st.lks ∧ st'.secs = st.secs ∧ st'.turn = st.turn := by
  obtain ⟨ρ', M', e1, st', ⟨y6, y7, y13, rfl⟩, e2, e3, e4, e5, e6, e7⟩ := for_all (g := gV 7) (it := iList (eV 3)) (chk := fun M => isObj M s (.lst (st.secs.map .str))) (body := sFor (gV 13) (iRng1 (eC (.int 2))) sgStep)
    (ρ := [some (.ref r), x1, some (.int (st.turn : Int)), some (.ref s), x4, some (.ref d), x6, x7, x8, x9, x10, x11, x12, x13]) (m := M) (m1 := M) D.str st.secs
    (fun pre ρ M' => ∃ st', (∃ y6 y7 y13, ρ = [some (.ref r), x1, some (.int (st.turn : Int)), some (.ref s), x4, some (.ref d), y6, y7, x8, x9, x10, x11, x12, y13]) ∧ StW M' r d s p l g B scr st' ∧ SgI st' (pairsOf pre) ∧ InvL st' ∧ st'.lks = st.lks ∧ st'.secs = st.secs ∧ st'.turn = st.turn)
    (by simp [h.hs]) ⟨st, ⟨_, _, _, rfl⟩, h, i, inv, rfl, rfl, rfl⟩
    (by
      rintro pre x post ρ M' hx ⟨st', ⟨y6, y7, y13, rfl⟩, c1, c2, c3, c4, c5, c6⟩
      have hx2 : x ∈ st'.secs := by rw [c5, hx]; simp
      obtain ⟨MA, sA, a1, a2, a3, a4, a5, a6, a7, a8⟩ := sgStep_ok (e := (x, 0)) (x1 := x1) (x3 := some (.ref s)) (x4 := x4) (x6 := y6) (x8 := x8) (x9 := x9) (x10 := x10) (x11 := x11) (x12 := x12) c1 c2 hx2 (by simp) c3
      obtain ⟨MB, sB, b1, b2, b3, b4, b5, b6, b7, b8⟩ := sgStep_ok (e := (x, 1)) (x1 := x1) (x3 := some (.ref s)) (x4 := x4) (x6 := y6) (x8 := x8) (x9 := x9) (x10 := x10) (x11 := x11) (x12 := x12) a2 a3 (by rw [a6]; exact hx2) (by simp) a4
      rw [c6] at a1
      rw [a7, c6] at b1
      have hr : iRng1 (eC (.int 2)) [some (.ref r), x1, some (.int (st.turn : Int)), some (.ref s), x4, some (.ref d), y6, some (.str x), x8, x9, x10, x11, x12, y13] M' = .ok ([.int 0, .int 1], fun _ => true) M' := rfl
      have hs : M'[s]? = some (.lst (st.secs.map .str)) := by rw [← c5]; exact c1.hs
      refine ⟨isObj_ok hs, _, [some (.ref r), x1, some (.int (st.turn : Int)), some (.ref s), x4, some (.ref d), y6, some (.str x), x8, x9, x10, x11, x12, some (.int 1)], MB, rfl, .inl ?_, sB, ⟨_, _, _, rfl⟩, b2, ?_, b4, by rw [b5, a5, c4], by rw [b6, a6, c5], by rw [b7, a7, c6]⟩
      · simp only [List.set_cons_succ, List.set_cons_zero, sFor_eq, hr, fo1_ok, forGo, if_true, gV]
        rw [show ((0 : Nat) : Int) = 0 from rfl] at a1
        rw [show ((1 : Nat) : Int) = 1 from rfl] at b1
        rw [a1]
        simp only [List.set_cons_succ, List.set_cons_zero]
        rw [b1]
      · have : pairsOf (pre ++ [x]) = pairsOf pre ++ [(x, 0)] ++ [(x, 1)] := by simp [pairsOf]
        rw [this]; exact b3)
    (by
      rintro ρ M' ⟨st', ⟨y6, y7, y13, rfl⟩, c1, c2, c3, c4, c5, c6⟩
      rw [← c5]; exact isObj_ok c1.hs)
  exact ⟨_, M', st', e1, rfl, e2, e3, e4, e5, e6, e7⟩
theorem pairs_nd {ns : List Tx} (h : ns.Nodup) : (pairsOf ns).Nodup := by
  induction ns with
  | nil => simp [pairsOf]
  | cons x r ih =>
    simp only [List.nodup_cons] at h
    have hm : ∀ k, (x, k) ∉ pairsOf r := fun k q => by
      simp only [pairsOf, List.mem_flatMap] at q
      obtain ⟨y, hy, q⟩ := q
      simp at q
      rcases q with q | q <;> exact h.1 (q.1 ▸ hy)
    have : pairsOf (x :: r) = (x, 0) :: (x, 1) :: pairsOf r := rfl
    rw [this]
    simp [hm, ih h.2]
theorem sg_ok {done : List Ed} (i : SgI st done) (nd : done.Nodup) : SgOk st where
  len := i.le
  ok := fun x hx => by
    have : x.1 ∈ st.sgs.map (·.1) := List.mem_map.mpr ⟨x, hx, rfl⟩
    rw [i.nm] at this
    obtain ⟨j, hj, e⟩ := List.mem_map.mp this
    exact ⟨⟨(st.turn + 3 * j) % 16, Nat.mod_lt _ (by omega), e.symm⟩, i.ok x hx⟩
  nd := by
    rw [i.nm, List.Nodup, List.pairwise_map]
    refine List.Pairwise.imp_of_mem ?_ (List.nodup_range (n := st.sgs.length))
    intro a b ha hb ne e
    have ha := List.mem_range.mp ha
    have hb := List.mem_range.mp hb
    have := i.le
    exact ne (zname_inj (by omega) (by omega) e)
  ends := nd.sublist i.sub
end Mn
end

section
set_option linter.all false
namespace Mn
variable {M : M} {r d s p l g B : Nat} {scr : List Int} {st : St}
def LET : Tx := [97, 98, 99, 100, 101, 102, 103, 104, 105, 106, 107, 108, 109, 110, 111, 113, 114, 115, 116, 117, 118, 119, 120, 121]
theorem pIx_str {s : Tx} {k : Nat} {c : Nat} {m : Mn.M} (h : s[k]? = some c) (hl : s.length ≤ 1000) : pIx (.str s) (.int (k : Int)) m = .ok (.str [c]) m := by
  have : s.length ≤ LIM := by simp only [LIM]; omega
  simp only [pIx, this, if_true, atI_nat, h]
theorem let_sign : ∀ c ∈ LET, c ∈ SIGNS ∧ c ≠ 112 ∧ c ≠ 122 := by decide
/-- a section's name: a word of a letter, a digit -/
def sname (c n t k : Nat) : Tx := List.replicate n c ++ numT ((t + 3 * k) % 8)
theorem sname_ok {c n t k : Nat} (hc : c ∈ LET) (h1 : 1 ≤ n) (h2 : n ≤ 4) : good (sname c n t k) ∧ (sname c n t k).head? ≠ some 112 ∧ (sname c n t k).head? ≠ some 122 := by
  obtain ⟨a1, a2, a3⟩ := let_sign c hc
  have e : sname c n t k = List.replicate n c ++ [48 + (t + 3 * k) % 8] := by rw [sname, numT_1 (by omega)]
  have hh : (sname c n t k).head? = some c := by
    rw [e]
    obtain ⟨j, rfl⟩ : ∃ j, n = j + 1 := ⟨n - 1, by omega⟩
    rfl
  refine ⟨⟨by rw [e]; simp, by rw [e]; simp; omega, ?_⟩, by rw [hh]; simpa using a2, by rw [hh]; simpa using a3⟩
  intro x hx
  rw [e] at hx
  rcases List.mem_append.mp hx with hx | hx
  · rw [(List.mem_replicate.mp hx).2]; exact a1
  · obtain rfl := List.mem_singleton.mp hx
    exact dig_sign _ (by omega)
theorem sname_inj {c n t i j : Nat} (hi : i < 8) (hj : j < 8) (h : sname c n t i = sname c n t j) : i = j := by
  rw [sname, sname, numT_1 (by omega), numT_1 (by omega)] at h
  have := List.append_cancel_left h
  simp only [List.cons.injEq, and_true] at this
  omega
theorem snames_ok {c n t k : Nat} (hc : c ∈ LET) (h1 : 1 ≤ n) (h2 : n ≤ 4) (hk : 2 ≤ k) (hk2 : k ≤ 8) : SecOk ((List.range k).map (sname c n t)) where
  ne := by simp; omega
  len := by simp; omega
  ok := fun s hs => by
    obtain ⟨i, _, rfl⟩ := List.mem_map.mp hs
    exact sname_ok hc h1 h2
  nd := by
    rw [List.Nodup, List.pairwise_map]
    refine List.Pairwise.imp_of_mem ?_ (List.nodup_range (n := k))
    intro a b ha hb ne e
    have ha := List.mem_range.mp ha
    have hb := List.mem_range.mp hb
    exact ne (sname_inj (by omega) (by omega) e)
theorem station_ok {m : Mn.M} (hr : Row m r scr) (h3 : ∃ (k : Nat) (m' : Mn.M), (k : Int) < 4 ∧ k ≠ 3 ∧ m_law_taken [.ref r, .int 4] m = .ok (.int (k : Int)) m' ∧ Row m' r scr ∧ Up [r] m m' ∧ m'.length = m.length) :
    ∃ m' d s p l g xs st, m_law_station [.ref r] m = .ok (.ref d) m' ∧ StL m' d s p l g false xs st ∧ Valid (nrmS st) ∧ Sz st ∧ DegOk st ∧ Row m' r scr ∧ (r ≠ d ∧ r ≠ s ∧ r ≠ p ∧ r ≠ l ∧ r ≠ g ∧ ∀ x ∈ xs, r ≠ x.2) := by
  obtain ⟨k0, m0, z1, z2, z3, z4, z5, z6⟩ := h3
  have rl : r < m.length := by obtain ⟨a, b, c, _, h⟩ := hr; exact get_lt h
  obtain ⟨k1, m1, a1, a2, a3, a4, a5⟩ := taken_ok z4 (N := 24) (by omega) (by omega)
  obtain ⟨k2, m2, b1, b2, b3, b4, b5⟩ := taken_ok a3 (N := 4) (by omega) (by omega)
  obtain ⟨t, m3, c1, c2, c3, c4, c5⟩ := taken_ok b3 (N := 16) (by omega) (by omega)
  obtain ⟨k4, m4, d1, d2, d3, d4, d5⟩ := taken_ok c3 (N := 7) (by omega) (by omega)
  obtain ⟨c, hc⟩ : ∃ c, LET[k1]? = some c := ⟨LET[k1]'(by simp [LET]; omega), List.getElem?_eq_getElem _⟩
  have hcm : c ∈ LET := List.mem_of_getElem? hc
  have px : pIx (.str LET) (.int (k1 : Int)) m1 = .ok (.str [c]) m1 := pIx_str hc (by simp [LET])
  have pm : pMul (.str [c]) (.int (1 + (k2 : Int))) m2 = .ok (.str (List.replicate (k2 + 1) c)) m2 := by
    simp only [pMul]
    rw [if_pos (by omega), show (1 + (k2 : Int)).toNat = k2 + 1 by omega]
  obtain ⟨names, hnames⟩ : ∃ names, names = (List.range (2 + k4)).map (sname c (k2 + 1) t) := ⟨_, rfl⟩
  have sok : SecOk names := by rw [hnames]; exact snames_ok hcm (by omega) (by omega) (by omega) (by omega)
  have nl : names.length ≤ 8 := by rw [hnames]; simp; omega
  -- the names
  have hrn : iRng1 (eOp pAdd (eC (.int 2)) (eFn m_law_taken (aCons (eV 0) (aCons (eC (.int 7)) aNil)))) [some (.ref r), some (.str (List.replicate (k2 + 1) c)), some (.int (t : Int)), none, none, none, none, none, none, none, none, none, none, none] m3 = .ok ((List.range (2 + k4)).map fun (k : Nat) => D.int (k : Int), fun _ => true) m4 :=
    rng1_ok (by simp [d2]) (by omega)
  have mul : ∀ (x : Int) (m : Mn.M), pMul (.int 3) (.int x) m = .ok (.int (3 * x)) m := fun x m => pMul_l (by decide)
  have q0 : ∀ (k : Nat) M, pMod (.int ((t : Int) + 3 * (k : Int))) (.int 8) M = .ok (.int (((t + 3 * k) % 8 : Nat) : Int)) M := fun k M => pMod_nat (by omega) rfl (by omega)
  have lcn := lc_map (i := 4) (ρ := [some (.ref r), some (.str (List.replicate (k2 + 1) c)), some (.int (t : Int)), none, none, none, none, none, none, none, none, none, none, none]) (it := iRng1 (eOp pAdd (eC (.int 2)) (eFn m_law_taken (aCons (eV 0) (aCons (eC (.int 7)) aNil)))))
    (e := eOp pAdd (eV 1) (eUn pStr (eOp pMod (eOp pAdd (eV 2) (eOp pMul (eC (.int 3)) (eV 4))) (eC (.int 8))))) (m0 := m3) (m := m4) (chk := fun _ => true) (fun (k : Nat) => D.int (k : Int)) (fun k => .str (sname c (k2 + 1) t k)) (List.range (2 + k4)) hrn rfl (by simp; omega)
    (by
      intro k _
      have t0 : pStr (.int (((t + 3 * k) % 8 : Nat) : Int)) m4 = .ok (.str (numT ((t + 3 * k) % 8))) m4 := pStr_nat (by omega)
      have c0 : pAdd (.str (List.replicate (k2 + 1) c)) (.str (numT ((t + 3 * k) % 8))) m4 = .ok (.str (sname c (k2 + 1) t k)) m4 := cat_ok (by rw [numT_1 (by omega)]; simp; omega)
      have q0' := q0 k m4
      obtain ⟨N, hN⟩ : ∃ N, N = (t + 3 * k) % 8 := ⟨_, rfl⟩
      rw [← hN] at q0' t0 c0
      simp [mul, q0', t0, c0])
  have hm : (List.range (2 + k4)).map (fun k => D.str (sname c (k2 + 1) t k)) = names.map .str := by rw [hnames, List.map_map]; rfl
  rw [hm] at lcn
  obtain ⟨m5, hm5⟩ : ∃ m5, m5 = m4 ++ [O.lst (names.map .str)] := ⟨_, rfl⟩
  obtain ⟨s0, hs0⟩ : ∃ s0, s0 = m4.length := ⟨_, rfl⟩
  rw [← hm5, ← hs0] at lcn
  have g5 : m5[s0]? = some (.lst (names.map .str)) := by rw [hm5, hs0]; exact get_new
  have l5 : m5.length = s0 + 1 := by rw [hm5, hs0]; simp
  -- the dict
  obtain ⟨d0, hd0⟩ : ∃ d0, d0 = m5.length := ⟨_, rfl⟩
  obtain ⟨m6, hm6⟩ : ∃ m6, m6 = m5 ++ [O.dct false [(.inr [115, 101, 99, 116, 105, 111, 110, 115], .ref s0), (.inr [112, 111, 105, 110, 116, 115], .ref (m5.length + 1)), (.inr [108, 105, 110, 107, 115], .ref (m5.length + 2)), (.inr [115, 105, 103, 110, 97, 108, 115], .ref (m5.length + 3)), (.inr [116, 117, 114, 110], .int (t : Int))],
    .dct false [], .lst [], .dct false [], .lst ((names.map fun n => ((n, 0) : Ed)).map edD), .lst ((names.map fun n => ((n, 1) : Ed)).map edD), .lst (((names.map fun n => ((n, 0) : Ed)) ++ names.map fun n => ((n, 1) : Ed)).map edD)] := ⟨_, rfl⟩
  have v6 : Up [] m5 m6 := by rw [hm6]; exact Up.app
  have r6 : Row m6 r scr := ((d3.up (S := []) (m' := m5) (by rw [hm5]; exact Up.app) nofun).up v6 nofun)
  have dc : dc2 m5.length (some [(.inr [115, 101, 99, 116, 105, 111, 110, 115], .ref s0), (.inr [112, 111, 105, 110, 116, 115], .ref (m5.length + 1)), (.inr [108, 105, 110, 107, 115], .ref (m5.length + 2)), (.inr [115, 105, 103, 110, 97, 108, 115], .ref (m5.length + 3)), (.inr [116, 117, 114, 110], .int (t : Int))]) (m5 ++ [.dct false [], .dct false [], .lst [], .dct false []]) =
      .ok (.ref m5.length) (m5 ++ [.dct false [(.inr [115, 101, 99, 116, 105, 111, 110, 115], .ref s0), (.inr [112, 111, 105, 110, 116, 115], .ref (m5.length + 1)), (.inr [108, 105, 110, 107, 115], .ref (m5.length + 2)), (.inr [115, 105, 103, 110, 97, 108, 115], .ref (m5.length + 3)), (.inr [116, 117, 114, 110], .int (t : Int))], .dct false [], .lst [], .dct false []]) := by
    rw [dc2_ok (by simp) (by simp)]; simp [putKv]
  have ends : ∀ (k : Nat) (K : Int) (M : Mn.M), K = (k : Int) → M[s0]? = some (.lst (names.map .str)) → eLc 7 (iList (eV 3)) tYes (eTup (aCons (eV 7) (aCons (eC (.int K)) aNil))) [some (.ref r), some (.str (List.replicate (k2 + 1) c)), some (.int (t : Int)), some (.ref s0), none, some (.ref m5.length), none, none, none, none, none, none, none, none] M
      = .ok (.ref M.length) (M ++ [.lst ((names.map fun n => ((n, k) : Ed)).map edD)]) := fun k K M hK hM => by
    subst hK
    have := lc_map (i := 7) (ρ := [some (.ref r), some (.str (List.replicate (k2 + 1) c)), some (.int (t : Int)), some (.ref s0), none, some (.ref m5.length), none, none, none, none, none, none, none, none]) (it := iList (eV 3)) (e := eTup (aCons (eV 7) (aCons (eC (.int (k : Int))) aNil))) (m0 := M) (m := M)
      (chk := fun M => isObj M s0 (.lst (names.map .str))) D.str (fun n => edD (n, k)) names (by simp [hM]) (isObj_ok hM) (by omega) (by intro x _; simp [edD])
    rw [this, List.map_map]; rfl
  have w6 : StW m6 r d0 s0 (d0 + 1) (d0 + 2) (d0 + 3) (d0 + 4) scr ⟨names, [], [], [], t⟩ := by
    refine ⟨r6, by rw [hm6]; simp; omega, by omega, ?_, v6.get _ _ g5 nofun, by rw [hm6, hd0]; simp, ⟨[], rfl, by rw [hm6, hd0]; simp, by simp⟩, by rw [hm6, hd0]; simp⟩
    rw [hm6, hd0]; simp
  have f6 : m6[d0 + 6]? = some (.lst (((names.map fun n => ((n, 0) : Ed)) ++ names.map fun n => ((n, 1) : Ed)).map edD)) := by rw [hm6, hd0]; simp
  have inv0 : InvL ⟨names, [], [], [], t⟩ := ⟨rfl, by simp, by simp, by simp, by simp, by simp⟩
  -- the loop
  obtain ⟨n7, m7, e1, e2, e3, e4, e5⟩ := w6.taken (N := 12) (by omega) (by omega)
  have f7 := e4.get _ _ f6 (by simp; omega)
  have hr7 : iRng1 (eFn m_law_taken (aCons (eV 0) (aCons (eC (.int 12)) aNil))) [some (.ref r), some (.str (List.replicate (k2 + 1) c)), some (.int (t : Int)), some (.ref s0), none, some (.ref d0), some (.ref (d0 + 6)), none, none, none, none, none, none, none] m6 = .ok ((List.range n7).map fun (k : Nat) => D.int (k : Int), fun _ => true) m7 :=
    rng1_ok (by simp [e2]) (by omega)
  have fnd : ((names.map fun n => ((n, 0) : Ed)) ++ names.map fun n => ((n, 1) : Ed)).Nodup := by
    rw [List.nodup_append]
    refine ⟨?_, ?_, ?_⟩
    · rw [List.Nodup, List.pairwise_map]; exact sok.nd.imp fun h e => h (by simpa using e)
    · rw [List.Nodup, List.pairwise_map]; exact sok.nd.imp fun h e => h (by simpa using e)
    · intro a ha b hb e
      obtain ⟨x, _, rfl⟩ := List.mem_map.mp ha
      obtain ⟨y, _, rfl⟩ := List.mem_map.mp hb
      simp at e
  have hfee : ∀ e ∈ ((names.map fun n => ((n, 0) : Ed)) ++ names.map fun n => ((n, 1) : Ed)), Fee ⟨names, [], [], [], t⟩ e := by
    intro e he
    rcases List.mem_append.mp he with he | he
    · obtain ⟨x, hx, rfl⟩ := List.mem_map.mp he
      exact ⟨hx, by simp, by simp⟩
    · obtain ⟨x, hx, rfl⟩ := List.mem_map.mp he
      exact ⟨hx, by simp, by simp⟩
  obtain ⟨ρ8, m8, i1, st8, free8, f8, ⟨y4, y8, y9, y10, y11, y12, rfl⟩, i2, i3, i4, i5, i6, i7, i8, i9, i10, i11, i12⟩ := for_all (g := gV 4) (it := iRng1 (eFn m_law_taken (aCons (eV 0) (aCons (eC (.int 12)) aNil)))) (chk := fun _ => true) (body := iterBody)
    (ρ := [some (.ref r), some (.str (List.replicate (k2 + 1) c)), some (.int (t : Int)), some (.ref s0), none, some (.ref d0), some (.ref (d0 + 6)), none, none, none, none, none, none, none]) (m := m6) (m1 := m7) (fun (k : Nat) => D.int (k : Int)) (List.range n7)
    (fun pre ρ M => ∃ (st' : St) (free : List Ed) (f : Nat), (∃ y4 y8 y9 y10 y11 y12 : Option D, ρ = [some (.ref r), some (.str (List.replicate (k2 + 1) c)), some (.int (t : Int)), some (.ref s0), y4, some (.ref d0), some (.ref f), none, y8, y9, y10, y11, y12, none]) ∧ StW M r d0 s0 (d0 + 1) (d0 + 2) (d0 + 3) (d0 + 4) scr st' ∧ M[f]? = some (.lst (free.map edD)) ∧ d0 + 4 ≤ f ∧
      InvL st' ∧ (∀ e ∈ free, Fee st' e) ∧ free.Nodup ∧ free.length ≤ 90 ∧ st'.lks.length ≤ 3 * pre.length ∧ st'.secs = names ∧ st'.turn = t ∧ st'.sgs = [])
    hr7 ⟨⟨names, [], [], [], t⟩, _, d0 + 6, ⟨none, none, none, none, none, none, rfl⟩, e3, f7, by omega, inv0, hfee, fnd, by simp; omega, by simp, rfl, rfl, rfl⟩
    (by
      rintro pre x post ρ M hx ⟨st', free, f, ⟨y4, y8, y9, y10, y11, y12, rfl⟩, j2, j3, j4, j5, j6, j7, j8, j9, j10, j11, j12⟩
      have pl : pre.length < n7 := by have := congrArg List.length hx; simp at this; omega
      obtain ⟨M', st'', free', f', w8, w9, w10, w11, w12, p1, p2, p3, p4, p5, p6, p7, p8, p9, p10, p11, p12, p13⟩ := iter_ok (x1 := some (.str (List.replicate (k2 + 1) c))) (x2 := some (.int (t : Int))) (x3 := some (.ref s0)) (x4 := some (.int (x : Int))) (x7 := none) (x8 := y8) (x9 := y9) (x10 := y10) (x11 := y11) (x12 := y12) (x13 := none) j2 j3 j4 (by omega) j5 j6 j7 j8 (by omega)
      exact ⟨rfl, _, _, M', rfl, .inl p1, st'', free', f', ⟨_, _, _, _, _, _, rfl⟩, p2, p3, p4, p5, p6, p7, p8, by simp; omega, by rw [p10, j10], by rw [p11, j11], by rw [p12, j12]⟩)
    (fun _ _ _ => rfl)
  -- the signals
  have si : SgI st8 [] := ⟨by rw [i12]; rfl, by rw [i12]; simp, by rw [i12]; simp, by rw [i12]; simp⟩
  obtain ⟨ρ9, m9, st9, o1, o2, o3, o4, o5, o6, o7, o8⟩ := sgLoop_ok (x1 := some (.str (List.replicate (k2 + 1) c))) (x4 := y4) (x6 := some (.ref f8)) (x7 := none) (x8 := y8) (x9 := y9) (x10 := y10) (x11 := y11) (x12 := y12) (x13 := none) i2 si i5 (by rw [i10]; omega)
  rw [i11] at o1
  have sec9 : SecOk st9.secs := by rw [o7, i10]; exact sok
  have g9 := sg_ok o4 (pairs_nd (by rw [i10]; exact sok.nd))
  have l9 : st9.lks.length ≤ 60 := by rw [o6]; simp at i9; omega
  obtain ⟨xs9, x91, x92⟩ := o3.toL
  refine ⟨m9, d0, s0, _, _, _, xs9, st9, ?_, x91, valid_of o5 sec9 l9 g9, sz_of o5 sec9 l9 g9, ⟨3, by omega, o5.dg, by
    rw [o7, i10]
    exact Nat.le_trans (Nat.pow_le_pow_right (by omega) (show names.length ≤ 8 by omega)) (by decide)⟩, o3.row, x92⟩
  simp only [iterBody, iterD] at i1
  simp only [sgLoop, sgStep] at o1
  have hne3 : ¬ (k0 : Int) = 3 := by omega
  obtain ⟨O0, hO0⟩ : ∃ O0, O0 = O.lst ((names.map fun n => ((n, 0) : Ed)).map edD) := ⟨_, rfl⟩
  obtain ⟨O1, hO1⟩ : ∃ O1, O1 = O.lst ((names.map fun n => ((n, 1) : Ed)).map edD) := ⟨_, rfl⟩
  have e0 := ends 0 0 (m5 ++ [.dct false [(.inr [115, 101, 99, 116, 105, 111, 110, 115], .ref s0), (.inr [112, 111, 105, 110, 116, 115], .ref (m5.length + 1)), (.inr [108, 105, 110, 107, 115], .ref (m5.length + 2)), (.inr [115, 105, 103, 110, 97, 108, 115], .ref (m5.length + 3)), (.inr [116, 117, 114, 110], .int (t : Int))], .dct false [], .lst [], .dct false []]) rfl (get_app g5 _)
  have e1' := ends 1 1 (m5 ++ [.dct false [(.inr [115, 101, 99, 116, 105, 111, 110, 115], .ref s0), (.inr [112, 111, 105, 110, 116, 115], .ref (m5.length + 1)), (.inr [108, 105, 110, 107, 115], .ref (m5.length + 2)), (.inr [115, 105, 103, 110, 97, 108, 115], .ref (m5.length + 3)), (.inr [116, 117, 114, 110], .int (t : Int))], .dct false [], .lst [], .dct false [], O0]) rfl (get_app g5 _)
  rw [← hO0] at e0
  rw [← hO1] at e1'
  rw [← hO0, ← hO1] at hm6
  have ct : ∀ M, catOb (some O0) (some O1) M = .ok (.ref M.length) (M ++ [.lst (((names.map fun n => ((n, 0) : Ed)) ++ names.map fun n => ((n, 1) : Ed)).map edD)]) := fun M => by
    rw [hO0, hO1, catOb_ok (by simp [LIM]; omega), List.map_append]
  obtain ⟨O01, hO01⟩ : ∃ O01, O01 = O.lst (((names.map fun n => ((n, 0) : Ed)) ++ names.map fun n => ((n, 1) : Ed)).map edD) := ⟨_, rfl⟩
  simp only [← hO01] at ct hm6
  rw [hd0] at i1 o1 o2
  simp only [LET] at px
  simp only [List.append_assoc, List.cons_append, List.nil_append, List.length_append, List.length_cons, List.length_nil, Nat.zero_add, Nat.reduceAdd] at e0 e1'
  simp [-sFor_eq, m_law_station, m_law_station_body, z3, hne3, a2, px, b2, pm, c2, lcn, dc, e0, e1', ct, ← hm6, i1, hd0, o1, o2]
end Mn
end

section
set_option linter.all false
namespace Mn
variable {M : M} {r d s p l g B : Nat} {scr : List Int} {st : St}
def tname (t k j : Nat) : Tx := (97 + j) :: numT ((t + 3 * k) % 8)
theorem tname_eq {t k j : Nat} : tname t k j = [97 + j, 48 + (t + 3 * k) % 8] := by rw [tname, numT_1 (by omega)]
theorem tname_inj {t k k' j j' : Nat} (hk : k < 8) (hk' : k' < 8) (h : tname t k j = tname t k' j') : j = j' ∧ k = k' := by
  rw [tname_eq, tname_eq] at h
  simp only [List.cons.injEq, and_true] at h
  omega
theorem abc_sign : ∀ j, j < 5 → 97 + j ∈ SIGNS := by decide
theorem tname_ok {t k j : Nat} (hj : j < 5) : good (tname t k j) ∧ (tname t k j).head? ≠ some 112 ∧ (tname t k j).head? ≠ some 122 := by
  rw [tname_eq]
  refine ⟨⟨by simp, by simp, ?_⟩, by simp; omega, by simp; omega⟩
  intro c hc
  simp only [List.mem_cons, List.not_mem_nil, or_false] at hc
  rcases hc with rfl | rfl
  · exact abc_sign _ hj
  · exact dig_sign _ (by omega)
def z2name (t i : Nat) : Tx := 122 :: numT ((t + 5 * i) % 16)
theorem z2_inj {t i j : Nat} (hi : i < 16) (hj : j < 16) (h : z2name t i = z2name t j) : i = j := by
  simp only [z2name, List.cons.injEq, true_and] at h
  have := numT_inj _ (Nat.mod_lt _ (by omega)) _ (Nat.mod_lt _ (by omega)) h
  omega
/-- after n rows of names, and jj links of the next -/
structure TrI (st : St) (t n kk jj : Nat) : Prop where
  inv : InvL st
  s1 : ∀ x ∈ st.secs, ∃ k j, k < n ∧ j < 5 ∧ x = tname t k j
  s2 : st.secs.Nodup
  s3 : st.secs.length ≤ 5 * n
  g1 : st.sgs.map (·.1) = (List.range st.sgs.length).map (z2name t)
  g2 : st.sgs.map (·.2) = (List.range st.sgs.length).map (fun i => (tname t i 0, 1))
  g3 : ∀ x ∈ st.sgs, x.2.1 ∈ st.secs
  l1 : ∀ x ∈ st.lks, ∃ k j, (k < kk ∨ k = kk ∧ j < jj) ∧ k < 8 ∧ x = ⟨(tname t k j, 1), (tname t k (j + 1), 0), []⟩
  l2 : st.lks.length ≤ 4 * kk + jj
  tt : st.turn = t
  pp : st.pts = []
  d1 : ∀ e, (st.lks.filter (shares e)).length ≤ 1
theorem StW.setS (h : StW M r d s p l g B scr st) {s' : Nat} {secs : List Tx} (hs : M[s']? = some (.lst (secs.map .str))) (ns : B ≤ s') :
    StW (M.set d (.dct false [(.inr [115, 101, 99, 116, 105, 111, 110, 115], .ref s'), (.inr [112, 111, 105, 110, 116, 115], .ref p), (.inr [108, 105, 110, 107, 115], .ref l), (.inr [115, 105, 103, 110, 97, 108, 115], .ref g), (.inr [116, 117, 114, 110], .int (st.turn : Int))])) r d s' p l g B scr { st with secs := secs } := by
  obtain ⟨h0, h1, h2, h3, h4, h5, ⟨xs, x1, x2, x3⟩, h6⟩ := h
  have nm : ∀ {i o o'}, M[i]? = some o → i ≠ d → (M.set d o')[i]? = some o := fun hi ne => by rw [get_set_ne (Ne.symm ne)]; exact hi
  exact ⟨h0.up (S := [d]) Up.set (by simp; omega), by simpa using h1, by omega, get_set_self h3, nm hs (by omega), nm h5 (by omega), ⟨xs, x1, nm x2 (by omega), fun x hx => ⟨(x3 x hx).1, nm (x3 x hx).2 (by have := (x3 x hx).1; omega)⟩⟩, nm h6 (by omega)⟩
theorem TrI.addL {t n kk jj : Nat} (h : TrI st t n kk jj) (hkk : kk < 8) (m1 : tname t kk jj ∈ st.secs) (m2 : tname t kk (jj + 1) ∈ st.secs) : TrI (addL st ⟨(tname t kk jj, 1), (tname t kk (jj + 1), 0), []⟩) t n kk (jj + 1) := by
  obtain ⟨a1, a2, a3, a4, a5, a6, a6', a7, a8, a9, a10, a11⟩ := h
  have nos : ∀ k' ∈ st.lks, ∀ e, (e = ((tname t kk jj, 1) : Ed) ∨ e = ((tname t kk (jj + 1), 0) : Ed)) → shares e k' = false := by
    intro k' hk' e he
    obtain ⟨k, j, b1, b2, rfl⟩ := a7 k' hk'
    rcases he with rfl | rfl
    · simp only [shares, decide_eq_false_iff_not]
      rintro (q | q)
      · have := tname_inj hkk b2 (congrArg Prod.fst q); omega
      · have := congrArg Prod.snd q; simp at this
    · simp only [shares, decide_eq_false_iff_not]
      rintro (q | q)
      · have := congrArg Prod.snd q; simp at this
      · have := tname_inj hkk b2 (congrArg Prod.fst q); omega
  have z0 : ∀ e, (e = ((tname t kk jj, 1) : Ed) ∨ e = ((tname t kk (jj + 1), 0) : Ed)) → (st.lks.filter (shares e)).length = 0 := fun e he => by
    rw [List.length_eq_zero_iff, List.filter_eq_nil_iff]
    intro k' hk'; rw [nos k' hk' e he]; simp
  refine ⟨a1.addL ⟨⟨m1, by simp⟩, ⟨m2, by simp⟩, fun e => ?_, by simp, by simp, by simp⟩ ?_ (fun e he => by have := z0 e he; omega), a2, a3, a4, a5, a6, a6', ?_, by simp [Mn.addL]; omega, a9, a10, fun e => ?_⟩
  · have := (tname_inj hkk hkk e).1; omega
  · intro k' hk' hs
    exfalso
    obtain ⟨k, j, b1, b2, rfl⟩ := a7 k' hk'
    rcases hs with hs | hs
    · simp [shares] at hs
      have := tname_inj hkk b2 hs; omega
    · simp [shares] at hs
      have := tname_inj hkk b2 hs; omega
  · intro x hx
    rcases List.mem_append.mp hx with hx | hx
    · obtain ⟨k, j, b1, b2, b3⟩ := a7 x hx
      exact ⟨k, j, by omega, b2, b3⟩
    · obtain rfl := List.mem_singleton.mp hx
      exact ⟨kk, jj, by omega, hkk, rfl⟩
  · rw [cnt_addL]
    by_cases he : e = ((tname t kk jj, 1) : Ed) ∨ e = ((tname t kk (jj + 1), 0) : Ed)
    · rw [if_pos he, z0 e he]; omega
    · rw [if_neg he]; exact a11 e
def tnames (t k n : Nat) : List Tx := (List.range n).map (tname t k)
theorem TrI.next {t n c : Nat} (h : TrI st t n n 0) (hn : n < 8) (hc : c ≤ 5) (hc0 : 1 ≤ c) (hg : st.sgs.length = n) : TrI (addG { st with secs := st.secs ++ tnames t n c } (z2name t n, (tname t n 0, 1))) t (n + 1) n 0 := by
  obtain ⟨a1, a2, a3, a4, a5, a6, a6', a7, a8, a9, a10, a11⟩ := h
  have up : ∀ x, x ∈ st.secs → x ∈ st.secs ++ tnames t n c := fun x hx => List.mem_append.mpr (.inl hx)
  refine ⟨⟨a1.pk, a1.pl, fun q hq => up _ (a1.pv q hq), fun k hk => ?_, a1.ap, a1.dg⟩, ?_, ?_, ?_, ?_, ?_, ?_, a7, a8, a9, a10, a11⟩
  · obtain ⟨b1, b2, b3, b4, b5, b6⟩ := a1.lk k hk
    exact ⟨⟨up _ b1.1, b1.2⟩, ⟨up _ b2.1, b2.2⟩, b3, b4, b5, b6⟩
  · intro x hx
    rcases List.mem_append.mp hx with hx | hx
    · obtain ⟨k, j, b1, b2, b3⟩ := a2 x hx
      exact ⟨k, j, by omega, b2, b3⟩
    · obtain ⟨j, hj, rfl⟩ := List.mem_map.mp hx
      have := List.mem_range.mp hj
      exact ⟨n, j, by omega, by omega, rfl⟩
  · show (st.secs ++ tnames t n c).Nodup
    rw [List.nodup_append]
    refine ⟨a3, ?_, ?_⟩
    · rw [tnames, List.Nodup, List.pairwise_map]
      exact (List.nodup_range (n := c)).imp fun ne e => ne (tname_inj hn hn e).1
    · intro x hx y hy e
      obtain ⟨k, j, b1, b2, b3⟩ := a2 x hx
      obtain ⟨j', hj, rfl⟩ := List.mem_map.mp hy
      rw [b3] at e
      have := tname_inj (by omega) hn e; omega
  · simp [addG, tnames]; omega
  · simp [addG, a5, List.range_succ, hg]
  · simp [addG, a6, List.range_succ, hg]
  · intro x hx
    rcases List.mem_append.mp hx with hx | hx
    · exact up _ (a6' x hx)
    · obtain rfl := List.mem_singleton.mp hx
      exact List.mem_append.mpr (.inr (List.mem_map.mpr ⟨0, List.mem_range.mpr (by omega), rfl⟩))
theorem tr_valid {t n kk jj : Nat} (h : TrI st t n kk jj) (hn : n ≤ 6) (hk : kk ≤ 6) (hj : jj ≤ 5) (h0 : st.secs ≠ []) (hg : st.sgs.length ≤ 6) : Valid (nrmS st) ∧ Sz st := by
  have s : SecOk st.secs := ⟨h0, by have := h.s3; omega, fun x hx => by
    obtain ⟨k, j, b1, b2, rfl⟩ := h.s1 x hx
    exact tname_ok b2, h.s2⟩
  have g : SgOk st := by
    refine ⟨by omega, ?_, ?_, ?_⟩
    · intro x hx
      have e1 : x.1 ∈ st.sgs.map (·.1) := List.mem_map.mpr ⟨x, hx, rfl⟩
      have e2 : x.2 ∈ st.sgs.map (·.2) := List.mem_map.mpr ⟨x, hx, rfl⟩
      rw [h.g1] at e1
      rw [h.g2] at e2
      obtain ⟨i, hi, e1⟩ := List.mem_map.mp e1
      obtain ⟨j, hj, e2⟩ := List.mem_map.mp e2
      refine ⟨⟨(t + 5 * i) % 16, by omega, e1.symm⟩, h.g3 x hx, ?_⟩
      rw [← e2]; simp
    · rw [h.g1, List.Nodup, List.pairwise_map]
      refine List.Pairwise.imp_of_mem ?_ (List.nodup_range (n := st.sgs.length))
      intro a b ha hb ne e
      have ha := List.mem_range.mp ha
      have hb := List.mem_range.mp hb
      exact ne (z2_inj (by omega) (by omega) e)
    · rw [h.g2, List.Nodup, List.pairwise_map]
      refine List.Pairwise.imp_of_mem ?_ (List.nodup_range (n := st.sgs.length))
      intro a b ha hb ne e
      have ha := List.mem_range.mp ha
      have hb := List.mem_range.mp hb
      have e' : tname t a 0 = tname t b 0 := by simpa using e
      exact ne (tname_inj (by omega) (by omega) e').2
  have hl : st.lks.length ≤ 60 := by have := h.l2; omega
  exact ⟨valid_of h.inv s hl g, sz_of h.inv s hl g⟩
end Mn
end

section
set_option linter.all false
namespace Mn
variable {M : M} {r d s p l g B : Nat} {scr : List Int} {st : St}
def trLink : MS := (sFor (gV 5) (iRng1 (eOp pSub (eUn pLen (eV 4)) (eC (.int 1)))) (sExp (eM1 0 pAppend (eOp pIx (eV 2) (eC (.str [108, 105, 110, 107, 115]))) (eTup (aCons (eTup (aCons (eOp pIx (eV 4) (eV 5)) (aCons (eC (.int 1)) aNil))) (aCons (eTup (aCons (eOp pIx (eV 4) (eOp pAdd (eV 5) (eC (.int 1)))) (aCons (eC (.int 0)) aNil))) (aCons eD0 aNil)))))))
theorem trLink_ok (h : StW M r d s p l g B scr st) {t n c q : Nat} {x1 x3 x5 : Option D} (i : TrI st t (n + 1) n 0) (hn : n < 8) (hc : 1 ≤ c) (hc5 : c ≤ 5) (hq : M[q]? = some (.lst ((tnames t n c).map .str))) (qB : B ≤ q) (hm : ∀ x ∈ tnames t n c, x ∈ st.secs) :
    ∃ (M' : Mn.M) (st' : St) (y5 : Option D), trLink [some (.ref r), x1, some (.ref d), x3, some (.ref q), x5] M = .nx [some (.ref r), x1, some (.ref d), x3, some (.ref q), y5] M' ∧ StW M' r d s p l g B scr st' ∧ TrI st' t (n + 1) n (c - 1) ∧ st'.secs = st.secs ∧ st'.sgs = st.sgs := by
  have cl : (tnames t n c).length = c := by simp [tnames]
  have nm : ∀ j, j < c → (tnames t n c)[j]? = some (tname t n j) := fun j hj => by simp [tnames, hj]
  have hr : iRng1 (eOp pSub (eUn pLen (eV 4)) (eC (.int 1))) [some (.ref r), x1, some (.ref d), x3, some (.ref q), x5] M = .ok ((List.range (c - 1)).map fun (k : Nat) => D.int (k : Int), fun _ => true) M :=
    rng1_ok (by simp [hq, cl]; omega) (by omega)
  obtain ⟨_, M', e1, st', ⟨y5, rfl⟩, e2, e3, e4, e5, e6⟩ := for_all (g := gV 5) (it := iRng1 (eOp pSub (eUn pLen (eV 4)) (eC (.int 1)))) (chk := fun _ => true)
    (body := sExp (eM1 0 pAppend (eOp pIx (eV 2) (eC (.str [108, 105, 110, 107, 115]))) (eTup (aCons (eTup (aCons (eOp pIx (eV 4) (eV 5)) (aCons (eC (.int 1)) aNil))) (aCons (eTup (aCons (eOp pIx (eV 4) (eOp pAdd (eV 5) (eC (.int 1)))) (aCons (eC (.int 0)) aNil))) (aCons eD0 aNil))))))
    (ρ := [some (.ref r), x1, some (.ref d), x3, some (.ref q), x5]) (m := M) (m1 := M) (fun (k : Nat) => D.int (k : Int)) (List.range (c - 1))
    (fun pre ρ M' => ∃ st', (∃ y5, ρ = [some (.ref r), x1, some (.ref d), x3, some (.ref q), y5]) ∧ StW M' r d s p l g B scr st' ∧ TrI st' t (n + 1) n pre.length ∧ st'.secs = st.secs ∧ st'.sgs = st.sgs ∧ M'[q]? = some (.lst ((tnames t n c).map .str)))
    hr ⟨st, ⟨_, rfl⟩, h, i, rfl, rfl, hq⟩
    (by
      rintro pre x post ρ M' hx ⟨st', ⟨y5, rfl⟩, c1, c2, c3, c4, c5⟩
      have hlen := congrArg List.length hx
      simp at hlen
      have hxe : x = pre.length := by
        have := congrArg (fun l => l[pre.length]?) hx
        simp at this
        rw [List.getElem?_eq_getElem (by simp; omega)] at this
        simpa using this.symm
      subst hxe
      have o := c1.o
      have p1 : pIx (.ref q) (.int (pre.length : Int)) M' = .ok (.str (tname t n pre.length)) M' := pIx_lst c5 (by rw [List.getElem?_map, nm _ (by omega)]; rfl)
      have p2 : pIx (.ref q) (.int ((pre.length : Int) + 1)) M' = .ok (.str (tname t n (pre.length + 1))) M' := by
        have := pIx_lst (k := pre.length + 1) (v := .str (tname t n (pre.length + 1))) c5 (by rw [List.getElem?_map, nm _ (by omega)]; rfl)
        exact this
      obtain ⟨ld, d1, d2, M2, d3, d4, d5⟩ := c1.addL ⟨(tname t n pre.length, 1), (tname t n (pre.length + 1), 0), []⟩ (by have := c2.l2; omega)
      have hd := c1.hd
      simp only [List.map_nil, edD] at d2 d3
      rw [show ((1 : Nat) : Int) = 1 from rfl, show ((0 : Nat) : Int) = 0 from rfl] at d3
      refine ⟨rfl, _, _, M2, rfl, .inl ?_, _, ⟨some (.int (pre.length : Int)), rfl⟩, d4, ?_, c3, c4, d5.get _ _ c5 (by simp; omega)⟩
      · rw [pIx_ref, c5] at p1 p2
        simp [-ixOb_lst, hd, c5, p1, p2, d1, d2, d3]
      · have := c2.addL hn (by rw [c3]; exact hm _ (List.mem_of_getElem? (nm _ (by omega)))) (by rw [c3]; exact hm _ (List.mem_of_getElem? (nm _ (by omega))))
        simpa using this)
    (fun _ _ _ => rfl)
  refine ⟨M', st', y5, by simp only [trLink]; exact e1, e2, by simpa using e3, e4, e5⟩
theorem TrI.roll {t n kk jj : Nat} (h : TrI st t n kk jj) (hj : jj ≤ 4) : TrI st t n (kk + 1) 0 := by
  obtain ⟨a1, a2, a3, a4, a5, a6, a6', a7, a8, a9, a10, a11⟩ := h
  refine ⟨a1, a2, a3, a4, a5, a6, a6', fun x hx => ?_, by omega, a9, a10, a11⟩
  obtain ⟨k, j, b1, b2, b3⟩ := a7 x hx
  exact ⟨k, j, by omega, b2, b3⟩
theorem abc_ix {j : Nat} (h : j < 5) : ([97, 98, 99, 100, 101] : Tx)[j]? = some (97 + j) := by
  have : j = 0 ∨ j = 1 ∨ j = 2 ∨ j = 3 ∨ j = 4 := by omega
  rcases this with e | e | e | e | e <;> subst e <;> rfl
theorem tracks_ok {m : Mn.M} (hr : Row m r scr) :
    ∃ m' d s p l g xs st, m_law_tracks [.ref r] m = .ok (.ref d) m' ∧ StL m' d s p l g false xs st ∧ Valid (nrmS st) ∧ Sz st ∧ DegOk st ∧ Row m' r scr ∧ (r ≠ d ∧ r ≠ s ∧ r ≠ p ∧ r ≠ l ∧ r ≠ g ∧ ∀ x ∈ xs, r ≠ x.2) := by
  have rl : r < m.length := by obtain ⟨a, b, c, _, h⟩ := hr; exact get_lt h
  obtain ⟨t, m1, a1, a2, a3, a4, a5⟩ := taken_ok hr (N := 16) (by omega) (by omega)
  obtain ⟨d0, hd0⟩ : ∃ d0, d0 = m1.length := ⟨_, rfl⟩
  obtain ⟨m2, hm2⟩ : ∃ m2, m2 = m1 ++ [O.dct false [(.inr [115, 101, 99, 116, 105, 111, 110, 115], .ref (m1.length + 1)), (.inr [112, 111, 105, 110, 116, 115], .ref (m1.length + 2)), (.inr [108, 105, 110, 107, 115], .ref (m1.length + 3)), (.inr [115, 105, 103, 110, 97, 108, 115], .ref (m1.length + 4)), (.inr [116, 117, 114, 110], .int (t : Int))],
    .lst [], .dct false [], .lst [], .dct false []] := ⟨_, rfl⟩
  have v2 : Up [] m1 m2 := by rw [hm2]; exact Up.app
  have dc : dc2 m1.length (some [(.inr [115, 101, 99, 116, 105, 111, 110, 115], .ref (m1.length + 1)), (.inr [112, 111, 105, 110, 116, 115], .ref (m1.length + 2)), (.inr [108, 105, 110, 107, 115], .ref (m1.length + 3)), (.inr [115, 105, 103, 110, 97, 108, 115], .ref (m1.length + 4)), (.inr [116, 117, 114, 110], .int (t : Int))]) (m1 ++ [.dct false [], .lst [], .dct false [], .lst [], .dct false []]) = .ok (.ref m1.length) m2 := by
    rw [dc2_ok (by simp) (by simp), hm2]; simp [putKv]
  have w2 : StW m2 r d0 (d0 + 1) (d0 + 2) (d0 + 3) (d0 + 4) (d0 + 5) scr ⟨[], [], [], [], t⟩ := by
    refine ⟨a3.up v2 nofun, by rw [hm2]; simp; omega, by omega, ?_, by rw [hm2, hd0]; simp, by rw [hm2, hd0]; simp, ⟨[], rfl, by rw [hm2, hd0]; simp, by simp⟩, by rw [hm2, hd0]; simp⟩
    rw [hm2, hd0]; simp
  obtain ⟨n5, m3, b1, b2, b3, b4, b5⟩ := w2.taken (N := 5) (by omega) (by omega)
  have hr3 : iRng1 (eOp pAdd (eC (.int 2)) (eFn m_law_taken (aCons (eV 0) (aCons (eC (.int 5)) aNil)))) [some (.ref r), some (.int (t : Int)), some (.ref d0), none, none, none] m2 = .ok ((List.range (2 + n5)).map fun (k : Nat) => D.int (k : Int), fun _ => true) m3 :=
    rng1_ok (by simp [b2]) (by omega)
  have mul : ∀ (x : Int) (m : Mn.M), pMul (.int 3) (.int x) m = .ok (.int (3 * x)) m := fun x m => pMul_l (by decide)
  have mul5 : ∀ (x : Int) (m : Mn.M), pMul (.int 5) (.int x) m = .ok (.int (5 * x)) m := fun x m => pMul_l (by decide)
  have t0 : TrI ⟨[], [], [], [], t⟩ t 0 0 0 := ⟨⟨rfl, by simp, by simp, by simp, by simp, by simp⟩, by simp, by simp, by simp, by simp, by simp, by simp, by simp, by simp, rfl, rfl, by simp⟩
  obtain ⟨_, m4, e1, st4, s4, ⟨y3, y4, y5, rfl⟩, e2, e3, e4⟩ := for_all (g := gV 3) (it := iRng1 (eOp pAdd (eC (.int 2)) (eFn m_law_taken (aCons (eV 0) (aCons (eC (.int 5)) aNil))))) (chk := fun _ => true)
    (body := (sSeq (sAsg (gV 4) (eLc 5 (iRng1 (eOp pAdd (eC (.int 2)) (eFn m_law_taken (aCons (eV 0) (aCons (eC (.int 4)) aNil))))) tYes (eOp pAdd (eOp pIx (eC (.str [97, 98, 99, 100, 101])) (eV 5)) (eUn pStr (eOp pMod (eOp pAdd (eV 1) (eOp pMul (eC (.int 3)) (eV 3))) (eC (.int 8)))))))
    (sSeq (sSetIx (eV 2) (eC (.str [115, 101, 99, 116, 105, 111, 110, 115])) (eOp pAdd (eOp pIx (eV 2) (eC (.str [115, 101, 99, 116, 105, 111, 110, 115]))) (eV 4)))
    (sSeq (sSetIx (eOp pIx (eV 2) (eC (.str [115, 105, 103, 110, 97, 108, 115]))) (eOp pAdd (eC (.str [122])) (eUn pStr (eOp pMod (eOp pAdd (eV 1) (eOp pMul (eC (.int 5)) (eV 3))) (eC (.int 16))))) (eTup (aCons (eOp pIx (eV 4) (eC (.int 0))) (aCons (eC (.int 1)) aNil))))
    trLink))))
    (ρ := [some (.ref r), some (.int (t : Int)), some (.ref d0), none, none, none]) (m := m2) (m1 := m3) (fun (k : Nat) => D.int (k : Int)) (List.range (2 + n5))
    (fun pre ρ M' => ∃ (st' : St) (s' : Nat), (∃ y3 y4 y5, ρ = [some (.ref r), some (.int (t : Int)), some (.ref d0), y3, y4, y5]) ∧ StW M' r d0 s' (d0 + 2) (d0 + 3) (d0 + 4) (d0 + 5) scr st' ∧ TrI st' t pre.length pre.length 0 ∧ (st'.sgs.length = pre.length ∧ (pre ≠ [] → st'.secs ≠ [])))
    hr3 ⟨⟨[], [], [], [], t⟩, d0 + 1, ⟨_, _, _, rfl⟩, b3, t0, rfl, by simp⟩
    (by
      rintro pre x post ρ M hx ⟨st', s', ⟨y3, y4, y5, rfl⟩, c1, c2, c3, c4⟩
      have hlen := congrArg List.length hx
      simp at hlen
      have hxe : x = pre.length := by
        have := congrArg (fun l => l[pre.length]?) hx
        simp at this
        rw [List.getElem?_eq_getElem (by simp; omega)] at this
        simpa using this.symm
      subst hxe
      obtain ⟨k, hk⟩ : ∃ k, k = pre.length := ⟨_, rfl⟩
      rw [← hk] at c2 c3 hlen ⊢
      have o := c1.o
      obtain ⟨n4, MA, d1, d2, d3, d4, d5⟩ := c1.taken (N := 4) (by omega) (by omega)
      have hrn : iRng1 (eOp pAdd (eC (.int 2)) (eFn m_law_taken (aCons (eV 0) (aCons (eC (.int 4)) aNil)))) [some (.ref r), some (.int (t : Int)), some (.ref d0), some (.int (k : Int)), y4, y5] M = .ok ((List.range (2 + n4)).map fun (k : Nat) => D.int (k : Int), fun _ => true) MA :=
        rng1_ok (by simp [d2]) (by omega)
      obtain ⟨N, hN⟩ : ∃ N, N = (t + 3 * k) % 8 := ⟨_, rfl⟩
      have q0 : ∀ M, pMod (.int ((t : Int) + 3 * (k : Int))) (.int 8) M = .ok (.int (N : Int)) M := fun M => by rw [hN]; exact pMod_nat (by omega) rfl (by omega)
      have lcn := lc_map (i := 5) (ρ := [some (.ref r), some (.int (t : Int)), some (.ref d0), some (.int (k : Int)), y4, y5]) (it := iRng1 (eOp pAdd (eC (.int 2)) (eFn m_law_taken (aCons (eV 0) (aCons (eC (.int 4)) aNil)))))
        (e := eOp pAdd (eOp pIx (eC (.str [97, 98, 99, 100, 101])) (eV 5)) (eUn pStr (eOp pMod (eOp pAdd (eV 1) (eOp pMul (eC (.int 3)) (eV 3))) (eC (.int 8))))) (m0 := M) (m := MA) (chk := fun _ => true) (fun (j : Nat) => D.int (j : Int)) (fun j => .str (tname t k j)) (List.range (2 + n4)) hrn rfl (by simp; omega)
        (by
          intro j hj
          have hj := List.mem_range.mp hj
          have px : pIx (.str [97, 98, 99, 100, 101]) (.int (j : Int)) MA = .ok (.str [97 + j]) MA := pIx_str (abc_ix (by omega)) (by simp)
          have t0 : pStr (.int (N : Int)) MA = .ok (.str (numT N)) MA := pStr_nat (by omega)
          have c0 : pAdd (.str [97 + j]) (.str (numT N)) MA = .ok (.str (tname t k j)) MA := by
            rw [cat_ok (by rw [numT_1 (by omega)]; simp), hN]; rfl
          simp [px, mul, q0, t0, c0])
      have hm : (List.range (2 + n4)).map (fun j => D.str (tname t k j)) = (tnames t k (2 + n4)).map .str := by rw [tnames, List.map_map]; rfl
      rw [hm] at lcn
      obtain ⟨MB, hMB⟩ : ∃ MB, MB = MA ++ [O.lst ((tnames t k (2 + n4)).map .str)] := ⟨_, rfl⟩
      obtain ⟨q, hq⟩ : ∃ q, q = MA.length := ⟨_, rfl⟩
      rw [← hMB, ← hq] at lcn
      have vB : Up [] MA MB := by rw [hMB]; exact Up.app
      have wB := d3.up vB
      have gB : MB[q]? = some (.lst ((tnames t k (2 + n4)).map .str)) := by rw [hMB, hq]; exact get_new
      have tl : (tnames t k (2 + n4)).length = 2 + n4 := by simp [tnames]
      -- the sections
      have hsB := wB.hs
      have cat : pAdd (.ref s') (.ref q) MB = .ok (.ref MB.length) (MB ++ [.lst ((st'.secs ++ tnames t k (2 + n4)).map .str)]) := by
        rw [pAdd_ref, hsB, gB, catOb_ok (by have := c2.s3; simp [LIM, tl]; omega), List.map_append]
      obtain ⟨MC, hMC⟩ : ∃ MC, MC = MB ++ [O.lst ((st'.secs ++ tnames t k (2 + n4)).map .str)] := ⟨_, rfl⟩
      rw [← hMC] at cat
      have vC : Up [] MB MC := by rw [hMC]; exact Up.app
      have wC := wB.up vC
      have gC : MC[MB.length]? = some (.lst ((st'.secs ++ tnames t k (2 + n4)).map .str)) := by rw [hMC]; exact get_new
      have wD := wC.setS gC (by have := wB.o; omega)
      have hdC := wC.hd
      have hdB := wB.hd
      obtain ⟨MD, hMD⟩ : ∃ MD, MD = MC.set d0 (.dct false [(.inr [115, 101, 99, 116, 105, 111, 110, 115], .ref MB.length), (.inr [112, 111, 105, 110, 116, 115], .ref (d0 + 2)), (.inr [108, 105, 110, 107, 115], .ref (d0 + 3)), (.inr [115, 105, 103, 110, 97, 108, 115], .ref (d0 + 4)), (.inr [116, 117, 114, 110], .int (st'.turn : Int))]) := ⟨_, rfl⟩
      rw [← hMD] at wD
      have sD : setOb (some (.dct false [(.inr [115, 101, 99, 116, 105, 111, 110, 115], .ref s'), (.inr [112, 111, 105, 110, 116, 115], .ref (d0 + 2)), (.inr [108, 105, 110, 107, 115], .ref (d0 + 3)), (.inr [115, 105, 103, 110, 97, 108, 115], .ref (d0 + 4)), (.inr [116, 117, 114, 110], .int (st'.turn : Int))])) d0 (.str [115, 101, 99, 116, 105, 111, 110, 115]) (.ref MB.length) MC = some MD := by
        rw [setOb_dct (by simp [LIM]), hMD]; simp [putKv]
      have gD : MD[q]? = some (.lst ((tnames t k (2 + n4)).map .str)) := by rw [hMD, get_set_ne (by have := d3.o; omega)]; exact vC.get _ _ gB nofun
      -- the signal
      obtain ⟨N5, hN5⟩ : ∃ N5, N5 = (t + 5 * k) % 16 := ⟨_, rfl⟩
      have q5 : ∀ M, pMod (.int ((t : Int) + 5 * (k : Int))) (.int 16) M = .ok (.int (N5 : Int)) M := fun M => by rw [hN5]; exact pMod_nat (by omega) rfl (by omega)
      have t5 : ∀ M, pStr (.int (N5 : Int)) M = .ok (.str (numT N5)) M := fun M => pStr_nat (by omega)
      obtain ⟨Z, hZ⟩ : ∃ Z, Z = z2name t k := ⟨_, rfl⟩
      have c5 : ∀ M, pAdd (.str [122]) (.str (numT N5)) M = .ok (.str Z) M := fun M => by
        have := (numT_16 N5 (by omega)).1
        rw [cat_ok (by simp; omega), hZ, hN5]; rfl
      have px0 : pIx (.ref q) (.int 0) MD = .ok (.str (tname t k 0)) MD := pIx_lst (k := 0) gD (by rw [List.getElem?_map, tnames, List.getElem?_map, List.getElem?_range (by omega)]; rfl)
      have zn : Z ∉ st'.sgs.map (·.1) := by
        rw [c2.g1, hZ, c3]; intro e
        obtain ⟨j, hj, e⟩ := List.mem_map.mp e
        have hj := List.mem_range.mp hj
        have := z2_inj (by omega) (by omega) e; omega
      obtain ⟨f1, f2⟩ := wD.addG (x := (Z, (tname t k 0, 1))) zn (by simp [c3]; omega)
      obtain ⟨ME, hME⟩ : ∃ ME, ME = MD.set (d0 + 4) (.dct false ((st'.sgs ++ [(Z, (tname t k 0, 1))]).map eKv)) := ⟨_, rfl⟩
      simp only [← hME] at f1 f2
      have gE : ME[q]? = some (.lst ((tnames t k (2 + n4)).map .str)) := by rw [hME, get_set_ne (by have := d3.o; omega)]; exact gD
      have hdD := wD.hd
      have hgD : MD[d0 + 4]? = some (.dct false (st'.sgs.map eKv)) := wD.hg
      have tn := c2.next (c := 2 + n4) (by omega) (by omega) (by omega) c3
      rw [← hZ] at tn
      -- the links
      obtain ⟨MF, st'', y5', h1, h2, h3, h4, h5⟩ := trLink_ok (x1 := some (.int (t : Int))) (x3 := some (.int (k : Int))) (x5 := y5) f2 tn (by omega) (by omega) (by omega) gE (by have := d3.o; omega) (fun x hx => List.mem_append.mpr (.inr hx))
      rw [pIx_ref, gD] at px0
      simp only [edD, show ((1 : Nat) : Int) = 1 from rfl] at f1
      refine ⟨rfl, [some (.ref r), some (.int (t : Int)), some (.ref d0), some (.int (k : Int)), y4, y5], [some (.ref r), some (.int (t : Int)), some (.ref d0), some (.int (k : Int)), some (.ref q), y5'], MF, rfl, .inl ?_, st'', MB.length, ⟨_, _, _, rfl⟩, h2, by have := h3.roll (by omega); simpa [← hk] using this, ?_, ?_⟩
      · simp [-ixOb_lst, -sFor_eq, lcn, hdB, cat, hdC, sD, gD, px0, hdD, mul5, q5, t5, c5, hgD, f1, h1]
      · rw [h5]; simp [addG, c3, ← hk]
      · intro _
        rw [h4]; simp [addG, tnames])
    (fun _ _ _ => rfl)
  simp only [List.length_range] at e3 e4
  obtain ⟨z1, z2⟩ := tr_valid e3 (by omega) (by omega) (by omega) (e4.2 (by simp)) (by omega)
  obtain ⟨xs9, x91, x92⟩ := e2.toL
  refine ⟨m4, d0, s4, _, _, _, xs9, st4, ?_, x91, z1, z2, ⟨1, by omega, e3.d1, by simp⟩, e2.row, x92⟩
  simp only [trLink] at e1
  rw [hd0] at e1
  simp [-sFor_eq, m_law_tracks, m_law_tracks_body, a2, dc, e1, hd0]
theorem stationOk : StationOk := by
  intro m r scr hr hl
  obtain ⟨k, m', a1, a2, a3, a4, a5⟩ := taken_ok hr (N := 4) (by omega) (by omega)
  by_cases h3 : k = 3
  · obtain ⟨m2, d, s, p, l, g, xs, st, b1, b2⟩ := tracks_ok a3
    refine ⟨m2, d, s, p, l, g, xs, st, ?_, b2⟩
    rw [h3] at a2
    simp [m_law_station, m_law_station_body, a2, b1]
  · exact station_ok hr ⟨k, m', a1, h3, a2, a3, a4, a5⟩
end Mn
end

section
set_option linter.all false
namespace Mn
theorem nrm_nd {ns : List (Tx × Tx)} (h : ((nrm ns).map (·.1)).Nodup) : (ns.map (·.1)).Nodup := by
  unfold nrm at h
  split at h
  · split at h
    · simp at h ⊢; exact fun e => h e.symm
    · exact h
  · exact h
theorem need_nd {st : St} {k : Lk} (h : NeedOk st k) : (k.needs.map (·.1)).Nodup := by
  rw [List.Nodup, List.pairwise_map]
  exact h.srt.imp fun {a b} (hab : a.1 < b.1) (e : a.1 = b.1) => by rw [e] at hab; exact List.lt_irrefl _ hab
theorem go_nrm {st : St} (v : Valid (nrmS st)) : GoOk { nrmS st with turn := 0 } where
  nd := v.g3
  ll := by have := v.l1; show (nrmS st).lks.length ≤ 1000; omega
  lk := fun k hk => by
    obtain ⟨a1, a2, a3, a4⟩ := v.l2 k hk
    exact ⟨a1, a2, need_nd a4, by have := a4.len; omega⟩
  sl := by have := v.s1; show (nrmS st).secs.length ≤ 31; omega
theorem ro_ok {st : St} (v : Valid (nrmS st)) (dg : DegOk st) : RoOk st := by
  have key : ∀ k ∈ st.lks, nrmL k ∈ (nrmS st).lks := fun k hk => List.mem_map.mpr ⟨k, hk, rfl⟩
  have lk : ∀ k ∈ st.lks, (k.one.1 ∈ st.secs ∧ k.one.2 < 2) ∧ (k.other.1 ∈ st.secs ∧ k.other.2 < 2) ∧ (k.needs.map (·.1)).Nodup ∧ k.needs.length ≤ 12 := fun k hk => by
    obtain ⟨a1, a2, a3, a4⟩ := v.l2 _ (key k hk)
    exact ⟨a1, a2, nrm_nd (need_nd a4), by have := a4.len; rw [show (nrmL k).needs = nrm k.needs from rfl, nrm_len] at this; omega⟩
  refine ⟨⟨v.g3, by have := v.l1; simp [nrmS] at this; omega, lk, by have := v.s1; simp [nrmS] at this; omega⟩, fun k hk e => ?_, v.g1, fun k hk p hp => ?_, v.p1, fun g hg => ?_⟩
  · exact (v.l2 _ (key k hk)).2.2.1 (congrArg Prod.fst e)
  · obtain ⟨n, hn, rfl⟩ := List.mem_map.mp hp
    obtain ⟨⟨sec, b1, _⟩, _⟩ := (v.l2 _ (key k hk)).2.2.2.ok n (nrm_mem.mpr hn)
    exact List.mem_map.mpr ⟨_, b1, rfl⟩
  · obtain ⟨Dg, h1, h2, h3⟩ := dg
    have := wys_len (sgs := st.sgs) (b := g.2.1) h2 h1 (fun k hk => ⟨(lk k hk).1.1, (lk k hk).2.1.1⟩) 32 g.2 [] [] (by simp) (by simp)
    simp at this; omega
/-! trees of what is told -/
def oTT : Option Tx → T
  | none => .non
  | some s => .str s
def tlT (x : Tx × Tw) : T := .tup [.str x.1, oTT x.2.1, .tup (x.2.2.1.map .str), .tup (x.2.2.2.map fun p => .tup [.str p.1, .str p.2])]
theorem tree_oT {n : Nat} {m : M} {t : Option Tx} : tree (n + 1) m (oT t) = some (oTT t) := by cases t <;> rfl
theorem tree_tl {n : Nat} {m : M} (x : Tx × Tw) : tree (n + 4) m (tlD x) = some (tlT x) := by
  have h1 : tree (n + 3) m (.tup (x.2.2.1.map .str)) = some (.tup (x.2.2.1.map .str)) := tree_tup D.str T.str (fun _ _ => by simp [tree])
  have h2 : tree (n + 3) m (.tup (x.2.2.2.map tD)) = some (.tup (x.2.2.2.map fun p => .tup [.str p.1, .str p.2])) := tree_tup tD (fun p => .tup [.str p.1, .str p.2]) (fun _ _ => by simp [tree, tD, treesW])
  have h3 : tree (n + 3) m (oT x.2.1) = some (oTT x.2.1) := tree_oT
  have h4 : tree (n + 3) m (.str x.1) = some (.str x.1) := by simp [tree]
  show ((treesW (tree (n + 3) m) [.str x.1, oT x.2.1, .tup (x.2.2.1.map .str), .tup (x.2.2.2.map tD)]).map T.tup) = _
  simp only [treesW, h1, h2, h3, h4]
  rfl
theorem noBl_tl {x : Tx × Tw} : T.noBl (tlT x) = true := by
  have h1 := noBls_map (xs := x.2.2.1) T.str (fun _ _ => rfl)
  have h2 := noBls_map (xs := x.2.2.2) (fun p => T.tup [.str p.1, .str p.2]) (fun _ _ => by simp [T.noBl, T.noBls])
  have h3 : T.noBl (oTT x.2.1) = true := by cases x.2.1 <;> rfl
  simp [tlT, T.noBl, T.noBls, h1, h2, h3]
theorem eqO_tls {m : M} {a b : Nat} {xs ys : List (Tx × Tw)} (ha : m[a]? = some (.lst (xs.map tlD))) (hb : m[b]? = some (.lst (ys.map tlD))) (h : xs = ys) : eqO m (.ref a) (.ref b) = some true := by
  subst h
  have t1 : tree DEP m (.ref a) = some (.lst (xs.map tlT)) := tree_lst tlD tlT ha fun x _ => tree_tl (n := 25) x
  have t2 : tree DEP m (.ref b) = some (.lst (xs.map tlT)) := tree_lst tlD tlT hb fun x _ => tree_tl (n := 25) x
  have nb := noBls_map (xs := xs) tlT fun _ _ => noBl_tl
  simp [eqO, t1, t2, okEq, T.noBl, nb]
/-! too many -/
section
variable {m m' : M} {a : Nat} {lk : Bool} {xs : List (Lk × Nat × Nat)} {st : St}
theorem too_many0 (g : GoOk st) (h : LyAt m a lk xs st) (h60 : 60 < (rtsOf st).length) : ∃ m1, m_law_too_many [.ref a, .int 0] m = .ok (.bl true) m1 ∧ LyAt m1 a true xs st := by
  obtain ⟨m1, k1, _, _, k2⟩ := routes_ok g h
  rw [if_neg (by omega)] at k1
  refine ⟨m1, ?_, k1⟩
  simp [m_law_too_many, m_law_too_many_body, mkFn_eq, sTry, k2 h60, ex1, okB, handle, hV, pHeld, dxOk, sGone]
theorem too_many1 (g : GoOk st) (h : LyAt m a lk xs st) (h60 : 60 < (rtsOf st).length) : ∃ m1, m_law_too_many [.ref a, .int 1] m = .ok (.bl true) m1 ∧ LyAt m1 a true xs st := by
  obtain ⟨mA, hA⟩ : ∃ mA, mA = m ++ [O.ins 6 [(7, .ref a)]] := ⟨_, rfl⟩
  have uA : Up [] m mA := by rw [hA]; exact Up.app
  obtain ⟨m1, k1, _, _, k2⟩ := routes_ok g (h.up uA)
  rw [if_neg (by omega)] at k1
  refine ⟨m1, ?_, k1⟩
  have e := k2 h60
  rw [hA] at e
  have ini : m_Desk_init__ [.ref m.length, .ref a] (m ++ [.ins 6 []]) = .exc ⟨14, none⟩ m1 := by
    have s1 : (m ++ [O.ins 6 []]).set m.length (.ins 6 [(7, .ref a)]) = m ++ [O.ins 6 [(7, .ref a)]] := by simp
    simp [m_Desk_init__, m_Desk_init___body, mkFn_eq, e, sf1, fnK]
  simp [m_law_too_many, m_law_too_many_body, mkFn_eq, sTry, ini, nw2, ex1, okB, handle, hV, pHeld, dxOk, sGone]
end
end Mn
end

section
set_option linter.all false
namespace Mn
section
variable {m m' : M} {a : Nat} {lk : Bool} {xs : List (Lk × Nat × Nat)} {st : St}
theorem isL_ref {a : Nat} {m : M} {ds : List D} (h : m[a]? = some (.lst ds)) : pIsList (.ref a) m = .ok (.bl true) m := by simp [pIsList, h]
def k05In : MS := (sSeq (sAsg (gV 6) (eFn m_routes_of (aCons (eV 3) aNil)))
    (sSeq (sIf (tOr (tNot (tV (eUn pIsList (eV 6)))) (tV (eOp pNe (eLc 7 (iList (eV 6)) tYes (eMeth 3 m_Route_told (eV 7) aNil)) (eV 4)))) (sRet (eC (.bl false))) sPass)
    (sExp (eM1 0 pAppend (eV 6) (eC (.int 0))))))
theorem k05In_ok (g : GoOk st) (pn : ∀ k ∈ st.lks, ∀ p ∈ k.needs.map (·.1), p ∈ st.pts.map (·.1)) (pl : st.pts.length ≤ 12) (h : LyAt m a false xs st) (h60 : (rtsOf st).length ≤ 60) {dq : Nat} {d0 d1 d2 d5 : D} {y6 y7 : Option D} (hd : m[dq]? = some (.lst ((twsOf st).map tlD))) :
    ∃ m' z6, k05In [some d0, some d1, some d2, some (.ref a), some (.ref dq), some d5, y6, y7] m = .nx [some d0, some d1, some d2, some (.ref a), some (.ref dq), some d5, z6, y7] m' ∧ Up [] m m' := by
  obtain ⟨m1, _, _, k2, _⟩ := routes_ok g h
  obtain ⟨u1, q, ps, k3, k4, k5, k6⟩ := k2 h60
  have way : ∀ x ∈ ps, (x.2.1.ns.map (·.1)).Nodup ∧ x.2.1.ns.length < 64 := by
    intro x hx
    have : (x.1, x.2.1) ∈ rtsOf st := by rw [← k6.1]; exact List.mem_map.mpr ⟨x, hx, rfl⟩
    obtain ⟨y, hy, hw⟩ := List.mem_flatMap.mp this
    obtain ⟨w, hw, e⟩ := List.mem_map.mp hw
    have e2 : w = x.2.1 := congrArg Prod.snd e
    have W : WyOk (st.pts.map (·.1)) st.secs w := wys_ok (fun k hk => ⟨pn k hk, (g.lk k hk).1.1, (g.lk k hk).2.1.1⟩) 32 y.2 [] [] (by simp) (by simp) (by simp) (by simp) w hw
    rw [← e2]
    exact ⟨W.nd, W.len (by simpa using pl)⟩
  have chk : ∀ M, Up [] m1 M → isObj M q (.lst (rsRefs ps)) = true := fun M u => isObj_up k4 u
  have pls : ps.length ≤ 60 := by have := congrArg List.length k6.1; simp at this; omega
  obtain ⟨m2, e1, u2⟩ := lcU (i := 7) (ρ := [some d0, some d1, some d2, some (.ref a), some (.ref dq), some d5, some (.ref q), y7]) (it := iList (eV 6)) (t := tYes) (e := eMeth 3 m_Route_told (eV 7) aNil) (m := m1) (m0 := m1)
    (fun x : RsP => .ref x.2.2.1) (fun _ => true) (fun x => tlD (x.1, twOf x.2.1)) ps (by simp [k4]; rfl) chk (by simp [LIM]; omega) (fun x _ M u => ⟨M, rfl, Up.refl _ _⟩)
    (fun x hx _ M u => by
      obtain ⟨M', t1, t2⟩ := told_ok ((k6.up u).2.1 x hx) (way x hx).1 (way x hx).2
      have o := ((k6.up u).2.1 x hx).1
      exact ⟨M', by simp [o, t1, tlD], t2⟩)
  have fl : ps.filter (fun _ => true) = ps := List.filter_eq_self.mpr (by simp)
  rw [fl] at e1
  have tw : ps.map (fun x : RsP => tlD (x.1, twOf x.2.1)) = (twsOf st).map tlD := by
    unfold twsOf
    rw [← k6.1, List.map_map, List.map_map]; rfl
  rw [tw] at e1
  obtain ⟨m3, hm3⟩ : ∃ m3, m3 = m2 ++ [O.lst ((twsOf st).map tlD)] := ⟨_, rfl⟩
  rw [← hm3] at e1
  have u3 : Up [] m1 m3 := by rw [hm3]; exact u2.then Up.app
  have g3 : m3[m2.length]? = some (.lst ((twsOf st).map tlD)) := by rw [hm3]; exact get_new
  have d3 := (u1.then u3).get _ _ hd nofun
  have eq1 := eqO_tls g3 d3 rfl
  have q3 := u3.get _ _ k4 nofun
  have ap := appOb_ok (a := q) (v := .int 0) (m := m3) (xs := rsRefs ps) (by simp [LIM, rsRefs]; omega)
  refine ⟨m3.set q (.lst (rsRefs ps ++ [.int 0])), some (.ref q), ?_, (u1.then u3).trans Up.set (by simp; omega)⟩
  simp [k05In, k3, isL_ref k4, e1, eq1, q3, ap]
end
theorem law_true : ∀ ns : List Int, ns.length ≤ 63 → ∃ m, m_law_k05 [.fls (ns.map .int)] [] = .ok (.bl true) m := by
  intro ns hl
  have r0 : Row [O.lst [.fls (ns.map .int), .int 0, .int 0, .int 0]] 0 ns := ⟨0, 0, 0, by omega, rfl⟩
  obtain ⟨m1, d, s, p, l, g, xs, st, a1, a2, v, z, dg, _⟩ := stationOk _ _ _ r0 hl
  obtain ⟨m2, b1, b2⟩ := law_text_ok a2.at z
  obtain ⟨m3, c1, c2, c3⟩ := read_valid (m := m2) v
  obtain ⟨xs', hly⟩ := c2.ly
  have ro := ro_ok v dg
  have go := go_nrm v
  obtain ⟨m4, q, e1, e2, e3⟩ := law_routes_ok ro (a2.up (b2.then c3))
  have h4 := hly.up e2
  have tn : twsOf { nrmS st with turn := 0 } = twsOf st := tws_nrm fun k hk => (ro.go.lk k hk).2.2.1
  have ln : (rtsOf { nrmS st with turn := 0 }).length = (twsOf st).length := by rw [← tn, tws_len]
  by_cases h60 : (twsOf st).length ≤ 60
  · have pn : ∀ k ∈ (nrmS st).lks, ∀ p ∈ k.needs.map (·.1), p ∈ st.pts.map (·.1) := fun k hk p hp => by
      obtain ⟨n, hn, rfl⟩ := List.mem_map.mp hp
      obtain ⟨⟨sec, b1, _⟩, _⟩ := (v.l2 k hk).2.2.2.ok n hn
      exact List.mem_map.mpr ⟨_, b1, rfl⟩
    obtain ⟨m5, z6, f1, f2⟩ := k05In_ok (d0 := .fls (ns.map .int)) (d1 := .ref 0) (d2 := .ref d) (d5 := .int 0) (y6 := none) (y7 := none) go pn v.p1 h4 (by omega) (by rw [tn]; exact e3)
    obtain ⟨m6, z6', f3, f4⟩ := k05In_ok (d0 := .fls (ns.map .int)) (d1 := .ref 0) (d2 := .ref d) (d5 := .int 1) (y6 := z6) (y7 := none) go pn v.p1 (h4.up f2) (by omega) (by rw [tn]; exact f2.get _ _ e3 nofun)
    refine ⟨m6, ?_⟩
    have hi : iRng1 (eC (.int 2)) [some (.fls (ns.map .int)), some (.ref 0), some (.ref d), some (.ref (m2.length + 1)), some (.ref q), none, none, none] m4 = .ok ([.int 0, .int 1], fun _ => true) m4 := rfl
    have fr : sFor (gV 5) (iRng1 (eC (.int 2))) k05In [some (.fls (ns.map .int)), some (.ref 0), some (.ref d), some (.ref (m2.length + 1)), some (.ref q), none, none, none] m4 = .nx [some (.fls (ns.map .int)), some (.ref 0), some (.ref d), some (.ref (m2.length + 1)), some (.ref q), some (.int 1), z6', none] m6 := by
      rw [sFor_eq, hi, fo1_ok]
      simp only [forGo, gV, if_true, List.set_cons_succ, List.set_cons_zero, f1, f3]
    have h61 : ¬ ((60 : Int) < ((twsOf st).length : Int)) := by omega
    have nl : ((twsOf st).map tlD).length = (twsOf st).length := by simp
    simp only [k05In] at fr
    simp [-sFor_eq, m_law_k05, m_law_k05_body, mkFn_eq, a1, b1, c1, e1, e3, h61, fr]
  · obtain ⟨m5, f1, f2⟩ := too_many0 go h4 (by omega)
    obtain ⟨m6, f3, f4⟩ := too_many1 go f2 (by omega)
    refine ⟨m6, ?_⟩
    have h61 : ((60 : Int) < ((twsOf st).length : Int)) := by omega
    simp [m_law_k05, m_law_k05_body, mkFn_eq, a1, b1, c1, e1, e3, h61, f1, f3]
end Mn
end

section
set_option Elab.async false
open PySem PySem.W PyProof.Rows
set_option maxRecDepth 100000 in
set_option maxHeartbeats 0 in
theorem PySem.Challenge.cw_signalhouse_k05_whole_all_routes_holds : PySem.Challenge.rw_signalhouse_k05_whole_all_routes.Holds := by
  w_on; o_law; k_head; (case hw => w_witness2)
  k_fill
  refine Mn.law_end (l := PySem.Challenge.rw_signalhouse_k05_whole_all_routes) Mn.law_true rfl rfl rfl (fun w h Y => PySem.W.kIn_of Y) ?F
  case F =>
    intro w mg fa h KX G hmg
    refine' Mn.all_mk KX G hmg ?gc3 ?pgc3 ?hdc3 ?poc3 ?sac3 ?mkc3 ?kcc3 ?nc3_needs ?nc3_sections ?nc3_signal ?nc3_target ?gc4 ?pgc4 ?hdc4 ?poc4 ?sac4 ?mkc4 ?kcc4 ?nc4_layout ?nc4_signal ?nc4_begin ?nc4_found ?gc6 ?pgc6 ?hdc6 ?poc6 ?sac6 ?mkc6 ?kcc6 ?nc6_layout ?nc6_routes ?nc6_lies ?nc6_laid ?nc6_trains ?nc6_rows ?gc0 ?pgc0 ?hdc0 ?poc0 ?sac0 ?mkc0 ?kcc0 ?nc0_one ?nc0_other ?nc0_needs ?gc1 ?pgc1 ?hdc1 ?poc1 ?sac1 ?mkc1 ?kcc1 ?nc1_sections ?nc1_points ?nc1_links ?nc1_signals ?gc2 ?pgc2 ?hdc2 ?poc2 ?sac2 ?mkc2 ?kcc2 ?nc2_layout ?nc2_row ?nc2_counts ?nc2_locked ?nc2_train ?a0 ?i0 ?l0 ?cc0 ?k0 ?a1 ?i1 ?l1 ?cc1 ?k1 ?a2 ?l2 ?cc2 ?k2 ?a3 ?i3 ?l3 ?cc3 ?k3 ?a4 ?i4 ?l4 ?cc4 ?k4 ?a5 ?i5 ?l5 ?cc5 ?k5 ?a6 ?l6 ?cc6 ?k6 ?a7 ?i7 ?l7 ?cc7 ?k7 ?a8 ?i8 ?l8 ?cc8 ?k8 ?a9 ?i9 ?l9 ?cc9 ?k9 ?a10 ?i10 ?l10 ?cc10 ?k10 ?a11 ?i11 ?l11 ?cc11 ?k11 ?a12 ?i12 ?l12 ?cc12 ?k12 ?a13 ?i13 ?l13 ?cc13 ?k13 ?a14 ?i14 ?l14 ?cc14 ?k14 ?a15 ?l15 ?cc15 ?k15 ?a16 ?i16 ?l16 ?cc16 ?k16 ?a17 ?i17 ?l17 ?cc17 ?k17 ?a18 ?i18 ?l18 ?cc18 ?k18 ?a19 ?i19 ?l19 ?cc19 ?k19 ?a20 ?i20 ?l20 ?cc20 ?k20 ?a21 ?i21 ?l21 ?cc21 ?k21 ?a22 ?i22 ?l22 ?cc22 ?k22 ?a23 ?i23 ?l23 ?cc23 ?k23 ?a24 ?i24 ?l24 ?cc24 ?k24 ?a25 ?i25 ?l25 ?cc25 ?k25 ?a26 ?i26 ?l26 ?cc26 ?k26 ?a27 ?i27 ?l27 ?cc27 ?k27 ?a28 ?l28 ?cc28 ?k28 ?a29 ?l29 ?cc29 ?k29 ?a30 ?l30 ?cc30 ?k30 ?a31 ?l31 ?cc31 ?k31 ?a32 ?l32 ?cc32 ?k32 ?a33 ?l33 ?cc33 ?k33 ?a34 ?l34 ?cc34 ?k34 ?a35 ?l35 ?cc35 ?k35 ?a36 ?l36 ?cc36 ?k36 ?a37 ?l37 ?cc37 ?k37 ?a38 ?l38 ?cc38 ?k38 ?a39 ?l39 ?cc39 ?k39 ?ge10 ?kpe10 ?sbe10 ?tye10 ?hde10 ?ge11 ?kpe11 ?sbe11 ?tye11 ?hde11 ?ge12 ?kpe12 ?sbe12 ?tye12 ?hde12 ?x0e12 ?ge13 ?kpe13 ?sbe13 ?tye13 ?hde13 ?ge14 ?kpe14 ?sbe14 ?tye14 ?hde14 ?x0e14 ?ge15 ?kpe15 ?sbe15 ?tye15 ?hde15 ?sHouseError_14 ?xge14 ?xke14 ?xae14 ?xme14 ?xn ?xt ?kBadBook_BadLayout_Barred_NoSuch_14 ?kTooMany_14 ?kValueError_14 ?z_ValueError ?z_dict ?z_enumerate ?z_int ?z_isinstance ?z_len ?z_list ?z_range ?z_sorted ?z_str ?z_tuple ?gk_LONGEST ?gk_MOST ?gl_MOST ?gy_MOST ?gw_MOST ?gi_MOST_0 ?gi_MOST_1 ?gi_MOST_2 ?gi_MOST_3 ?gk_MOST_ROUTES ?gk_SIGNS
    (case gc3 => k_is)
    (case pgc3 => k_is)
    (case hdc3 => k_is)
    (case poc3 => k_is)
    (case sac3 => k_is)
    (case mkc3 => k_is)
    (case kcc3 => k_is)
    (case nc3_needs => k_is)
    (case nc3_sections => k_is)
    (case nc3_signal => k_is)
    (case nc3_target => k_is)
    (case gc4 => k_is)
    (case pgc4 => k_is)
    (case hdc4 => k_is)
    (case poc4 => k_is)
    (case sac4 => k_is)
    (case mkc4 => k_is)
    (case kcc4 => k_is)
    (case nc4_layout => k_is)
    (case nc4_signal => k_is)
    (case nc4_begin => k_is)
    (case nc4_found => k_is)
    (case gc6 => k_is)
    (case pgc6 => k_is)
    (case hdc6 => k_is)
    (case poc6 => k_is)
    (case sac6 => k_is)
    (case mkc6 => k_is)
    (case kcc6 => k_is)
    (case nc6_layout => k_is)
    (case nc6_routes => k_is)
    (case nc6_lies => k_is)
    (case nc6_laid => k_is)
    (case nc6_trains => k_is)
    (case nc6_rows => k_is)
    (case gc0 => k_is)
    (case pgc0 => k_is)
    (case hdc0 => k_is)
    (case poc0 => k_is)
    (case sac0 => k_is)
    (case mkc0 => k_is)
    (case kcc0 => k_is)
    (case nc0_one => k_is)
    (case nc0_other => k_is)
    (case nc0_needs => k_is)
    (case gc1 => k_is)
    (case pgc1 => k_is)
    (case hdc1 => k_is)
    (case poc1 => k_is)
    (case sac1 => k_is)
    (case mkc1 => k_is)
    (case kcc1 => k_is)
    (case nc1_sections => k_is)
    (case nc1_points => k_is)
    (case nc1_links => k_is)
    (case nc1_signals => k_is)
    (case gc2 => k_is)
    (case pgc2 => k_is)
    (case hdc2 => k_is)
    (case poc2 => k_is)
    (case sac2 => k_is)
    (case mkc2 => k_is)
    (case kcc2 => k_is)
    (case nc2_layout => k_is)
    (case nc2_row => k_is)
    (case nc2_counts => k_is)
    (case nc2_locked => k_is)
    (case nc2_train => k_is)
    (case a0 => k_is)
    (case i0 => k_is)
    (case l0 => k_is)
    (case cc0 => k_is)
    (case k0 => k_is)
    (case a1 => k_is)
    (case i1 => k_is)
    (case l1 => k_is)
    (case cc1 => k_is)
    (case k1 => k_is)
    (case a2 => k_is)
    (case l2 => k_is)
    (case cc2 => k_is)
    (case k2 => k_is)
    (case a3 => k_is)
    (case i3 => k_is)
    (case l3 => k_is)
    (case cc3 => k_is)
    (case k3 => k_is)
    (case a4 => k_is)
    (case i4 => k_is)
    (case l4 => k_is)
    (case cc4 => k_is)
    (case k4 => k_is)
    (case a5 => k_is)
    (case i5 => k_is)
    (case l5 => k_is)
    (case cc5 => k_is)
    (case k5 => k_is)
    (case a6 => k_is)
    (case l6 => k_is)
    (case cc6 => k_is)
    (case k6 => k_is)
    (case a7 => k_is)
    (case i7 => k_is)
    (case l7 => k_is)
    (case cc7 => k_is)
    (case k7 => k_is)
    (case a8 => k_is)
    (case i8 => k_is)
    (case l8 => k_is)
    (case cc8 => k_is)
    (case k8 => k_is)
    (case a9 => k_is)
    (case i9 => k_is)
    (case l9 => k_is)
    (case cc9 => k_is)
    (case k9 => k_is)
    (case a10 => k_is)
    (case i10 => k_is)
    (case l10 => k_is)
    (case cc10 => k_is)
    (case k10 => k_is)
    (case a11 => k_is)
    (case i11 => k_is)
    (case l11 => k_is)
    (case cc11 => k_is)
    (case k11 => k_is)
    (case a12 => k_is)
    (case i12 => k_is)
    (case l12 => k_is)
    (case cc12 => k_is)
    (case k12 => k_is)
    (case a13 => k_is)
    (case i13 => k_is)
    (case l13 => k_is)
    (case cc13 => k_is)
    (case k13 => k_is)
    (case a14 => k_is)
    (case i14 => k_is)
    (case l14 => k_is)
    (case cc14 => k_is)
    (case k14 => k_is)
    (case a15 => k_is)
    (case l15 => k_is)
    (case cc15 => k_is)
    (case k15 => k_is)
    (case a16 => k_is)
    (case i16 => k_is)
    (case l16 => k_is)
    (case cc16 => k_is)
    (case k16 => k_is)
    (case a17 => k_is)
    (case i17 => k_is)
    (case l17 => k_is)
    (case cc17 => k_is)
    (case k17 => k_is)
    (case a18 => k_is)
    (case i18 => k_is)
    (case l18 => k_is)
    (case cc18 => k_is)
    (case k18 => k_is)
    (case a19 => k_is)
    (case i19 => k_is)
    (case l19 => k_is)
    (case cc19 => k_is)
    (case k19 => k_is)
    (case a20 => k_is)
    (case i20 => k_is)
    (case l20 => k_is)
    (case cc20 => k_is)
    (case k20 => k_is)
    (case a21 => k_is)
    (case i21 => k_is)
    (case l21 => k_is)
    (case cc21 => k_is)
    (case k21 => k_is)
    (case a22 => k_is)
    (case i22 => k_is)
    (case l22 => k_is)
    (case cc22 => k_is)
    (case k22 => k_is)
    (case a23 => k_is)
    (case i23 => k_is)
    (case l23 => k_is)
    (case cc23 => k_is)
    (case k23 => k_is)
    (case a24 => k_is)
    (case i24 => k_is)
    (case l24 => k_is)
    (case cc24 => k_is)
    (case k24 => k_is)
    (case a25 => k_is)
    (case i25 => k_is)
    (case l25 => k_is)
    (case cc25 => k_is)
    (case k25 => k_is)
    (case a26 => k_is)
    (case i26 => k_is)
    (case l26 => k_is)
    (case cc26 => k_is)
    (case k26 => k_is)
    (case a27 => k_is)
    (case i27 => k_is)
    (case l27 => k_is)
    (case cc27 => k_is)
    (case k27 => k_is)
    (case a28 => k_is)
    (case l28 => k_is)
    (case cc28 => k_is)
    (case k28 => k_is)
    (case a29 => k_is)
    (case l29 => k_is)
    (case cc29 => k_is)
    (case k29 => k_is)
    (case a30 => k_is)
    (case l30 => k_is)
    (case cc30 => k_is)
    (case k30 => k_is)
    (case a31 => k_is)
    (case l31 => k_is)
    (case cc31 => k_is)
    (case k31 => k_is)
    (case a32 => k_is)
    (case l32 => k_is)
    (case cc32 => k_is)
    (case k32 => k_is)
    (case a33 => k_is)
    (case l33 => k_is)
    (case cc33 => k_is)
    (case k33 => k_is)
    (case a34 => k_is)
    (case l34 => k_is)
    (case cc34 => k_is)
    (case k34 => k_is)
    (case a35 => k_is)
    (case l35 => k_is)
    (case cc35 => k_is)
    (case k35 => k_is)
    (case a36 => k_is)
    (case l36 => k_is)
    (case cc36 => k_is)
    (case k36 => k_is)
    (case a37 => k_is)
    (case l37 => k_is)
    (case cc37 => k_is)
    (case k37 => k_is)
    (case a38 => k_is)
    (case l38 => k_is)
    (case cc38 => k_is)
    (case k38 => k_is)
    (case a39 => k_is)
    (case l39 => k_is)
    (case cc39 => k_is)
    (case k39 => k_is)
    (case ge10 => k_is)
    (case kpe10 => k_is)
    (case sbe10 => k_is)
    (case tye10 => k_is)
    (case hde10 => k_is)
    (case ge11 => k_is)
    (case kpe11 => k_is)
    (case sbe11 => k_is)
    (case tye11 => k_is)
    (case hde11 => k_is)
    (case ge12 => k_is)
    (case kpe12 => k_is)
    (case sbe12 => k_is)
    (case tye12 => k_is)
    (case hde12 => k_is)
    (case x0e12 => k_exc)
    (case ge13 => k_is)
    (case kpe13 => k_is)
    (case sbe13 => k_is)
    (case tye13 => k_is)
    (case hde13 => k_is)
    (case ge14 => k_is)
    (case kpe14 => k_is)
    (case sbe14 => k_is)
    (case tye14 => k_is)
    (case hde14 => k_is)
    (case x0e14 => k_exc)
    (case ge15 => k_is)
    (case kpe15 => k_is)
    (case sbe15 => k_is)
    (case tye15 => k_is)
    (case hde15 => k_is)
    (case sHouseError_14 => k_is)
    (case xge14 => k_is)
    (case xke14 => k_is)
    (case xae14 => k_is)
    (case xme14 => k_is)
    (case xn => k_is)
    (case xt => k_is)
    (case kBadBook_BadLayout_Barred_NoSuch_14 => kit_is)
    (case kTooMany_14 => kit_is)
    (case kValueError_14 => kit_is)
    (case z_ValueError => k_is)
    (case z_dict => k_is)
    (case z_enumerate => k_is)
    (case z_int => k_is)
    (case z_isinstance => k_is)
    (case z_len => k_is)
    (case z_list => k_is)
    (case z_range => k_is)
    (case z_sorted => k_is)
    (case z_str => k_is)
    (case z_tuple => k_is)
    (case gk_LONGEST => k_is)
    (case gk_MOST => k_is)
    (case gl_MOST => k_is)
    (case gy_MOST => k_keys)
    (case gw_MOST => rfl)
    (case gi_MOST_0 => k_is)
    (case gi_MOST_1 => k_is)
    (case gi_MOST_2 => k_is)
    (case gi_MOST_3 => k_is)
    (case gk_MOST_ROUTES => k_is)
    (case gk_SIGNS => k_is)
end
