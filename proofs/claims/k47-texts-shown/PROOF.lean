import PyProof.Rows.All
import Wide.All
import OpenK.AllK
import Wide.FinOn
import HandS.ForMost
import HandS.Deep
import HandS.WideBits
import HandS.NoneIn
import HandS.Zip
import HandS.EndBits
import KE.KDictCopyH
import PyProof.DictTable
import PySem.Str
import HandS.Gcd
import HandS.TupAny
import HandS.TupMul
import HandS.TupLe
import HandS.RaiseMore
import HandS.IsInst
import KE.KRevSl
import PySem.Challenge.RW_sidebooks_k47_whole_texts_shown
set_option Elab.async false
set_option linter.all false
set_option maxRecDepth 100000
set_option maxHeartbeats 4000000
set_option exponentiation.threshold 1000
/-! EvD: data by value, a small language, its evaluator. Plain Lean, no machine in sight. -/
namespace Ev
open PySem

/-- Python data; tuples and lists that nobody changes any more by value, a list or dict that may still be changed by its place in the store -/
inductive D where
  | non
  | bl (b : Bool)
  | int (i : Int)
  | str (x : Str)
  | tup (xs : List D)
  | lst (xs : List D)
  | sq (xs : List D)
  | dic (ks vs : List D)
  | own (n : Nat)
  deriving Inhabited

mutual
def D.eqb : D → D → Bool
  | .non, .non => true
  | .bl a, .bl b => a == b
  | .int i, .int j => decide (i = j)
  | .str x, .str y => decide (x = y)
  | .tup a, .tup b => D.eqbL a b
  | .lst a, .lst b => D.eqbL a b
  | .sq a, .sq b => D.eqbL a b
  | .dic k v, .dic k' v' => D.eqbL k k' && D.eqbL v v'
  | .own a, .own b => decide (a = b)
  | _, _ => false
def D.eqbL : List D → List D → Bool
  | [], [] => true
  | x :: xs, y :: ys => D.eqb x y && D.eqbL xs ys
  | _, _ => false
end
mutual
theorem D.eqb_refl : ∀ d : D, D.eqb d d = true
  | .non => rfl
  | .bl b => by simp [D.eqb]
  | .int i => by simp [D.eqb]
  | .str x => by simp [D.eqb]
  | .tup a => by simp [D.eqb, D.eqbL_refl a]
  | .lst a => by simp [D.eqb, D.eqbL_refl a]
  | .sq a => by simp [D.eqb, D.eqbL_refl a]
  | .dic k v => by simp [D.eqb, D.eqbL_refl k, D.eqbL_refl v]
  | .own n => by simp [D.eqb]
theorem D.eqbL_refl : ∀ d : List D, D.eqbL d d = true
  | [] => rfl
  | x :: xs => by simp [D.eqbL, D.eqb_refl x, D.eqbL_refl xs]
end
mutual
theorem D.eqb_eq : ∀ {d e : D}, D.eqb d e = true → d = e
  | .non, e, h => by cases e <;> simp [D.eqb] at h; rfl
  | .bl b, e, h => by cases e <;> simp [D.eqb] at h; rw [h]
  | .int i, e, h => by cases e <;> simp [D.eqb] at h; rw [h]
  | .str x, e, h => by cases e <;> simp [D.eqb] at h; rw [h]
  | .tup a, e, h => by cases e <;> simp [D.eqb] at h; rw [D.eqbL_eq h]
  | .lst a, e, h => by cases e <;> simp [D.eqb] at h; rw [D.eqbL_eq h]
  | .sq a, e, h => by cases e <;> simp [D.eqb] at h; rw [D.eqbL_eq h]
  | .dic k v, e, h => by
    cases e <;> simp [D.eqb] at h
    rw [D.eqbL_eq h.1, D.eqbL_eq h.2]
  | .own n, e, h => by cases e <;> simp [D.eqb] at h; rw [h]
theorem D.eqbL_eq : ∀ {d e : List D}, D.eqbL d e = true → d = e
  | [], e, h => by cases e <;> simp [D.eqbL] at h; rfl
  | x :: xs, e, h => by
    cases e <;> simp [D.eqbL] at h
    rw [D.eqb_eq h.1, D.eqbL_eq h.2]
end
instance : DecidableEq D := fun a b => if h : D.eqb a b = true then .isTrue (D.eqb_eq h) else .isFalse fun e => h (e ▸ D.eqb_refl a)

/-! ### Python's == , its conditions -/
mutual
/-- Python's == of None, bools, ints, texts, tuples, lists -/
def D.peq : D → D → Bool
  | .non, .non => true
  | .bl a, .bl b => a == b
  | .bl a, .int j => (if a then 1 else 0) == j
  | .int i, .bl b => i == (if b then 1 else 0)
  | .int i, .int j => i == j
  | .str x, .str y => x == y
  | .tup a, .tup b => D.peqL a b
  | .lst a, .lst b => D.peqL a b
  | _, _ => false
def D.peqL : List D → List D → Bool
  | [], [] => true
  | x :: xs, y :: ys => D.peq x y && D.peqL xs ys
  | _, _ => false
end
mutual
/-- nothing but None, bools, ints, texts, tuples, lists by value; nested no deeper than k -/
def D.okE : Nat → D → Bool
  | _, .non => true
  | _, .bl _ => true
  | _, .int _ => true
  | _, .str x => x.cps.all (· < 1114112)
  | k + 1, .tup a => D.okEL k a
  | k + 1, .lst a => D.okEL k a
  | _, _ => false
def D.okEL : Nat → List D → Bool
  | _, [] => true
  | k, x :: xs => D.okE k x && D.okEL k xs
end
mutual
/-- all places in the store are below b -/
def D.low (b : Nat) : D → Bool
  | .tup a => D.lowL b a
  | .lst a => D.lowL b a
  | .sq a => D.lowL b a
  | .dic k v => D.lowL b k && D.lowL b v
  | .own n => decide (n < b)
  | _ => true
def D.lowL (b : Nat) : List D → Bool
  | [] => true
  | x :: xs => D.low b x && D.lowL b xs
end

/-! ### the store -/
inductive Ob where
  | lst (xs : List D)
  | dic (ks vs : List D)
  deriving DecidableEq, Inhabited
def Ob.low (b : Nat) : Ob → Bool
  | .lst xs => D.lowL b xs
  | .dic ks vs => D.lowL b ks && D.lowL b vs
abbrev Sto := List Ob

/-- what comes of a piece: a value and the store, an exception (its class, its value), or nothing that this language tells -/
inductive R (α : Type) where
  | ok (a : α) (S : Sto)
  | ex (c : Nat) (v : D) (S : Sto)
  | no
def R.bind {α β : Type} (r : R α) (k : α → Sto → R β) : R β :=
  match r with
  | .ok a S => k a S
  | .ex c v S => .ex c v S
  | .no => .no
@[simp] theorem R.bind_ok {α β : Type} (a : α) (S : Sto) (k : α → Sto → R β) : (R.ok a S).bind k = k a S := rfl
@[simp] theorem R.bind_ex {α β : Type} (c : Nat) (v : D) (S : Sto) (k : α → Sto → R β) : (R.ex c v S : R α).bind k = .ex c v S := rfl
@[simp] theorem R.bind_no {α β : Type} (k : α → Sto → R β) : (R.no : R α).bind k = .no := rfl
theorem R.bind_eq_ok {α β : Type} {r : R α} {k : α → Sto → R β} {b : β} {S' : Sto} (h : r.bind k = .ok b S') : ∃ a S, r = .ok a S ∧ k a S = .ok b S' := by
  cases r with
  | ok a S => exact ⟨a, S, rfl, h⟩
  | ex c v S => cases h
  | no => cases h
def R.of {α : Type} (o : Option α) (S : Sto) : R α :=
  match o with
  | some a => .ok a S
  | none => .no
@[simp] theorem R.of_some {α : Type} (a : α) (S : Sto) : R.of (some a) S = .ok a S := rfl
@[simp] theorem R.of_none {α : Type} (S : Sto) : R.of (none : Option α) S = .no := rfl
theorem R.of_eq_ok {α : Type} {o : Option α} {S S' : Sto} {a : α} (h : R.of o S = .ok a S') : o = some a ∧ S' = S := by
  cases o with
  | none => cases h
  | some b => cases h; exact ⟨rfl, rfl⟩

abbrev LIM : Nat := 16777216
/-- the items of a list or a tuple -/
def itemsOf (S : Sto) : D → Option (List D)
  | .lst xs => some xs
  | .sq xs => some xs
  | .tup xs => some xs
  | .own n => match S[n]? with
    | some (.lst xs) => some xs
    | _ => none
  | _ => none
/-- .. of a list -/
def listOf (S : Sto) (d : D) : Option (List D) :=
  match d with
  | .tup _ => none
  | d => itemsOf S d
/-- a list by value in the place of its place -/
def look (S : Sto) : D → D
  | .own n => match S[n]? with
    | some (.lst xs) => .lst xs
    | some (.dic k v) => .dic k v
    | none => .own n
  | d => d

/-! ### the language -/
inductive BO where
  | add | sub | mul | fdiv | mod | pow
  deriving DecidableEq
inductive CO where
  | eq | ne | lt | le | gt | ge | is_ | isnot | in_ | notin
  deriving DecidableEq
inductive Ty where
  | bool | int | str | tuple | list
  deriving DecidableEq
/-- built-in functions whose answer is no new list or dict -/
inductive BF where
  | len | abs | max2 | min2 | int1 | str1 | tuple1 | sum1 | all1 | any1 | max1 | min1 | gcd
  deriving DecidableEq
/-- methods whose answer is no new list or dict -/
inductive MF where
  | join | append | extend | popLast | popAt | count | index | find2 | startswith | endswith | partition | get1 | get2
  deriving DecidableEq
/-- what makes a new list -/
inductive NF where
  | list1 | sorted1 | sortedSet | listRange | split
  deriving DecidableEq

mutual
inductive E where
  | var (i : Nat)
  | con (d : D)
  | glob (k : Nat)
  | bin (o : BO) (a b : E)
  | neg (a : E)
  | not_ (a : E)
  | and_ (a b : E)
  | or_ (a b : E)
  | ifx (c a b : E)
  | cmp (o : CO) (a b : E)
  | chn (o p : CO) (a b c : E)
  | tup (es : Es)
  | frz (n : N)
  | own (n : N)
  | sub (a i : E)
  | slc (a : E) (lo hi : Oe)
  | call (f : Nat) (es : Es)
  | callk (f : Nat) (es ks : Es) (perm : List Nat)
  | bi (k : BF) (es : Es)
  | isi (e : E) (ts : List Ty)
  | me (k : MF) (o : E) (es : Es)
  | tab (ks vs : List D) (e : E)
  | tabIn (neg : Bool) (ks : List D) (e : E)
inductive Oe where
  | no
  | yes (e : E)
inductive Es where
  | nil
  | cons (e : E) (r : Es)
inductive N where
  | disp (es : Es)
  | comp (vs : List Nat) (elt : E) (g : Tg) (i : I) (cs : Es)
  | comp2 (vs : List Nat) (elt : E) (g : Tg) (i : I) (cs : Es) (vs2 : List Nat) (g2 : Tg) (i2 : I) (cs2 : Es)
  | cat (a b : E)
  | rep (a b : E)
  | slc (a : E) (lo hi : Oe)
  | rev (a : E)
  | nf (k : NF) (es : Es)
inductive I where
  | val (e : E)
  | rng (es : Es)
  | enu (e : E)
  | zip (a b : E)
inductive Tg where
  | name (i : Nat)
  | tup (ts : Tgs)
  | sub (o i : E)
inductive Tgs where
  | nil
  | cons (t : Tg) (r : Tgs)
end
mutual
inductive S where
  | expr (e : E)
  | asg (t : Tg) (e : E)
  | par (i j : Nat) (a b : E)
  | aug (i : Nat) (o : BO) (e : E)
  | ret (e : E)
  | retN
  | ifs (c : E) (a b : Ss)
  | for_ (t : Tg) (i : I) (b : Ss)
  | while_ (c : E) (b : Ss)
  | brk
  | cont
  | pass
  | never
inductive Ss where
  | nil
  | cons (s : S) (r : Ss)
end

/-! ### the operations -/
def bits (i : Int) : Nat := i.natAbs.log2
abbrev BIG : Nat := 50000000
def mulOk (i j : Int) : Bool := decide (bits i < BIG) && decide (bits j < BIG)
def divOk (j : Int) : Bool := decide (j ≠ 0) && decide (bits j < 9000)
def powOk (i j : Int) : Bool := decide (0 ≤ j) && decide (j ≤ 1000) && decide (bits i < 100000)
def modOk (j : Int) : Bool := decide (j ≠ 0)
def strLen (x : Str) : Nat := x.length

def repL {α : Type} (xs : List α) (n : Nat) : List α := (List.replicate n xs).flatten

def binD (o : BO) (x y : D) : Option D :=
  match o, x, y with
  | .add, .int i, .int j => some (.int (i + j))
  | .add, .str a, .str b => if a.length + b.length ≤ LIM then some (.str (a ++ b)) else none
  | .add, .tup a, .tup b => if a.length + b.length ≤ LIM then some (.tup (a ++ b)) else none
  | .sub, .int i, .int j => some (.int (i - j))
  | .mul, .int i, .int j => if mulOk i j then some (.int (i * j)) else none
  | .mul, .tup a, .int n => if a.length ≤ 1000 ∧ n.natAbs ≤ 1000 then some (.tup (repL a n.toNat)) else none
  | .fdiv, .int i, .int j => if divOk j then some (.int (i.fdiv j)) else none
  | .mod, .int i, .int j => if modOk j then some (.int (i.fmod j)) else none
  | .pow, .int i, .int j => if powOk i j then some (.int (i ^ j.toNat)) else none
  | _, _, _ => none

/-- tuples of ints as tuples compare -/
def intsOf : List D → Option (List Int)
  | [] => some []
  | .int i :: r => (intsOf r).map (i :: ·)
  | _ => none
def lexLt : List Int → List Int → Bool
  | [], [] => false
  | [], _ :: _ => true
  | _ :: _, [] => false
  | x :: xs, y :: ys => if x = y then lexLt xs ys else decide (x < y)

def DEEP : Nat := 40
def inAny (x : D) (ys : List D) : Bool := ys.any fun y => D.peq y x
def eqD (S : Sto) (x y : D) : Option Bool :=
  match x, y with
  | .str a, .str b => some (decide (a = b))
  | x, y => if D.okE DEEP (look S x) && D.okE DEEP (look S y) then some (D.peq (look S x) (look S y)) else none
def cmpD (o : CO) (S : Sto) (x y : D) : Option Bool :=
  match o with
  | .eq => eqD S x y
  | .ne => (eqD S x y).map (!·)
  | .lt => match x, y with
    | .int i, .int j => some (decide (i < j))
    | .tup a, .tup b => match intsOf a, intsOf b with
      | some i, some j => some (lexLt i j)
      | _, _ => none
    | _, _ => none
  | .le => match x, y with
    | .int i, .int j => some (decide (i ≤ j))
    | _, _ => none
  | .gt => match x, y with
    | .int i, .int j => some (decide (i > j))
    | _, _ => none
  | .ge => match x, y with
    | .int i, .int j => some (decide (i ≥ j))
    | _, _ => none
  | .is_ => match y with
    | .non => some (decide (x = .non))
    | .bl b => match x with
      | .bl a => some (decide (a = b))
      | _ => none
    | _ => none
  | .isnot => match y with
    | .non => some (!decide (x = .non))
    | _ => none
  | .in_ => match x, y with
    | .str a, .str z => match a.cps.toList with
      | [c] => some (decide (c ∈ z.cps.toList))
      | _ => none
    | x, y => match itemsOf S y with
      | some ys => if D.okE DEEP x && D.okEL DEEP ys then some (inAny x ys) else none
      | none => none
  | .notin => match x, y with
    | .str a, .str z => match a.cps.toList with
      | [c] => some (!decide (c ∈ z.cps.toList))
      | _ => none
    | x, y => match itemsOf S y with
      | some ys => if D.okE DEEP x && D.okEL DEEP ys then some (!inAny x ys) else none
      | none => none

/-- the place of an index, from behind if below 0 -/
def place (n : Nat) (i : Int) : Option Nat := if 0 ≤ i then (if i < n then some i.toNat else none) else if -(n : Int) ≤ i then some (i + n).toNat else none
def subD (S : Sto) (a i : D) : Option D :=
  match i with
  | .int k => match a with
    | .str x => match place x.length k with
      | some p => match x.cps.toList[p]? with
        | some c => if x.length ≤ LIM then some (.str ⟨#[c]⟩) else none
        | none => none
      | none => none
    | a => match itemsOf S a with
      | some xs => match place xs.length k with
        | some p => xs[p]?
        | none => none
      | none => none
  | _ => none
/-- where a slice's bound stands -/
def bound (n d : Nat) : Option Int → Nat
  | none => d
  | some v => if v < 0 then (v + (n : Int)).toNat else min v.toNat n
def cutL {α : Type} (xs : List α) (lo hi : Option Int) : List α := (xs.drop (bound xs.length 0 lo)).take (bound xs.length xs.length hi - bound xs.length 0 lo)
def optInt : Option D → Option (Option Int)
  | none => some none
  | some (.int i) => some (some i)
  | _ => none
def slcD (a : D) (lo hi : Option Int) : Option D :=
  match a with
  | .str x => if x.length ≤ LIM then some (.str ⟨(cutL x.cps.toList lo hi).toArray⟩) else none
  | .tup xs => some (.tup (cutL xs lo hi))
  | _ => none

def isTy (x : D) : Ty → Bool
  | .bool => match x with
    | .bl _ => true
    | _ => false
  | .int => match x with
    | .bl _ => true
    | .int _ => true
    | _ => false
  | .str => match x with
    | .str _ => true
    | _ => false
  | .tuple => match x with
    | .tup _ => true
    | _ => false
  | .list => match x with
    | .lst _ => true
    | .sq _ => true
    | _ => false
def typed (S : Sto) (x : D) (ts : List Ty) : Bool := ts.any fun t => isTy (look S x) t

def boolsOf : List D → Option (List Bool)
  | [] => some []
  | .bl b :: r => (boolsOf r).map (b :: ·)
  | _ => none
def maxL : Int → List Int → Int
  | m, [] => m
  | m, x :: r => maxL (if x > m then x else m) r
def minL : Int → List Int → Int
  | m, [] => m
  | m, x :: r => minL (if x < m then x else m) r
def lenD (S : Sto) : D → Option Nat
  | .str x => if x.length ≤ LIM then some x.length else none
  | .dic k _ => some k.length
  | .own n => match S[n]? with
    | some (.lst xs) => some xs.length
    | some (.dic k _) => some k.length
    | none => none
  | .tup xs => some xs.length
  | .lst xs => some xs.length
  | .sq xs => some xs.length
  | _ => none
def strOfInt (i : Int) : Str := (toString i : String)
def one {α : Type} (ds : List D) (f : D → Option α) : Option α :=
  match ds with
  | [x] => f x
  | _ => none
def two {α : Type} (ds : List D) (f : D → D → Option α) : Option α :=
  match ds with
  | [x, y] => f x y
  | _ => none
def int2 (x y : D) (f : Int → Int → D) : Option D :=
  match x, y with
  | .int i, .int j => some (f i j)
  | _, _ => none
def bi1 (k : BF) (S : Sto) (x : D) : Option D :=
  match k with
  | .len => (lenD S x).map fun (n : Nat) => .int (n : Int)
  | .abs => match x with
    | .int i => some (.int (if i < 0 then -i else i))
    | _ => none
  | .int1 => match x with
    | .int i => some (.int i)
    | .bl b => some (.int (if b then 1 else 0))
    | _ => none
  | .str1 => match x with
    | .int i => if bits i < 1920 then some (.str (strOfInt i)) else none
    | .str x => some (.str x)
    | _ => none
  | .tuple1 => (itemsOf S x).map .tup
  | .sum1 => (listOf S x).bind fun xs => (intsOf xs).map fun is => .int is.sum
  | .all1 => (listOf S x).bind fun xs => (boolsOf xs).map fun bs => .bl (bs.all id)
  | .any1 => (listOf S x).bind fun xs => (boolsOf xs).map fun bs => .bl (bs.any id)
  | .max1 => (listOf S x).bind fun xs => (intsOf xs).bind fun is => match is with
    | [] => none
    | i :: r => some (.int (maxL i r))
  | .min1 => (listOf S x).bind fun xs => (intsOf xs).bind fun is => match is with
    | [] => none
    | i :: r => some (.int (minL i r))
  | _ => none
def biD (k : BF) (S : Sto) (ds : List D) : Option D :=
  match k with
  | .max2 => two ds fun x y => int2 x y fun i j => .int (if j > i then j else i)
  | .min2 => two ds fun x y => int2 x y fun i j => .int (if j < i then j else i)
  | .gcd => two ds fun x y => int2 x y fun i j => .int (Nat.gcd i.natAbs j.natAbs : Nat)
  | k => one ds (bi1 k S)

def strsOf : List D → Option (List Str)
  | [] => some []
  | .str x :: r => (strsOf r).map (x :: ·)
  | _ => none
def zero {α : Type} (ds : List D) (r : R α) : R α :=
  match ds with
  | [] => r
  | _ => .no
def oneR {α : Type} (ds : List D) (f : D → R α) : R α :=
  match ds with
  | [x] => f x
  | _ => .no
/-- a list that may be changed -/
def atL {α : Type} (S : Sto) (o : D) (f : Nat → List D → R α) : R α :=
  match o with
  | .own n => match S[n]? with
    | some (.lst xs) => f n xs
    | _ => .no
  | _ => .no
def joinD (S : Sto) (o x : D) : Option D :=
  match o with
  | .str sep => (itemsOf S x).bind fun xs => (strsOf xs).bind fun ys => if (ys.map strLen).sum + ys.length * sep.length ≤ LIM then some (.str (Str.join sep ys)) else none
  | _ => none
def meD (k : MF) (o : D) (ds : List D) (S : Sto) : R D :=
  match k with
  | .join => oneR ds fun x => R.of (joinD S o x) S
  | .append => oneR ds fun x => atL S o fun n xs => if xs.length < LIM then .ok .non (S.set n (.lst (xs ++ [x]))) else .no
  | .popAt => oneR ds fun i => match i with
    | .int i => atL S o fun n xs => match place xs.length i with
      | some p => match xs[p]? with
        | some x => .ok x (S.set n (.lst (xs.eraseIdx p)))
        | none => .no
      | none => .no
    | _ => .no
  | .popLast => zero ds (atL S o fun n xs => match xs[xs.length - 1]? with
    | some x => .ok x (S.set n (.lst xs.dropLast))
    | none => .no)
  | .extend => oneR ds fun x => atL S o fun n xs => match look S x with
    | .lst ys => if xs.length + ys.length ≤ LIM then .ok .non (S.set n (.lst (xs ++ ys))) else .no
    | _ => .no
  | _ => .no

def putD (o i v : D) (S : Sto) : R Unit :=
  match i with
  | .int k => atL S o fun n xs => match place xs.length k with
    | some p => .ok () (S.set n (.lst (xs.set p v)))
    | none => .no
  | _ => .no

def tabGet : List D → List D → D → Option D
  | k :: ks, v :: vs, x => if k = x then some v else tabGet ks vs x
  | _, _, _ => none

/-! ### the evaluator -/
abbrev Env := List (Option D)
inductive Fl where
  | nx (e : Env)
  | rt (d : D)
  | bk (e : Env)
  | ct (e : Env)
def wipeE (e : Env) : List Nat → Env
  | [] => e
  | v :: vs => (wipeE e vs).set v none

/-- what a loop goes over: its items, and the place of the list that must stay as it is -/
structure It where
  xs : List D
  at_ : List (Nat × List D)
def It.ok (i : It) (S : Sto) : Bool := i.at_.all fun p => decide (S[p.1]? = some (.lst p.2))
/-- the place of a list that may still be changed, with its items -/
def atOf (S : Sto) : D → List (Nat × List D)
  | .own n => match S[n]? with
    | some (.lst xs) => [(n, xs)]
    | _ => []
  | _ => []

/-- for each item: an answer or none, in turn; the list gone over stays -/
def compL (t : It) (f : D → Sto → R (Option D)) : List D → Sto → R (List D)
  | [], S => if t.ok S then .ok [] S else .no
  | x :: r, S => if t.ok S then (f x S).bind fun y S1 => (compL t f r S1).bind fun ys S2 => .ok (match y with
    | some d => d :: ys
    | none => ys) S2 else .no
/-- .. a list of answers each -/
def comp2L (t : It) (f : D → Sto → R (List D)) : List D → Sto → R (List D)
  | [], S => if t.ok S then .ok [] S else .no
  | x :: r, S => if t.ok S then (f x S).bind fun y S1 => (comp2L t f r S1).bind fun ys S2 => .ok (y ++ ys) S2 else .no
def forL (t : It) (f : D → Env → Sto → R Fl) : List D → Env → Sto → R Fl
  | [], e, S => if t.ok S then .ok (.nx e) S else .no
  | x :: r, e, S => if t.ok S then (f x e S).bind fun fl S1 => match fl with
    | .nx e1 => forL t f r e1 S1
    | .ct e1 => forL t f r e1 S1
    | .bk e1 => .ok (.nx e1) S1
    | .rt d => .ok (.rt d) S1 else .no
def whileL (c : Env → Sto → R Bool) (f : Env → Sto → R Fl) : Nat → Env → Sto → R Fl
  | 0, _, _ => .no
  | k + 1, e, S => (c e S).bind fun b S1 => if b then (f e S1).bind fun fl S2 => match fl with
    | .nx e1 => whileL c f k e1 S2
    | .ct e1 => whileL c f k e1 S2
    | .bk e1 => .ok (.nx e1) S2
    | .rt d => .ok (.rt d) S2 else .ok (.nx e) S1

def isTupD : D → Bool
  | .tup _ => true
  | _ => false
def rangeL (lo hi : Int) : List D := (List.range (hi - lo).toNat).map fun (k : Nat) => .int (lo + (k : Nat))
def rngD : List D → Option (List D)
  | [.int j] => if j ≤ LIM ∧ -(2 ^ 60) ≤ j then some (rangeL 0 j) else none
  | [.int i, .int j] => if j - i ≤ LIM ∧ -(2 ^ 60) ≤ i ∧ i ≤ 2 ^ 60 ∧ -(2 ^ 60) ≤ j ∧ j ≤ 2 ^ 60 then some (rangeL i j) else none
  | [.int i, .int j, .int k] => if k = -1 ∧ -(2 ^ 60) ≤ i ∧ i ≤ 2 ^ 60 ∧ -(2 ^ 60) ≤ j ∧ j ≤ 2 ^ 60 ∧ i - j ≤ LIM then some ((List.range (i - j).toNat).map fun (k : Nat) => .int (i - (k : Nat))) else none
  | _ => none
def iterOf (S : Sto) : D → Option It
  | .lst xs => some ⟨xs, []⟩
  | .sq xs => some ⟨xs, []⟩
  | .tup xs => some ⟨xs, []⟩
  | .str x => some ⟨x.cps.toList.map fun c => .str ⟨#[c]⟩, []⟩
  | .own n => match S[n]? with
    | some (.lst xs) => some ⟨xs, [(n, xs)]⟩
    | _ => none
  | _ => none
/-- an insertion sort: of ints, of tuples of ints -/
def insL {α : Type} (lt : α → α → Bool) (x : α) : List α → List α
  | [] => [x]
  | y :: r => if lt y x then y :: insL lt x r else x :: y :: r
def sortL {α : Type} (lt : α → α → Bool) : List α → List α
  | [] => []
  | x :: r => insL lt x (sortL lt r)
def nfD (k : NF) (S : Sto) (ds : List D) : Option (List D) :=
  match k, ds with
  | .list1, [x] => itemsOf S x
  | .sorted1, [x] => (listOf S x).bind fun xs => (intsOf xs).map fun is => (sortL (fun a b => decide (a < b)) is).map .int
  | .listRange, [.int j] => if j ≤ LIM then some (rangeL 0 j) else none
  | _, _ => none

/-- a function: how many parameters, how many names, its body; whether it hands back a list that the caller changes -/
structure Fn where
  np : Nat
  nl : Nat
  body : Ss
  keep : Bool

/-- lists that were made within a call, by value -/
def frz (S : Sto) (b : Nat) : Nat → D → Option D
  | 0, _ => none
  | k + 1, d => if d.low b then some d else match d with
    | .own n => match S[n]? with
      | some (.lst xs) => (xs.mapM (frz S b k)).map .lst
      | _ => none
    | .tup xs => (xs.mapM (frz S b k)).map .tup
    | .lst xs => (xs.mapM (frz S b k)).map .lst
    | _ => none
/-- whether what stood in the store ahead of the call knows nothing of what the call made -/
def outerOk (b : Nat) : Sto → Sto → Bool
  | o :: r, o' :: r' => (decide (o' = o) || o'.low b) && outerOk b r r'
  | [], _ => true
  | _, [] => false
def finish (keep : Bool) (S : Sto) (d : D) (S' : Sto) : R D :=
  if outerOk S.length S S' then
    match keep, d with
    | true, .own n => if n < S.length then .ok (.own n) (S'.take S.length) else match S'[n]? with
      | some o => if o.low S.length then .ok (.own S.length) (S'.take S.length ++ [o]) else .no
      | none => .no
    | _, d => match frz S' S.length 30 d with
      | some d' => .ok d' (S'.take S.length)
      | none => .no
  else .no

def Es.length : Es → Nat
  | .nil => 0
  | .cons _ r => r.length + 1

def pick {α : Type} (l : List α) : List Nat → Option (List α)
  | [] => some []
  | k :: r => match l[k]?, pick l r with
    | some x, some xs => some (x :: xs)
    | _, _ => none
/-- evaluation: cf the calls of own functions, G the module's constants, wf how many turns a while may make -/
structure Cf where
  call : Nat → List D → Sto → R D
  G : List D
  wf : Nat

mutual
def evE (c : Cf) : E → Env → Sto → R D
  | .var i, e, S => match e[i]? with
    | some (some d) => .ok d S
    | _ => .no
  | .con d, _, S => .ok d S
  | .glob k, _, S => R.of c.G[k]? S
  | .bin o a b, e, S => (evE c a e S).bind fun x S1 => (evE c b e S1).bind fun y S2 => R.of (binD o x y) S2
  | .neg a, e, S => (evE c a e S).bind fun x S1 => match x with
    | .int i => .ok (.int (-i)) S1
    | _ => .no
  | .not_ a, e, S => (evE c a e S).bind fun x S1 => match x with
    | .bl b => .ok (.bl (!b)) S1
    | _ => .no
  | .and_ a b, e, S => (evE c a e S).bind fun x S1 => match x with
    | .bl true => evE c b e S1
    | .bl false => .ok (.bl false) S1
    | _ => .no
  | .or_ a b, e, S => (evE c a e S).bind fun x S1 => match x with
    | .bl true => .ok (.bl true) S1
    | .bl false => evE c b e S1
    | _ => .no
  | .ifx t a b, e, S => (evE c t e S).bind fun x S1 => match x with
    | .bl true => evE c a e S1
    | .bl false => evE c b e S1
    | _ => .no
  | .cmp o a b, e, S => (evE c a e S).bind fun x S1 => (evE c b e S1).bind fun y S2 => R.of ((cmpD o S2 x y).map .bl) S2
  | .chn o p a b d, e, S => (evE c a e S).bind fun x S1 => (evE c b e S1).bind fun y S2 => match cmpD o S2 x y with
    | some true => (evE c d e S2).bind fun z S3 => R.of ((cmpD p S3 y z).map .bl) S3
    | some false => .ok (.bl false) S2
    | none => .no
  | .tup es, e, S => (evEs c es e S).bind fun ds S1 => if ds.length ≤ LIM then .ok (.tup ds) S1 else .no
  | .frz n, e, S => (evN c n e S).bind fun ds S1 => .ok (.lst ds) S1
  | .own n, e, S => (evN c n e S).bind fun ds S1 => .ok (.own S1.length) (S1 ++ [.lst ds])
  | .sub a i, e, S => (evE c a e S).bind fun x S1 => (evE c i e S1).bind fun y S2 => R.of (subD S2 x y) S2
  | .slc a lo hi, e, S => (evE c a e S).bind fun x S1 => (evO c lo e S1).bind fun l S2 => (evO c hi e S2).bind fun h S3 => match optInt l, optInt h with
    | some l, some h => R.of (slcD x l h) S3
    | _, _ => .no
  | .call f es, e, S => (evEs c es e S).bind fun ds S1 => c.call f ds S1
  | .callk f es ks perm, e, S => (evEs c es e S).bind fun ds S1 => (evEs c ks e S1).bind fun ws S2 => match pick (ds ++ ws) perm with
    | some ds' => c.call f ds' S2
    | none => .no
  | .bi k es, e, S => (evEs c es e S).bind fun ds S1 => R.of (biD k S1 ds) S1
  | .isi a ts, e, S => (evE c a e S).bind fun x S1 => .ok (.bl (typed S1 x ts)) S1
  | .me k o es, e, S => (evE c o e S).bind fun x S1 => (evEs c es e S1).bind fun ds S2 => meD k x ds S2
  | .tab ks vs i, e, S => (evE c i e S).bind fun x S1 => R.of (tabGet ks vs x) S1
  | .tabIn ng ks i, e, S => (evE c i e S).bind fun x S1 => match x with
    | .str _ => .ok (.bl (ng != decide (x ∈ ks))) S1
    | _ => .no
def evO (c : Cf) : Oe → Env → Sto → R (Option D)
  | .no, _, S => .ok none S
  | .yes a, e, S => (evE c a e S).bind fun x S1 => .ok (some x) S1
def evEs (c : Cf) : Es → Env → Sto → R (List D)
  | .nil, _, S => .ok [] S
  | .cons a r, e, S => (evE c a e S).bind fun x S1 => (evEs c r e S1).bind fun xs S2 => .ok (x :: xs) S2
/-- tests one behind the other -/
def evT (c : Cf) : Es → Env → Sto → R Bool
  | .nil, _, S => .ok true S
  | .cons a r, e, S => (evE c a e S).bind fun x S1 => match x with
    | .bl true => evT c r e S1
    | .bl false => .ok false S1
    | _ => .no
def evN (c : Cf) : N → Env → Sto → R (List D)
  | .disp es, e, S => (evEs c es e S).bind fun ds S1 => if ds.length ≤ LIM then .ok ds S1 else .no
  | .comp vs elt g i cs, e, S => (evI c i e S).bind fun t S1 => if LIM < t.xs.length then .no else compL t (fun x S2 => (evG c g x (wipeE e vs) S2).bind fun e1 S3 => (evT c cs e1 S3).bind fun b S4 =>
      if b then (evE c elt e1 S4).bind fun d S5 => .ok (some d) S5 else .ok none S4) t.xs S1
  | .comp2 vs elt g i cs vs2 g2 i2 cs2, e, S => (evI c i e S).bind fun t S1 => comp2L t (fun x S2 => (evG c g x (wipeE e vs) S2).bind fun e1 S3 => (evT c cs e1 S3).bind fun b S4 =>
      if b then (evI c i2 e1 S4).bind fun t2 S5 => compL t2 (fun x2 S6 => (evG c g2 x2 (wipeE e1 vs2) S6).bind fun e2 S7 => (evT c cs2 e2 S7).bind fun b2 S8 =>
        if b2 then (evE c elt e2 S8).bind fun d S9 => .ok (some d) S9 else .ok none S8) t2.xs S5 else .ok [] S4) t.xs S1
  | .cat a b, e, S => (evE c a e S).bind fun x S1 => (evE c b e S1).bind fun y S2 => match look S2 x, look S2 y with
    | .lst xs, .lst ys => if xs.length + ys.length ≤ LIM then .ok (xs ++ ys) S2 else .no
    | _, _ => .no
  | .rep a b, e, S => (evE c a e S).bind fun x S1 => (evE c b e S1).bind fun y S2 => match look S2 x, y with
    | .lst xs, .int n => if xs.length * n.toNat ≤ LIM ∧ n.natAbs ≤ LIM then .ok (repL xs n.toNat) S2 else .no
    | _, _ => .no
  | .slc a lo hi, e, S => (evE c a e S).bind fun x S1 => (evO c lo e S1).bind fun l S2 => (evO c hi e S2).bind fun h S3 => match look S3 x, optInt l, optInt h with
    | .lst xs, some l, some h => .ok (cutL xs l h) S3
    | _, _, _ => .no
  | .rev a, e, S => (evE c a e S).bind fun x S1 => match look S1 x with
    | .lst xs => .ok xs.reverse S1
    | _ => .no
  | .nf k es, e, S => (evEs c es e S).bind fun ds S1 => R.of (nfD k S1 ds) S1
def evI (c : Cf) : I → Env → Sto → R It
  | .val a, e, S => (evE c a e S).bind fun x S1 => R.of (iterOf S1 x) S1
  | .rng es, e, S => (evEs c es e S).bind fun ds S1 => R.of ((rngD ds).map fun xs => ⟨xs, []⟩) S1
  | .enu a, e, S => (evE c a e S).bind fun x S1 => match listOf S1 x with
    | some xs => .ok ⟨xs.zipIdx.map fun p => .tup [.int (p.2 : Nat), p.1], atOf S1 x⟩ S1
    | none => .no
  | .zip a b, e, S => (evE c a e S).bind fun x S1 => (evE c b e S1).bind fun y S2 => match itemsOf S2 x, itemsOf S2 y with
    | some xs, some ys => if isTupD x = isTupD y then .ok ⟨(xs.zip ys).map fun p => .tup [p.1, p.2], atOf S2 x ++ atOf S2 y⟩ S2 else .no
    | _, _ => .no
def evG (c : Cf) : Tg → D → Env → Sto → R Env
  | .name i, v, e, S => if i < e.length then .ok (e.set i (some v)) S else .no
  | .tup ts, v, e, S => match itemsOf S v with
    | some xs => evGs c ts xs e S
    | none => .no
  | .sub o i, v, e, S => (evE c o e S).bind fun x S1 => (evE c i e S1).bind fun y S2 => (putD x y v S2).bind fun _ S3 => .ok e S3
def evGs (c : Cf) : Tgs → List D → Env → Sto → R Env
  | .nil, [], e, S => .ok e S
  | .cons t r, x :: xs, e, S => (evG c t x e S).bind fun e1 S1 => evGs c r xs e1 S1
  | _, _, _, _ => .no
end

mutual
def evS (c : Cf) : S → Env → Sto → R Fl
  | .expr a, e, S => (evE c a e S).bind fun _ S1 => .ok (.nx e) S1
  | .asg t a, e, S => (evE c a e S).bind fun x S1 => (evG c t x e S1).bind fun e1 S2 => .ok (.nx e1) S2
  | .par i j a b, e, S => (evE c a e S).bind fun x S1 => (evE c b e S1).bind fun y S2 => if i < e.length ∧ j < e.length then .ok (.nx ((e.set i (some x)).set j (some y))) S2 else .no
  | .aug i o a, e, S => match e[i]? with
    | some (some x) => (evE c a e S).bind fun y S1 => match binD o x y with
      | some z => .ok (.nx (e.set i (some z))) S1
      | none => .no
    | _ => .no
  | .ret a, e, S => (evE c a e S).bind fun x S1 => .ok (.rt x) S1
  | .retN, _, S => .ok (.rt .non) S
  | .ifs t a b, e, S => (evE c t e S).bind fun x S1 => match x with
    | .bl true => evSs c a e S1
    | .bl false => evSs c b e S1
    | _ => .no
  | .for_ t i b, e, S => (evI c i e S).bind fun it S1 => forL it (fun x e1 S2 => (evG c t x e1 S2).bind fun e2 S3 => evSs c b e2 S3) it.xs e S1
  | .while_ t b, e, S => whileL (fun e1 S1 => (evE c t e1 S1).bind fun x S2 => match x with
      | .bl v => .ok v S2
      | _ => .no) (fun e1 S1 => evSs c b e1 S1) c.wf e S
  | .brk, e, S => .ok (.bk e) S
  | .cont, e, S => .ok (.ct e) S
  | .pass, e, S => .ok (.nx e) S
  | .never, _, _ => .no
def evSs (c : Cf) : Ss → Env → Sto → R Fl
  | .nil, e, S => .ok (.nx e) S
  | .cons s r, e, S => (evS c s e S).bind fun fl S1 => match fl with
    | .nx e1 => evSs c r e1 S1
    | fl => .ok fl S1
end

/-- a call, at most n deep -/
def callF (tab : List Fn) (G : List D) (wf : Nat) : Nat → Nat → List D → Sto → R D
  | 0, _, _, _ => .no
  | n + 1, f, ds, S => match tab[f]? with
    | none => .no
    | some fn => if ds.length = fn.np then
        (evSs ⟨callF tab G wf n, G, wf⟩ fn.body (ds.map some ++ List.replicate (fn.nl - fn.np) none) S).bind fun fl S1 => match fl with
          | .rt d => finish fn.keep S d S1
          | .nx _ => finish fn.keep S .non S1
          | _ => .no
      else .no
end Ev

/-! EvRel: data and store against the machine's heap; readings of expressions, tests, statements by the evaluator. -/
namespace Ev
open PySem PySem.Spec PyProof.Rows L2

/-- a list of the written part -/
def KL (K : PySem.W.Frag) (a : Addr) (vs : List V) : Prop :=
  ∃ (o : Obj) (its : Array Value) (n : Nat), K.lookup a = some o ∧ o.cls = .type "list" ∧ o.dict = none ∧ o.data = .seq its n ∧ its.size ≤ sizeLine ∧ Vals vs its.toList
/-- the places: the addresses of the store's lists; those of lists that are being made -/
structure Pl where
  io : List Addr
  hd : List Addr
/-- an address that is no place -/
def Pl.No (P : Pl) (a : Addr) : Prop := a ∉ P.io ∧ a ∉ P.hd
abbrev Pl.hide (P : Pl) (p : Addr) : Pl := ⟨P.io, p :: P.hd⟩
mutual
inductive Rep (K : PySem.W.Frag) (io : Pl) (H : Hp) : V → D → Prop
  | non : Rep K io H .non .non
  | bl (b : Bool) : Rep K io H (.bl b) (.bl b)
  | int (i : Int) : Rep K io H (.int i) (.int i)
  | str (x : Str) : Rep K io H (.str x) (.str x)
  | tup {a : Addr} {vs : List V} {ds : List D} : SqT K H a vs → RepL K io H vs ds → Rep K io H (.ref a) (.tup ds)
  | lst {a : Addr} {vs : List V} {ds : List D} : H a = some (.lst vs) → io.No a → RepL K io H vs ds → Rep K io H (.ref a) (.lst ds)
  | sq {a : Addr} {is : List Int} : (∃ o, H a = some (.frz o (.lst (is.map V.int)))) ∨ KL K a (is.map V.int) → Rep K io H (.ref a) (.sq (is.map D.int))
  | own {a : Addr} {n : Nat} : io.io[n]? = some a → Rep K io H (.ref a) (.own n)
inductive RepL (K : PySem.W.Frag) (io : Pl) (H : Hp) : List V → List D → Prop
  | nil : RepL K io H [] []
  | cons {v : V} {vs : List V} {d : D} {ds : List D} : Rep K io H v d → RepL K io H vs ds → RepL K io H (v :: vs) (d :: ds)
end

/-- what happens to places and heap on the way: places are added, what is not at a place stays -/
structure Tr (io : Pl) (H : Hp) (io' : Pl) (H' : Hp) : Prop where
  pre : ∃ r, io'.io = io.io ++ r
  hd : io'.hd = io.hd
  keep : ∀ a o, H a = some o → (a ∉ io.io ∨ ¬ Mut (some o)) → H' a = some o
  new : ∀ a ∈ io'.io, a ∉ io.io → H a = none

/-- .. where lists may be in the making -/
structure TrH (io : Pl) (H : Hp) (io' : Pl) (H' : Hp) : Prop where
  pre : ∃ r, io'.io = io.io ++ r
  hd : ∃ hs, io'.hd = hs ++ io.hd ∧ ∀ p ∈ hs, H p = none
  keep : ∀ a o, H a = some o → (a ∉ io.io ∨ ¬ Mut (some o)) → H' a = some o
  new : ∀ a ∈ io'.io, a ∉ io.io → H a = none

/-- the store against the heap -/
def ObR (K : PySem.W.Frag) (io : Pl) (H : Hp) (a : Addr) : Ob → Prop
  | .lst ds => ∃ vs, H a = some (.lst vs) ∧ RepL K io H vs ds
  | .dic _ _ => False
structure Wd (K : PySem.W.Frag) (io : Pl) (H : Hp) (S : Sto) : Prop where
  len : io.io.length = S.length
  nd : io.io.Nodup
  ob : ∀ (n : Nat) (a : Addr) (o : Ob), io.io[n]? = some a → S[n]? = some o → ObR K io H a o
  hid : ∀ a ∈ io.hd, a ∉ io.io ∧ ∃ xs, H a = some (.lst xs)
section
variable {K : PySem.W.Frag} {io io' io2 : Pl} {H H' H2 : Hp} {v : V} {d : D} {vs : List V} {ds : List D} {S S' : Sto}
theorem Wd.at (w : Wd K io H S) {n : Nat} {a : Addr} (h : io.io[n]? = some a) : ∃ o, S[n]? = some o ∧ ObR K io H a o := by
  have hn : n < io.io.length := (List.getElem?_eq_some_iff.mp h).1
  have hs : n < S.length := by rw [← w.len]; exact hn
  exact ⟨S[n], List.getElem?_eq_getElem hs, w.ob n a _ h (List.getElem?_eq_getElem hs)⟩
theorem Wd.at2 (w : Wd K io H S) {n : Nat} {o : Ob} (h : S[n]? = some o) : ∃ a, io.io[n]? = some a ∧ ObR K io H a o := by
  have hn : n < S.length := (List.getElem?_eq_some_iff.mp h).1
  have hs : n < io.io.length := by rw [w.len]; exact hn
  exact ⟨io.io[n], List.getElem?_eq_getElem hs, w.ob n _ _ (List.getElem?_eq_getElem hs) h⟩
theorem ObR.there {a : Addr} {o : Ob} (h : ObR K io H a o) : ∃ xs, H a = some (.lst xs) := by
  cases o with
  | lst ds => obtain ⟨vs, e, _⟩ := h; exact ⟨vs, e⟩
  | dic _ _ => exact h.elim
theorem Wd.mem (w : Wd K io H S) {a : Addr} (h : a ∈ io.io) : ∃ xs, H a = some (.lst xs) := by
  obtain ⟨n, hn⟩ := List.getElem?_of_mem h
  obtain ⟨o, _, r⟩ := w.at hn
  exact r.there
theorem Tr.refl {io : Pl} {H : Hp} : Tr io H io H := ⟨⟨[], by simp⟩, rfl, fun _ _ e _ => e, fun a h n => absurd h n⟩
theorem Tr.trans (t : Tr io H io' H') (u : Tr io' H' io2 H2) : Tr io H io2 H2 := by
  refine ⟨?_, u.hd.trans t.hd, fun a o e n => ?_, fun a h n => ?_⟩
  · obtain ⟨r, e1⟩ := t.pre
    obtain ⟨r2, e2⟩ := u.pre
    exact ⟨r ++ r2, by rw [e2, e1, List.append_assoc]⟩
  · have e1 := t.keep a o e n
    refine u.keep a o e1 ?_
    rcases n with n | n
    · refine .inl fun hm => ?_
      have := t.new a hm n
      rw [e] at this; cases this
    · exact .inr n
  · by_cases hm : a ∈ io'.io
    · exact t.new a hm n
    · have e2 := u.new a h hm
      cases e : H a with
      | none => rfl
      | some o =>
        have := t.keep a o e (.inl n)
        rw [e2] at this; cases this
theorem Tr.toH (t : Tr io H io' H') : TrH io H io' H' := ⟨t.pre, ⟨[], t.hd, fun _ h => by cases h⟩, t.keep, t.new⟩
theorem TrH.sub (t : TrH io H io' H') {a : Addr} (h : a ∈ io.io) : a ∈ io'.io := by
  obtain ⟨r, e⟩ := t.pre
  rw [e]
  exact List.mem_append_left _ h
theorem TrH.get (t : TrH io H io' H') {n : Nat} {a : Addr} (h : io.io[n]? = some a) : io'.io[n]? = some a := by
  obtain ⟨r, e⟩ := t.pre
  rw [e, List.getElem?_append_left (List.getElem?_eq_some_iff.mp h).1]
  exact h
theorem TrH.sqT (t : TrH io H io' H') {a : Addr} (h : SqT K H a vs) : SqT K H' a vs := by
  rcases h with (h | ⟨o, h⟩) | h
  · exact .inl (.inl (t.keep a _ h (.inr fun z => z)))
  · exact .inl (.inr ⟨o, t.keep a _ h (.inr fun z => z)⟩)
  · exact .inr h
theorem TrH.fz (t : TrH io H io' H') {a : Addr} {u : HO} (h : H a = some u) (n : io.No a) : H' a = some u ∧ io'.No a := by
  refine ⟨t.keep a _ h (.inl n.1), fun hm => ?_, fun hm => ?_⟩
  · have e := t.new a hm n.1
    rw [e] at h
    cases h
  · obtain ⟨hs, e, f⟩ := t.hd
    rw [e] at hm
    rcases List.mem_append.mp hm with hm | hm
    · rw [f a hm] at h
      cases h
    · exact n.2 hm
theorem Tr.sub (t : Tr io H io' H') {a : Addr} (h : a ∈ io.io) : a ∈ io'.io := t.toH.sub h
theorem Tr.get (t : Tr io H io' H') {n : Nat} {a : Addr} (h : io.io[n]? = some a) : io'.io[n]? = some a := t.toH.get h
theorem Tr.sqT (t : Tr io H io' H') {a : Addr} (h : SqT K H a vs) : SqT K H' a vs := t.toH.sqT h
theorem Tr.fz (t : Tr io H io' H') {a : Addr} {u : HO} (h : H a = some u) (n : io.No a) : H' a = some u ∧ io'.No a := t.toH.fz h n
mutual
theorem Rep.monoH (t : TrH io H io' H') : ∀ {v : V} {d : D}, Rep K io H v d → Rep K io' H' v d
  | _, _, .non => .non
  | _, _, .bl b => .bl b
  | _, _, .int i => .int i
  | _, _, .str x => .str x
  | _, _, .tup h r => .tup (t.sqT h) (RepL.monoH t r)
  | _, _, .lst h n r => .lst (t.fz h n).1 (t.fz h n).2 (RepL.monoH t r)
  | _, _, .sq h => .sq (h.imp (fun ⟨o, e⟩ => ⟨o, t.keep _ _ e (.inr fun z => z)⟩) id)
  | _, _, .own h => .own (t.get h)
theorem RepL.monoH (t : TrH io H io' H') : ∀ {v : List V} {d : List D}, RepL K io H v d → RepL K io' H' v d
  | _, _, .nil => .nil
  | _, _, .cons h r => .cons (Rep.monoH t h) (RepL.monoH t r)
end
theorem Rep.mono {v : V} {d : D} (t : Tr io H io' H') (h : Rep K io H v d) : Rep K io' H' v d := h.monoH t.toH
theorem RepL.mono {v : List V} {d : List D} (t : Tr io H io' H') (h : RepL K io H v d) : RepL K io' H' v d := h.monoH t.toH
theorem RepL.length : ∀ {vs : List V} {ds : List D}, RepL K io H vs ds → vs.length = ds.length
  | _, _, .nil => rfl
  | _, _, .cons _ r => by rw [List.length_cons, List.length_cons, RepL.length r]
theorem RepL.get : ∀ {vs : List V} {ds : List D} {i : Nat} {d : D}, RepL K io H vs ds → ds[i]? = some d → ∃ v, vs[i]? = some v ∧ Rep K io H v d
  | _, _, _, _, .nil, h => by simp at h
  | _, _, 0, _, .cons h _, e => by simp at e; subst e; exact ⟨_, rfl, h⟩
  | _, _, i + 1, _, .cons _ r, e => by
    obtain ⟨v, h1, h2⟩ := RepL.get (i := i) r (by simpa using e)
    exact ⟨v, by simpa using h1, h2⟩
theorem RepL.get2 : ∀ {vs : List V} {ds : List D} {i : Nat} {v : V}, RepL K io H vs ds → vs[i]? = some v → ∃ d, ds[i]? = some d ∧ Rep K io H v d
  | _, _, _, _, .nil, h => by simp at h
  | _, _, 0, _, .cons h _, e => by simp at e; subst e; exact ⟨_, rfl, h⟩
  | _, _, i + 1, _, .cons _ r, e => by
    obtain ⟨v, h1, h2⟩ := RepL.get2 (i := i) r (by simpa using e)
    exact ⟨v, by simpa using h1, h2⟩
theorem RepL.append : ∀ {vs ws : List V} {ds es : List D}, RepL K io H vs ds → RepL K io H ws es → RepL K io H (vs ++ ws) (ds ++ es)
  | _, _, _, _, .nil, s => s
  | _, _, _, _, .cons h r, s => .cons h (RepL.append r s)
theorem RepL.take : ∀ {vs : List V} {ds : List D} (n : Nat), RepL K io H vs ds → RepL K io H (vs.take n) (ds.take n)
  | _, _, 0, _ => by simp; exact .nil
  | _, _, _ + 1, .nil => .nil
  | _, _, n + 1, .cons h r => .cons h (RepL.take n r)
theorem RepL.drop : ∀ {vs : List V} {ds : List D} (n : Nat), RepL K io H vs ds → RepL K io H (vs.drop n) (ds.drop n)
  | _, _, 0, r => r
  | _, _, _ + 1, .nil => .nil
  | _, _, n + 1, .cons _ r => RepL.drop n r
theorem RepL.set {v : V} {d : D} (h : Rep K io H v d) : ∀ {vs : List V} {ds : List D} (i : Nat), RepL K io H vs ds → RepL K io H (vs.set i v) (ds.set i d)
  | _, _, _, .nil => .nil
  | _, _, 0, .cons _ r => .cons h r
  | _, _, i + 1, .cons q r => .cons q (RepL.set h i r)
theorem RepL.erase : ∀ {vs : List V} {ds : List D} (i : Nat), RepL K io H vs ds → RepL K io H (vs.eraseIdx i) (ds.eraseIdx i)
  | _, _, _, .nil => .nil
  | _, _, 0, .cons _ r => r
  | _, _, i + 1, .cons q r => .cons q (RepL.erase i r)
theorem RepL.reverse : ∀ {vs : List V} {ds : List D}, RepL K io H vs ds → RepL K io H vs.reverse ds.reverse
  | _, _, .nil => .nil
  | _, _, .cons q r => by
    rw [List.reverse_cons, List.reverse_cons]
    exact (RepL.reverse r).append (.cons q .nil)

mutual
theorem Rep.unhide {p : Addr} : ∀ {v : V} {d : D}, Rep K (io.hide p) H v d → Rep K io H v d
  | _, _, .non => .non
  | _, _, .bl b => .bl b
  | _, _, .int i => .int i
  | _, _, .str x => .str x
  | _, _, .tup h r => .tup h (RepL.unhide r)
  | _, _, .lst h n r => .lst h ⟨n.1, fun z => n.2 (List.mem_cons_of_mem _ z)⟩ (RepL.unhide r)
  | _, _, .sq h => .sq h
  | _, _, .own h => .own h
theorem RepL.unhide {p : Addr} : ∀ {v : List V} {d : List D}, RepL K (io.hide p) H v d → RepL K io H v d
  | _, _, .nil => .nil
  | _, _, .cons h r => .cons (Rep.unhide h) (RepL.unhide r)
end
mutual
/-- a list just made gets a place -/
theorem Rep.place {p : Addr} : ∀ {v : V} {d : D}, Rep K (io.hide p) H v d → Rep K ⟨io.io ++ [p], io.hd⟩ H v d
  | _, _, .non => .non
  | _, _, .bl b => .bl b
  | _, _, .int i => .int i
  | _, _, .str x => .str x
  | _, _, .tup h r => .tup h (RepL.place r)
  | _, _, .lst h n r => .lst h ⟨fun z => (List.mem_append.mp z).elim n.1 fun z => n.2 (by rw [List.mem_singleton.mp z]; exact List.mem_cons_self), fun z => n.2 (List.mem_cons_of_mem _ z)⟩ (RepL.place r)
  | _, _, .sq h => .sq h
  | _, _, .own h => .own (by rw [List.getElem?_append_left (List.getElem?_eq_some_iff.mp h).1]; exact h)
theorem RepL.place {p : Addr} : ∀ {v : List V} {d : List D}, RepL K (io.hide p) H v d → RepL K ⟨io.io ++ [p], io.hd⟩ H v d
  | _, _, .nil => .nil
  | _, _, .cons h r => .cons (Rep.place h) (RepL.place r)
end
theorem ObR.unhide {p a : Addr} {o : Ob} (h : ObR K (io.hide p) H a o) : ObR K io H a o := by
  cases o with
  | lst ds => obtain ⟨vs, e, r⟩ := h; exact ⟨vs, e, r.unhide⟩
  | dic _ _ => exact h.elim
theorem ObR.place {p a : Addr} {o : Ob} (h : ObR K (io.hide p) H a o) : ObR K ⟨io.io ++ [p], io.hd⟩ H a o := by
  cases o with
  | lst ds => obtain ⟨vs, e, r⟩ := h; exact ⟨vs, e, r.place⟩
  | dic _ _ => exact h.elim
theorem Wd.unhide {p : Addr} (w : Wd K (io.hide p) H S) : Wd K io H S :=
  ⟨w.len, w.nd, fun n a o h1 h2 => (w.ob n a o h1 h2).unhide, fun a h => w.hid a (List.mem_cons_of_mem _ h)⟩
theorem Wd.no {p : Addr} (w : Wd K (io.hide p) H S) : p ∉ io.io := (w.hid p List.mem_cons_self).1
/-- .. and the store one more list -/
theorem Wd.place {p : Addr} (w : Wd K (io.hide p) H S) (nh : p ∉ io.hd) (e : H p = some (.lst vs)) (r : RepL K (io.hide p) H vs ds) : Wd K ⟨io.io ++ [p], io.hd⟩ H (S ++ [.lst ds]) := by
  have np := w.no
  refine ⟨by rw [List.length_append, List.length_append, w.len]; rfl, ?_, fun n a o h1 h2 => ?_, fun a h => ⟨fun z => ?_, (w.hid a (List.mem_cons_of_mem _ h)).2⟩⟩
  · refine List.nodup_append.mpr ⟨w.nd, by simp, fun a ha b hb z => ?_⟩
    rw [List.mem_singleton.mp hb] at z
    rw [z] at ha
    exact np ha
  · by_cases hn : n < io.io.length
    · rw [List.getElem?_append_left hn] at h1
      rw [List.getElem?_append_left (by rw [← w.len]; exact hn)] at h2
      exact (w.ob n a o h1 h2).place
    · have hn2 : n = io.io.length := by
        have := (List.getElem?_eq_some_iff.mp h1).1
        rw [List.length_append, List.length_singleton] at this
        omega
      rw [hn2, List.getElem?_append_right (Nat.le_refl _), Nat.sub_self] at h1
      have hl : io.io.length = S.length := w.len
      rw [hn2, hl, List.getElem?_append_right (Nat.le_refl _), Nat.sub_self] at h2
      cases h1
      cases h2
      exact ⟨vs, e, r.place⟩
  · rcases List.mem_append.mp z with z | z
    · exact (w.hid a (List.mem_cons_of_mem _ h)).1 z
    · rw [List.mem_singleton.mp z] at h
      exact nh h

/-- the names -/
structure EnvR (K : PySem.W.Frag) (io : Pl) (H : Hp) (σ : L2.St) (e : Env) : Prop where
  len : e.length = σ.length
  at_ : ∀ (i : Nat) (d : D), e[i]? = some (some d) → ∃ v, σ[i]? = some (some v) ∧ Rep K io H v d
theorem EnvR.mono {σ : L2.St} {e : Env} (t : Tr io H io' H') (h : EnvR K io H σ e) : EnvR K io' H' σ e :=
  ⟨h.len, fun i d q => let ⟨v, a, r⟩ := h.at_ i d q; ⟨v, a, r.mono t⟩⟩
theorem EnvR.monoH {σ : L2.St} {e : Env} (t : TrH io H io' H') (h : EnvR K io H σ e) : EnvR K io' H' σ e :=
  ⟨h.len, fun i d q => let ⟨v, a, r⟩ := h.at_ i d q; ⟨v, a, r.monoH t⟩⟩
theorem EnvR.set {σ : L2.St} {e : Env} {v : V} {d : D} (h : EnvR K io H σ e) (r : Rep K io H v d) (i : Nat) : EnvR K io H (σ.set i (some v)) (e.set i (some d)) := by
  refine ⟨by rw [List.length_set, List.length_set, h.len], fun j d' q => ?_⟩
  by_cases hj : i = j
  · subst hj
    by_cases hi : i < e.length
    · rw [List.getElem?_set_self hi] at q
      cases q
      exact ⟨v, by rw [List.getElem?_set_self (by rw [← h.len]; exact hi)], r⟩
    · rw [List.getElem?_eq_none (by simpa using hi)] at q
      cases q
  · rw [List.getElem?_set_ne hj] at q
    obtain ⟨v', a, r'⟩ := h.at_ j d' q
    exact ⟨v', by rw [List.getElem?_set_ne hj]; exact a, r'⟩
theorem wipeE_length (e : Env) : ∀ vs, (wipeE e vs).length = e.length
  | [] => rfl
  | v :: vs => by unfold wipeE; rw [List.length_set, wipeE_length e vs]
theorem EnvR.wiped {σ : L2.St} {e : Env} (h : EnvR K io H σ e) : ∀ vs, EnvR K io H (L2.wipe σ vs) (wipeE e vs)
  | [] => h
  | v :: vs => by
    have ih := h.wiped vs
    refine ⟨by rw [wipeE_length, wipe_length, h.len], fun i d q => ?_⟩
    unfold wipeE at q
    unfold L2.wipe
    by_cases hi : v = i
    · subst hi
      by_cases hv : v < (wipeE e vs).length
      · rw [List.getElem?_set_self hv] at q; cases q
      · rw [List.getElem?_eq_none (by simpa using hv)] at q; cases q
    · rw [List.getElem?_set_ne hi] at q
      rw [List.getElem?_set_ne hi]
      exact ih.at_ i d q
end

/-! ### readings -/
/-- an expression -/
def rdE (K : PySem.W.Frag) (m : Env → Sto → R D) : TE := fun σ H Q => ∃ e io S d S', EnvR K io H σ e ∧ Wd K io H S ∧ m e S = .ok d S' ∧
  ∀ io' H' v, Tr io H io' H' → Wd K io' H' S' → Rep K io' H' v d → Q v H'
/-- a test -/
def rdT (K : PySem.W.Frag) (m : Env → Sto → R D) : TT := fun σ H Q => ∃ e io S b S', EnvR K io H σ e ∧ Wd K io H S ∧ m e S = .ok (.bl b) S' ∧
  ∀ io' H', Tr io H io' H' → Wd K io' H' S' → Q b H'
/-- arguments -/
def rdA (K : PySem.W.Frag) (m : Env → Sto → R (List D)) : TA := fun σ H Q => ∃ e io S ds S', EnvR K io H σ e ∧ Wd K io H S ∧ m e S = .ok ds S' ∧
  ∀ io' H' vs, Tr io H io' H' → Wd K io' H' S' → RepL K io' H' vs ds → Q vs H'
/-- tests of a clause -/
def rdB (K : PySem.W.Frag) (m : Env → Sto → R Bool) : TT := fun σ H Q => ∃ e io S b S', EnvR K io H σ e ∧ Wd K io H S ∧ m e S = .ok b S' ∧
  ∀ io' H', Tr io H io' H' → Wd K io' H' S' → Q b H'
/-- a new list -/
def rdN (K : PySem.W.Frag) (m : Env → Sto → R (List D)) : TE := fun σ H Q => ∃ e io S ds S', EnvR K io H σ e ∧ Wd K io H S ∧ m e S = .ok ds S' ∧
  ∀ io' H' p vs, Tr io H io' H' → Wd K (io'.hide p) H' S' → H p = none → H' p = some (.lst vs) → RepL K (io'.hide p) H' vs ds → Q (.ref p) H'
/-- the end of a statement -/
def FlR (K : PySem.W.Frag) (io : Pl) (H : Hp) (S' : Sto) (D : Ends) : Fl → Prop
  | .nx e' => ∀ io' H' σ', Tr io H io' H' → Wd K io' H' S' → EnvR K io' H' σ' e' → D.nx σ' H'
  | .rt d => ∀ io' H' v, Tr io H io' H' → Wd K io' H' S' → Rep K io' H' v d → D.rt v H'
  | .bk e' => ∀ io' H' σ', Tr io H io' H' → Wd K io' H' S' → EnvR K io' H' σ' e' → D.bk σ' H'
  | .ct e' => ∀ io' H' σ', Tr io H io' H' → Wd K io' H' S' → EnvR K io' H' σ' e' → D.ct σ' H'
def rdS (K : PySem.W.Frag) (m : Env → Sto → R Fl) : TS := fun D σ H => ∃ e io S fl S', EnvR K io H σ e ∧ Wd K io H S ∧ m e S = .ok fl S' ∧ FlR K io H S' D fl
/-- the same names but at some places -/
def Agree (ts : List Nat) (σ σ' : L2.St) : Prop := σ'.length = σ.length ∧ ∀ j, j ∉ ts → σ'[j]? = σ[j]?
/-- a target -/
def rdG (K : PySem.W.Frag) (ts : List Nat) (m : D → Env → Sto → R Env) : TG := fun v σ H Q => ∃ e io S d e' S', EnvR K io H σ e ∧ Wd K io H S ∧ Rep K io H v d ∧ m d e S = .ok e' S' ∧
  ∀ io' H' σ', Tr io H io' H' → Wd K io' H' S' → EnvR K io' H' σ' e' → Agree ts σ σ' → Q σ' H'
def rdGs (K : PySem.W.Frag) (ts : List Nat) (m : List D → Env → Sto → R Env) : TGs := fun vs σ H Q => ∃ e io S ds e' S', EnvR K io H σ e ∧ Wd K io H S ∧ RepL K io H vs ds ∧ m ds e S = .ok e' S' ∧
  ∀ io' H' σ', Tr io H io' H' → Wd K io' H' S' → EnvR K io' H' σ' e' → Agree ts σ σ' → Q σ' H'
theorem Agree.refl {ts : List Nat} {σ : L2.St} : Agree ts σ σ := ⟨rfl, fun _ _ => rfl⟩
theorem Agree.trans {ts us : List Nat} {σ σ1 σ2 : L2.St} (a : Agree ts σ σ1) (b : Agree us σ1 σ2) : Agree (ts ++ us) σ σ2 :=
  ⟨b.1.trans a.1, fun j h => (b.2 j fun z => h (List.mem_append_right _ z)).trans (a.2 j fun z => h (List.mem_append_left _ z))⟩
theorem wipe_get (σ : L2.St) : ∀ (vs : List Nat) (j : Nat), (L2.wipe σ vs)[j]? = if j ∈ vs then (σ[j]?).map fun _ => none else σ[j]?
  | [], j => by simp [L2.wipe]
  | v :: vs, j => by
    unfold L2.wipe
    by_cases h : v = j
    · subst h
      rw [if_pos List.mem_cons_self]
      by_cases hv : v < (L2.wipe σ vs).length
      · rw [List.getElem?_set_self hv]
        rw [wipe_length] at hv
        rw [List.getElem?_eq_getElem hv]
        rfl
      · rw [List.getElem?_eq_none (by simpa using hv)]
        rw [wipe_length] at hv
        rw [List.getElem?_eq_none (by omega)]
        rfl
    · rw [List.getElem?_set_ne h, wipe_get σ vs j]
      by_cases hm : j ∈ vs
      · rw [if_pos hm, if_pos (List.mem_cons_of_mem _ hm)]
      · rw [if_neg hm, if_neg (fun z => by
          rcases List.mem_cons.mp z with z | z
          · exact h z.symm
          · exact hm z)]
theorem Agree.wiped {ts vs : List Nat} {σ σ' : L2.St} (a : Agree ts (L2.wipe σ vs) σ') (h : ∀ i ∈ ts, i ∈ vs) : L2.wipe σ' vs = L2.wipe σ vs := by
  apply List.ext_getElem?
  intro j
  rw [wipe_get, wipe_get]
  by_cases hj : j ∈ vs
  · rw [if_pos hj, if_pos hj]
    have e : σ'.length = σ.length := by rw [a.1, wipe_length]
    by_cases hl : j < σ.length
    · rw [List.getElem?_eq_getElem (by omega), List.getElem?_eq_getElem hl]
      rfl
    · rw [List.getElem?_eq_none (by omega), List.getElem?_eq_none (by omega)]
  · rw [if_neg hj, if_neg hj]
    have e := a.2 j fun z => hj (h j z)
    rw [wipe_get, if_neg hj] at e
    exact e
/-- what is walked -/
def JOk (K : PySem.W.Frag) (J : L2.It) (t : It) (io : Pl) (H : Hp) : Prop :=
  ∀ (i : Nat) (io1 : Pl) (H1 : Hp) (S1 : Sto), TrH io H io1 H1 → Wd K io1 H1 S1 → t.ok S1 = true →
    (∀ x, t.xs[i]? = some x → J.go i H1 ∧ ∀ v H2, J.yld i H1 v H2 → Tr io1 H1 io1 H2 ∧ Wd K io1 H2 S1 ∧ Rep K io1 H2 v x) ∧ (i = t.xs.length → J.stop i H1)
def rdI (K : PySem.W.Frag) (m : Env → Sto → R It) : TI := fun σ H R => ∃ e io S t S', EnvR K io H σ e ∧ Wd K io H S ∧ m e S = .ok t S' ∧
  ∀ io' H' J, Tr io H io' H' → Wd K io' H' S' → JOk K J t io' H' → R J H'

/-! ### weakening -/
section
variable {X : Cx}
theorem PE.imp {e : Expr} {t t' : TE} (h : PE X e t) (hq : ∀ σ H Q, t' σ H Q → t σ H Q) : PE X e t' := ⟨fun pins s σ H Q I ht => h.run pins s σ H Q I (hq σ H Q ht)⟩
theorem PT.imp {e : Expr} {t t' : TT} (h : PT X e t) (hq : ∀ σ H Q, t' σ H Q → t σ H Q) : PT X e t' := ⟨fun pins s σ H Q I ht => h.run pins s σ H Q I (hq σ H Q ht)⟩
theorem PW.imp {e : Expr} {t t' : TT} (h : PW X e t) (hq : ∀ σ H Q, t' σ H Q → t σ H Q) : PW X e t' := ⟨fun wh pins s σ H Q I ht => h.run wh pins s σ H Q I (hq σ H Q ht)⟩
theorem PA.imp {e : List Expr} {t t' : TA} (h : PA X e t) (hq : ∀ σ H Q, t' σ H Q → t σ H Q) : PA X e t' := ⟨fun pos pins s σ H Q I ht => h.run pos pins s σ H Q I (hq σ H Q ht)⟩
theorem PK.imp {e : List Keyword} {t t' : TA} (h : PK X e t) (hq : ∀ σ H Q, t' σ H Q → t σ H Q) : PK X e t' := ⟨fun pos pins s σ H Q I ht => h.run pos pins s σ H Q I (hq σ H Q ht)⟩
theorem PTs.imp {e : List Expr} {t t' : TT} (h : PTs X e t) (hq : ∀ σ H Q, t' σ H Q → t σ H Q) : PTs X e t' := ⟨fun pins s σ H Q I ht => h.run pins s σ H Q I (hq σ H Q ht)⟩
theorem PS.imp {e : Stmt} {t t' : TS} (h : PS X e t) (hq : ∀ D σ H, t' D σ H → t D σ H) : PS X e t' := ⟨fun pins s σ H Q I ht => h.run pins s σ H Q I (hq Q σ H ht)⟩
theorem PSs.imp {e : List Stmt} {t t' : TS} (h : PSs X e t) (hq : ∀ D σ H, t' D σ H → t D σ H) : PSs X e t' := ⟨fun pins s σ H Q I ht => h.run pins s σ H Q I (hq Q σ H ht)⟩
theorem PG.imp {e : Expr} {t t' : TG} (h : PG X e t) (hq : ∀ v σ H Q, t' v σ H Q → t v σ H Q) : PG X e t' := ⟨fun pins s σ H v u Q I r ht => h.run pins s σ H v u Q I r (hq v σ H Q ht)⟩
theorem PGs.imp {e : List Expr} {t t' : TGs} (h : PGs X e t) (hq : ∀ v σ H Q, t' v σ H Q → t v σ H Q) : PGs X e t' := ⟨fun pins s σ H vs us Q I r ht => h.run pins s σ H vs us Q I r (hq vs σ H Q ht)⟩
theorem PI.imp {tg e : Expr} {t t' : TI} (h : PI X tg e t) (hq : ∀ σ H Q, t' σ H Q → t σ H Q) : PI X tg e t' := ⟨fun pins s σ H Q I ht => h.run pins s σ H Q I (hq σ H Q ht)⟩
end

/-! ### two pieces, one behind the other -/
section
variable {K : PySem.W.Frag} {io : Pl} {H : Hp} {S S1 S2 : Sto} {e : Env} {σ : L2.St} {x y : D} {ma mb : Env → Sto → R D} {xs : List D} {ms : Env → Sto → R (List D)}
theorem rd1 {Q : VK} (hE : EnvR K io H σ e) (hW : Wd K io H S) (h1 : ma e S = .ok x S1)
    (k : ∀ io1 H1 v, Tr io H io1 H1 → Wd K io1 H1 S1 → Rep K io1 H1 v x → EnvR K io1 H1 σ e → Q v H1) : rdE K ma σ H Q :=
  ⟨e, io, S, x, S1, hE, hW, h1, fun io1 H1 v t w r => k io1 H1 v t w r (hE.mono t)⟩
theorem rd2 {Q : V → V → Hp → Prop} (hE : EnvR K io H σ e) (hW : Wd K io H S) (h1 : ma e S = .ok x S1) (h2 : mb e S1 = .ok y S2)
    (k : ∀ io2 H2 v u, Tr io H io2 H2 → Wd K io2 H2 S2 → Rep K io2 H2 v x → Rep K io2 H2 u y → EnvR K io2 H2 σ e → Q v u H2) : rdE K ma σ H fun v H1 => rdE K mb σ H1 fun u H2 => Q v u H2 :=
  rd1 hE hW h1 fun _ _ _ t1 w1 r1 e1 => rd1 e1 w1 h2 fun _ _ _ t2 w2 r2 e2 => k _ _ _ _ (t1.trans t2) w2 (r1.mono t2) r2 e2
end
end Ev

/-! EvOps: the operations on values -/
namespace Ev
open PySem PySem.Spec PyProof.Rows L2

theorem lim : LIM = sizeLine := by decide
section
variable {K : PySem.W.Frag} {io io' : Pl} {H H' : Hp} {S S' : Sto} {p : Addr} {o : HO}
theorem Tr.upd (h : H p = none) : Tr io H io (upd H p o) :=
  ⟨⟨[], by simp⟩, rfl, fun a u e _ => by rw [upd_ne (ne_of_none e h)]; exact e, fun a h n => absurd h n⟩
theorem Wd.upd (w : Wd K io H S) (h : H p = none) : Wd K io (upd H p o) S := by
  refine ⟨w.len, w.nd, fun n a ob e1 e2 => ?_, fun a ha => ⟨(w.hid a ha).1, (w.hid a ha).2.elim fun xs e => ⟨xs, by rw [upd_ne (ne_of_none e h)]; exact e⟩⟩⟩
  have q := w.ob n a ob e1 e2
  cases ob with
  | dic _ _ => exact q.elim
  | lst ds =>
    obtain ⟨vs, e, r⟩ := q
    exact ⟨vs, by rw [upd_ne (ne_of_none e h)]; exact e, r.mono (Tr.upd h)⟩
theorem Wd.fresh (w : Wd K io H S) (h : H p = none) : io.No p := by
  refine ⟨fun hm => ?_, fun hm => ?_⟩
  · obtain ⟨xs, e⟩ := w.mem hm
    rw [h] at e; cases e
  · obtain ⟨xs, e⟩ := (w.hid p hm).2
    rw [h] at e; cases e
mutual
theorem Rep.hidden (h : H p = none) : ∀ {v : V} {d : D}, Rep K io H v d → Rep K (io.hide p) (L2.upd H p o) v d
  | _, _, .non => .non
  | _, _, .bl b => .bl b
  | _, _, .int i => .int i
  | _, _, .str x => .str x
  | _, _, .tup e r => .tup ((Tr.upd (io := io) h).sqT e) (RepL.hidden h r)
  | _, _, .lst e n r => .lst (by rw [upd_ne (ne_of_none e h)]; exact e) ⟨n.1, fun z => by
    rcases List.mem_cons.mp z with z | z
    · exact ne_of_none e h z
    · exact n.2 z⟩ (RepL.hidden h r)
  | _, _, .sq e => .sq (e.imp (fun ⟨ob, q⟩ => ⟨ob, by rw [upd_ne (ne_of_none q h)]; exact q⟩) fun q => q)
  | _, _, .own e => .own e
theorem RepL.hidden (h : H p = none) : ∀ {v : List V} {d : List D}, RepL K io H v d → RepL K (io.hide p) (L2.upd H p o) v d
  | _, _, .nil => .nil
  | _, _, .cons e r => .cons (Rep.hidden h e) (RepL.hidden h r)
end
theorem Wd.hidden {xs : List V} (w : Wd K io H S) (h : H p = none) : Wd K (io.hide p) (L2.upd H p (.lst xs)) S := by
  refine ⟨w.len, w.nd, fun n a ob e1 e2 => ?_, fun a ha => ?_⟩
  · have q := w.ob n a ob e1 e2
    cases ob with
    | dic _ _ => exact q.elim
    | lst ds =>
      obtain ⟨vs, e, r⟩ := q
      exact ⟨vs, by rw [upd_ne (ne_of_none e h)]; exact e, r.hidden h⟩
  · rcases List.mem_cons.mp ha with e | ha
    · rw [e]
      exact ⟨(w.fresh h).1, xs, upd_same⟩
    · obtain ⟨n1, ys, e⟩ := w.hid a ha
      exact ⟨n1, ys, by rw [upd_ne (ne_of_none e h)]; exact e⟩
theorem rep_tup {vs : List V} {ds : List D} (w : Wd K io H S) (h : H p = none) (r : RepL K io H vs ds) : Rep K io (L2.upd H p (.tup vs)) (.ref p) (.tup ds) :=
  .tup (.inl (.inl upd_same)) (r.mono (Tr.upd h))
theorem rep_lst {vs : List V} {ds : List D} (w : Wd K io H S) (h : H p = none) (r : RepL K io H vs ds) : Rep K io (L2.upd H p (.lst vs)) (.ref p) (.lst ds) :=
  .lst upd_same (w.fresh h) (r.mono (Tr.upd h))
theorem RepL.ints : ∀ {is : List Int} {vs : List V}, RepL K io H vs (is.map D.int) → vs = is.map V.int
  | [], _, h => by cases h; rfl
  | i :: is, _, h => by
    cases h with
    | cons h r =>
      cases h
      rw [RepL.ints r]; rfl
theorem RepL.of_ints : ∀ (is : List Int), RepL K io H (is.map V.int) (is.map D.int)
  | [] => .nil
  | i :: is => .cons (.int i) (RepL.of_ints is)
theorem intsOf_eq : ∀ {ds : List D} {is : List Int}, intsOf ds = some is → ds = is.map D.int
  | [], is, h => by cases h; rfl
  | .int i :: r, is, h => by
    unfold intsOf at h
    cases e : intsOf r with
    | none => rw [e] at h; cases h
    | some js =>
      rw [e] at h
      cases h
      rw [intsOf_eq e]; rfl
  | .non :: _, _, h => by cases h
  | .bl _ :: _, _, h => by cases h
  | .str _ :: _, _, h => by cases h
  | .tup _ :: _, _, h => by cases h
  | .lst _ :: _, _, h => by cases h
  | .sq _ :: _, _, h => by cases h
  | .dic _ _ :: _, _, h => by cases h
  | .own _ :: _, _, h => by cases h
theorem boolsOf_eq : ∀ {ds : List D} {is : List Bool}, boolsOf ds = some is → ds = is.map D.bl
  | [], is, h => by cases h; rfl
  | .bl i :: r, is, h => by
    unfold boolsOf at h
    cases e : boolsOf r with
    | none => rw [e] at h; cases h
    | some js =>
      rw [e] at h
      cases h
      rw [boolsOf_eq e]; rfl
  | .non :: _, _, h => by cases h
  | .int _ :: _, _, h => by cases h
  | .str _ :: _, _, h => by cases h
  | .tup _ :: _, _, h => by cases h
  | .lst _ :: _, _, h => by cases h
  | .sq _ :: _, _, h => by cases h
  | .dic _ _ :: _, _, h => by cases h
  | .own _ :: _, _, h => by cases h
theorem strsOf_eq : ∀ {ds : List D} {is : List Str}, strsOf ds = some is → ds = is.map D.str
  | [], is, h => by cases h; rfl
  | .str i :: r, is, h => by
    unfold strsOf at h
    cases e : strsOf r with
    | none => rw [e] at h; cases h
    | some js =>
      rw [e] at h
      cases h
      rw [strsOf_eq e]; rfl
  | .non :: _, _, h => by cases h
  | .int _ :: _, _, h => by cases h
  | .bl _ :: _, _, h => by cases h
  | .tup _ :: _, _, h => by cases h
  | .lst _ :: _, _, h => by cases h
  | .sq _ :: _, _, h => by cases h
  | .dic _ _ :: _, _, h => by cases h
  | .own _ :: _, _, h => by cases h
theorem RepL.bools : ∀ {is : List Bool} {vs : List V}, RepL K io H vs (is.map D.bl) → vs = is.map V.bl
  | [], _, h => by cases h; rfl
  | i :: is, _, h => by
    cases h with
    | cons h r =>
      cases h
      rw [RepL.bools r]; rfl
theorem RepL.strs : ∀ {is : List Str} {vs : List V}, RepL K io H vs (is.map D.str) → vs = is.map V.str
  | [], _, h => by cases h; rfl
  | i :: is, _, h => by
    cases h with
    | cons h r =>
      cases h
      rw [RepL.strs r]; rfl
/-- the items of a list or a tuple, in the heap -/
theorem items_at {v : V} {d : D} {xs : List D} (w : Wd K io H S) (r : Rep K io H v d) (h : itemsOf S d = some xs) :
    ∃ a vs, v = .ref a ∧ (SqL K H a vs ∨ SqT K H a vs) ∧ RepL K io H vs xs := by
  cases r with
  | non => cases h
  | bl b => cases h
  | int i => cases h
  | str x => cases h
  | tup hs rs => cases h; exact ⟨_, _, rfl, .inr hs, rs⟩
  | lst hs n rs => cases h; exact ⟨_, _, rfl, .inl (.of hs), rs⟩
  | sq hs =>
    cases h
    refine ⟨_, _, rfl, .inl ?_, RepL.of_ints _⟩
    rcases hs with ⟨o, e⟩ | e
    · exact .inl (.inr ⟨o, e⟩)
    · exact .inr e
  | own e =>
    obtain ⟨ob, e1, q⟩ := w.at e
    simp only [itemsOf, e1] at h
    cases ob with
    | dic _ _ => exact q.elim
    | lst ds =>
      obtain ⟨vs, e2, rs⟩ := q
      cases h
      exact ⟨_, vs, rfl, .inl (.of e2), rs⟩
/-- .. where it is a list -/
theorem look_at {v : V} {d : D} {xs : List D} (w : Wd K io H S) (r : Rep K io H v d) (h : look S d = .lst xs) :
    ∃ a vs, v = .ref a ∧ H a = some (.lst vs) ∧ RepL K io H vs xs := by
  cases r with
  | non => cases h
  | bl b => cases h
  | int i => cases h
  | str x => cases h
  | tup hs rs => cases h
  | lst hs n rs => cases h; exact ⟨_, _, rfl, hs, rs⟩
  | sq hs => cases h
  | own e =>
    obtain ⟨ob, e1, q⟩ := w.at e
    simp only [look, e1] at h
    cases ob with
    | dic _ _ => exact q.elim
    | lst ds =>
      obtain ⟨vs, e2, rs⟩ := q
      cases h
      exact ⟨_, vs, rfl, e2, rs⟩
end

/-! ### == -/
mutual
def D.toPy : D → PyData
  | .non => .none
  | .bl b => .bool b
  | .int i => .int i
  | .str x => .str x
  | .tup a => .tuple (D.toPyL a)
  | .lst a => .list (D.toPyL a)
  | .sq a => .none
  | .dic _ _ => .none
  | .own _ => .none
def D.toPyL : List D → List PyData
  | [] => []
  | x :: xs => D.toPy x :: D.toPyL xs
end
mutual
theorem dp_of {K : PySem.W.Frag} {io : Pl} {H : Hp} : ∀ {d : D} {k : Nat} {v : V}, D.okE k d = true → Rep K io H v d → Dp K H v d.toPy
  | .non, _, _, _, r => by cases r; exact .non
  | .bl b, _, _, _, r => by cases r; exact .bl b
  | .int i, _, _, _, r => by cases r; exact .int i
  | .str x, _, _, _, r => by cases r; exact .str x
  | .tup a, k, _, h, r => by
    cases r with
    | tup hs rs =>
      cases k with
      | zero => cases h
      | succ k => exact .tup hs (dps_of (by simpa [D.okE] using h) rs)
  | .lst a, k, _, h, r => by
    cases r with
    | lst hs n rs =>
      cases k with
      | zero => cases h
      | succ k => exact .lst (.of hs) (dps_of (by simpa [D.okE] using h) rs)
  | .sq a, k, _, h, _ => by cases k <;> cases h
  | .dic a b, k, _, h, _ => by cases k <;> cases h
  | .own n, k, _, h, _ => by cases k <;> cases h
theorem dps_of {K : PySem.W.Frag} {io : Pl} {H : Hp} : ∀ {d : List D} {k : Nat} {v : List V}, D.okEL k d = true → RepL K io H v d → DpAll K H v (D.toPyL d)
  | [], _, _, _, r => by cases r; exact .nil
  | x :: xs, k, _, h, r => by
    cases r with
    | cons h1 h2 =>
      unfold D.okEL at h
      rw [Bool.and_eq_true] at h
      exact .cons (dp_of h.1 h1) (dps_of h.2 h2)
end
mutual
theorem canLay_of : ∀ {d : D} {k : Nat}, D.okE k d = true → d.toPy.canLay0 = true
  | .non, _, _ => rfl
  | .bl b, _, _ => rfl
  | .int i, _, _ => rfl
  | .str x, k, h => by cases k <;> (unfold D.okE at h; exact h)
  | .tup a, k, h => by
    cases k with
    | zero => cases h
    | succ k => unfold D.toPy PyData.canLay0; exact canLays_of (by simpa [D.okE] using h)
  | .lst a, k, h => by
    cases k with
    | zero => cases h
    | succ k => unfold D.toPy PyData.canLay0; exact canLays_of (by simpa [D.okE] using h)
  | .sq a, k, _ => rfl
  | .dic a b, k, _ => rfl
  | .own n, k, _ => rfl
theorem canLays_of : ∀ {d : List D} {k : Nat}, D.okEL k d = true → PyData.canLayAll0 (D.toPyL d) = true
  | [], _, _ => rfl
  | x :: xs, k, h => by
    unfold D.okEL at h
    rw [Bool.and_eq_true] at h
    unfold D.toPyL PyData.canLayAll0
    rw [canLay_of h.1, canLays_of h.2]; rfl
end
mutual
theorem depth_of : ∀ {d : D} {k : Nat}, D.okE k d = true → d.toPy.depth ≤ k
  | .non, _, _ => Nat.zero_le _
  | .bl b, _, _ => Nat.zero_le _
  | .int i, _, _ => Nat.zero_le _
  | .str x, k, h => Nat.zero_le _
  | .tup a, k, h => by
    cases k with
    | zero => cases h
    | succ k => unfold D.toPy PyData.depth; exact Nat.succ_le_succ (depths_of (by simpa [D.okE] using h))
  | .lst a, k, h => by
    cases k with
    | zero => cases h
    | succ k => unfold D.toPy PyData.depth; exact Nat.succ_le_succ (depths_of (by simpa [D.okE] using h))
  | .sq a, k, _ => Nat.zero_le _
  | .dic a b, k, _ => Nat.zero_le _
  | .own n, k, _ => Nat.zero_le _
theorem depths_of : ∀ {d : List D} {k : Nat}, D.okEL k d = true → PyData.depthAll (D.toPyL d) ≤ k
  | [], _, _ => Nat.zero_le _
  | x :: xs, k, h => by
    unfold D.okEL at h
    rw [Bool.and_eq_true] at h
    unfold D.toPyL PyData.depthAll
    exact Nat.max_le.mpr ⟨depth_of h.1, depths_of h.2⟩
end
theorem shaped_of {d : D} (h : D.okE DEEP d = true) : SeqAt.shaped d.toPy = true := by
  unfold SeqAt.shaped
  rw [canLay_of h, Bool.true_and]
  exact decide_eq_true (Nat.le_trans (depth_of h) (by decide))
mutual
theorem eqv_of : ∀ {d e : D} {k j : Nat}, D.okE k d = true → D.okE j e = true → PyData.eqv d.toPy e.toPy = D.peq d e
  | .non, e, _, j, _, h => by cases e <;> first | rfl | (cases j <;> cases h)
  | .bl b, e, _, j, _, h => by cases e <;> first | rfl | (cases j <;> cases h)
  | .int i, e, _, j, _, h => by cases e <;> first | rfl | (cases j <;> cases h)
  | .str x, e, _, j, _, h => by cases e <;> first | rfl | (cases j <;> cases h)
  | .tup a, e, k, j, g, h => by
    cases k with
    | zero => cases g
    | succ k =>
      cases e with
      | tup b =>
        cases j with
        | zero => cases h
        | succ j =>
          unfold D.toPy PyData.eqv D.peq
          exact eqvs_of (by simpa [D.okE] using g) (by simpa [D.okE] using h)
      | sq _ => cases j <;> cases h
      | dic _ _ => cases j <;> cases h
      | own _ => cases j <;> cases h
      | _ => rfl
  | .lst a, e, k, j, g, h => by
    cases k with
    | zero => cases g
    | succ k =>
      cases e with
      | lst b =>
        cases j with
        | zero => cases h
        | succ j =>
          unfold D.toPy PyData.eqv D.peq
          exact eqvs_of (by simpa [D.okE] using g) (by simpa [D.okE] using h)
      | sq _ => cases j <;> cases h
      | dic _ _ => cases j <;> cases h
      | own _ => cases j <;> cases h
      | _ => rfl
  | .sq a, e, k, _, h, _ => by cases k <;> cases h
  | .dic a b, e, k, _, h, _ => by cases k <;> cases h
  | .own n, e, k, _, h, _ => by cases k <;> cases h
theorem eqvs_of : ∀ {d e : List D} {k j : Nat}, D.okEL k d = true → D.okEL j e = true → PyData.eqvAll (D.toPyL d) (D.toPyL e) = D.peqL d e
  | [], [], _, _, _, _ => rfl
  | [], _ :: _, _, _, _, _ => rfl
  | _ :: _, [], _, _, _, _ => rfl
  | x :: xs, y :: ys, k, j, g, h => by
    unfold D.okEL at g h
    rw [Bool.and_eq_true] at g h
    unfold D.toPyL PyData.eqvAll D.peqL
    rw [eqv_of g.1 h.1, eqvs_of g.2 h.2]
end
theorem any_of {x : D} {k : Nat} (hx : D.okE k x = true) : ∀ {ys : List D} {j : Nat}, D.okEL j ys = true → (D.toPyL ys).any (fun z => PyData.eqv z x.toPy) = inAny x ys
  | [], _, _ => rfl
  | y :: ys, j, h => by
    unfold D.okEL at h
    rw [Bool.and_eq_true] at h
    unfold D.toPyL inAny
    rw [List.any_cons, List.any_cons, eqv_of h.1 hx, any_of hx h.2]
    rfl
theorem look_ok {K : PySem.W.Frag} {io : Pl} {H : Hp} {S : Sto} {v : V} {d : D} (w : Wd K io H S) (r : Rep K io H v d) (h : D.okE DEEP (look S d) = true) : Dp K H v (look S d).toPy := by
  cases r with
  | own e =>
    obtain ⟨ob, e1, q⟩ := w.at e
    simp only [look, e1] at h ⊢
    cases ob with
    | dic _ _ => exact q.elim
    | lst ds =>
      obtain ⟨vs, e2, rs⟩ := q
      exact .lst (.of e2) (dps_of (k := 39) (by simpa [D.okE, DEEP] using h) rs)
  | non => exact dp_of (io := io) h .non
  | bl b => exact dp_of (io := io) h (.bl b)
  | int i => exact dp_of (io := io) h (.int i)
  | str x => exact dp_of (io := io) h (.str x)
  | tup hs rs => exact dp_of h (.tup hs rs)
  | lst hs n rs => exact dp_of h (.lst hs n rs)
  | sq hs => cases h

/-! ### comparisons -/
def CO.op : CO → CmpOp
  | .eq => .Eq
  | .ne => .NotEq
  | .lt => .Lt
  | .le => .LtE
  | .gt => .Gt
  | .ge => .GtE
  | .is_ => .Is
  | .isnot => .IsNot
  | .in_ => .In
  | .notin => .NotIn
def cR (K : PySem.W.Frag) (f : Sto → D → D → Option Bool) : R2 := fun x y H Q => ∃ io S d e b, Wd K io H S ∧ Rep K io H x d ∧ Rep K io H y e ∧ f S d e = some b ∧ Q (.bl b) H
section
variable {X : Cx}
theorem op_eqd (hu : X.A.units + 65 < cLine) : OpR X (compareOp .Eq) (cR X.K eqD) := by
  intro pins s σ H x y v u Q I rx ry ⟨io, S, d, e, b, w, rd, re, h, q⟩
  unfold eqD at h
  split at h
  · cases rd
    cases re
    cases h
    exact op_eq pins s σ H _ _ v u Q I rx ry ⟨rfl, by simpa using q⟩
  · split at h
    · rename_i hk
      rw [Bool.and_eq_true] at hk
      cases h
      refine op_eqD (by omega) pins s σ H x y v u Q I rx ry ⟨_, _, look_ok w rd hk.1, look_ok w re hk.2, shaped_of hk.1, shaped_of hk.2, ?_⟩
      rw [eqv_of hk.1 hk.2]
      exact q
    · cases h
theorem op_ned (hu : X.A.units + 65 < cLine) : OpR X (compareOp .NotEq) (cR X.K fun S x y => (eqD S x y).map (!·)) := by
  intro pins s σ H x y v u Q I rx ry ⟨io, S, d, e, b, w, rd, re, h0, q⟩
  obtain ⟨b', h, rfl⟩ := Option.map_eq_some_iff.mp h0
  clear h0
  unfold eqD at h
  split at h
  · cases rd
    cases re
    cases h
    exact op_ne pins s σ H _ _ v u Q I rx ry ⟨rfl, by simpa using q⟩
  · split at h
    · rename_i hk
      rw [Bool.and_eq_true] at hk
      cases h
      refine op_neD (by omega) pins s σ H x y v u Q I rx ry ⟨_, _, look_ok w rd hk.1, look_ok w re hk.2, shaped_of hk.1, shaped_of hk.2, ?_⟩
      rw [eqv_of hk.1 hk.2]
      exact q
    · cases h
theorem in_at {pins : List (Addr × Obj)} {s : Shared} {σ : L2.St} {H : Hp} {x y : V} {v u : Value} {io : Pl} {S : Sto} {d e : D} {ys : List D} (neg : Bool) {Q : VK} (hu : X.A.units + 65 < cLine)
    (I : Inv X pins σ H s) (rx : RelV x v) (ry : RelV y u) (w : Wd X.K io H S) (rd : Rep X.K io H x d) (re : Rep X.K io H y e) (hi : itemsOf S e = some ys) (h1 : D.okE DEEP d = true) (h2 : D.okEL DEEP ys = true)
    (q : Q (.bl (if neg then !inAny d ys else inAny d ys)) H) : wpAny (model X.prog X.w) X.A (compareOp (if neg then .NotIn else .In) v u) (EP X pins σ Q) X.xe s := by
  obtain ⟨a, vs, rfl, hs, rs⟩ := items_at w re hi
  obtain ⟨as, r1⟩ := Dp.reads I _ x v (dp_of h1 rd) rx
  have hroom : X.A.units + 1 + min (PyData.depthAll (D.toPyL ys)) d.toPy.depth < cLine := by
    have := depth_of h1
    have : DEEP = 40 := rfl
    have := Nat.min_le_right (PyData.depthAll (D.toPyL ys)) d.toPy.depth
    omega
  rcases hs with hs | hs
  · obtain ⟨bs, r2⟩ := Dp.reads I (.list (D.toPyL ys)) _ u (.lst hs (dps_of h2 rs)) ry
    cases neg with
    | false => exact SeqAt.in_list_reads r2 r1 (canLays_of h2) (canLay_of h1) hroom ⟨.bl _, H, I, rfl, by rw [any_of h1 h2]; exact q⟩
    | true => exact SeqAt.notIn_list_reads r2 r1 (canLays_of h2) (canLay_of h1) hroom ⟨.bl _, H, I, rfl, by rw [any_of h1 h2]; exact q⟩
  · obtain ⟨bs, r2⟩ := Dp.reads I (.tuple (D.toPyL ys)) _ u (.tup hs (dps_of h2 rs)) ry
    cases neg with
    | false => exact SeqAt.in_tuple_reads r2 r1 (canLays_of h2) (canLay_of h1) hroom ⟨.bl _, H, I, rfl, by rw [any_of h1 h2]; exact q⟩
    | true => exact SeqAt.notIn_tuple_reads r2 r1 (canLays_of h2) (canLay_of h1) hroom ⟨.bl _, H, I, rfl, by rw [any_of h1 h2]; exact q⟩
theorem lex_eq : ∀ a b : List Int, HT.lexLt a b = lexLt a b
  | [], [] => rfl
  | [], _ :: _ => rfl
  | _ :: _, [] => rfl
  | x :: xs, y :: ys => by
    unfold HT.lexLt lexLt
    rw [lex_eq xs ys]
theorem str_one {a : Str} {c : Nat} (h : a.cps.toList = [c]) : a = ⟨#[c]⟩ := by
  obtain ⟨⟨l⟩⟩ := a
  have h' : l = [c] := h
  rw [h']
/-- every comparison -/
theorem op_cmp (o : CO) (hu : X.A.units + 65 < cLine) : OpR X (compareOp o.op) (cR X.K (cmpD o)) := by
  cases o with
  | eq => exact op_eqd hu
  | ne => exact op_ned hu
  | lt =>
    intro pins s σ H x y v u Q I rx ry ⟨io, S, d, e, b, w, rd, re, h, q⟩
    simp only [cmpD] at h
    split at h
    · cases rd; cases re; cases h
      exact op_lt pins s σ H _ _ v u Q I rx ry ⟨_, _, rfl, rfl, q⟩
    · split at h
      · rename_i h1 h2
        cases h
        cases rd with
        | tup hs rs =>
          cases re with
          | tup ht rt =>
            rw [intsOf_eq h1] at rs
            rw [intsOf_eq h2] at rt
            rw [rs.ints] at hs
            rw [rt.ints] at ht
            exact op_ltT (by omega) pins s σ H _ _ v u Q I rx ry ⟨_, _, _, _, rfl, rfl, hs, ht, by rw [lex_eq]; exact q⟩
      · cases h
    · cases h
  | le =>
    intro pins s σ H x y v u Q I rx ry ⟨io, S, d, e, b, w, rd, re, h, q⟩
    simp only [cmpD] at h
    split at h
    · cases rd; cases re; cases h
      exact op_le pins s σ H _ _ v u Q I rx ry ⟨_, _, rfl, rfl, q⟩
    · cases h
  | gt =>
    intro pins s σ H x y v u Q I rx ry ⟨io, S, d, e, b, w, rd, re, h, q⟩
    simp only [cmpD] at h
    split at h
    · cases rd; cases re; cases h
      exact op_gt pins s σ H _ _ v u Q I rx ry ⟨_, _, rfl, rfl, q⟩
    · cases h
  | ge =>
    intro pins s σ H x y v u Q I rx ry ⟨io, S, d, e, b, w, rd, re, h, q⟩
    simp only [cmpD] at h
    split at h
    · cases rd; cases re; cases h
      exact op_ge pins s σ H _ _ v u Q I rx ry ⟨_, _, rfl, rfl, q⟩
    · cases h
  | is_ =>
    intro pins s σ H x y v u Q I rx ry ⟨io, S, d, e, b, w, rd, re, h, q⟩
    simp only [cmpD] at h
    split at h
    · cases h
      cases re
      refine op_isN pins s σ H _ _ v u Q I rx ry ⟨rfl, ?_⟩
      have e : decide (x = V.non) = decide (d = D.non) := by cases rd <;> simp
      rw [e]; exact q
    · split at h
      · cases h
        cases rd
        cases re
        exact op_is_bl pins s σ H _ _ v u Q I rx ry ⟨_, _, rfl, rfl, q⟩
      · cases h
    · cases h
  | isnot =>
    intro pins s σ H x y v u Q I rx ry ⟨io, S, d, e, b, w, rd, re, h, q⟩
    simp only [cmpD] at h
    split at h
    · cases h
      cases re
      refine op_notN pins s σ H _ _ v u Q I rx ry ⟨rfl, ?_⟩
      have e : decide (x = V.non) = decide (d = D.non) := by cases rd <;> simp
      rw [e]; exact q
    · cases h
  | in_ =>
    intro pins s σ H x y v u Q I rx ry ⟨io, S, d, e, b, w, rd, re, h, q⟩
    simp only [cmpD] at h
    split at h
    · split at h
      · rename_i a z c hc
        cases rd; cases re; cases h
        have ea := str_one hc
        subst ea
        exact op_in_sign pins s σ H _ _ v u Q I rx ry ⟨_, _, rfl, rfl, q⟩
      · cases h
    · split at h
      · split at h
        · rename_i hk
          rw [Bool.and_eq_true] at hk
          cases h
          exact in_at false hu I rx ry w rd re (by assumption) hk.1 hk.2 q
        · cases h
      · cases h
  | notin =>
    intro pins s σ H x y v u Q I rx ry ⟨io, S, d, e, b, w, rd, re, h, q⟩
    simp only [cmpD] at h
    split at h
    · split at h
      · rename_i a z c hc
        cases rd; cases re; cases h
        have ea := str_one hc
        subst ea
        exact op_notIn_sign pins s σ H _ _ v u Q I rx ry ⟨_, _, rfl, rfl, q⟩
      · cases h
    · split at h
      · split at h
        · rename_i hk
          rw [Bool.and_eq_true] at hk
          cases h
          exact in_at true hu I rx ry w rd re (by assumption) hk.1 hk.2 q
        · cases h
      · cases h
end
end Ev

/-! EvOps2: arithmetic, subscripts, built-in functions, methods, stores -/
namespace Ev
open PySem PySem.Spec PyProof.Rows L2

theorem tuple_mulSame (l : Addr) (items : Array Value) (n : Nat) (dd : Option Addr) (sl : Array (Option Value)) (x : Int) (u : Tok) (c0 : (decide (x < -(2 ^ 63)) || decide (x ≥ 2 ^ 63)) = false) (c1 : (items.isEmpty || x == 1) = true) :
    Meets (Builtin.«tuple.__mul__» ⟨[.ref l, .int x u], []⟩) (fun _ R s => s.heap.get? l = some { cls := .type "tuple", dict := dd, data := .seq items n, slots := sl } ∧ R (.ok (.ret (Value.ref l))) s) :=
  .of_wp fun prog w A R s h => by
    obtain ⟨hp, g, d, tk, os⟩ := s
    obtain ⟨hl, h⟩ := h
    have f1 := AutoSeq1.idx_int
    wp_walk using wpAny_loadPart' hl
    repeat (first
      | (refine wpAny_ite_false (decide_eq_false (by rw [c0]; exact Bool.false_ne_true)) ?_; wp_walk using wpAny_loadPart' hl)
      | (refine wpAny_ite_true (decide_eq_true (by rw [c1])) ?_; wp_walk using wpAny_loadPart' hl))
    exact ⟨_, rfl, h⟩
theorem tuple_mulNone (l : Addr) (items : Array Value) (n : Nat) (dd : Option Addr) (sl : Array (Option Value)) (x : Int) (u : Tok) (c0 : (decide (x < -(2 ^ 63)) || decide (x ≥ 2 ^ 63)) = false) (c1 : (items.isEmpty || x == 1) = false) (c2 : (decide (x ≤ 0) || items.isEmpty) = true) :
    Meets (Builtin.«tuple.__mul__» ⟨[.ref l, .int x u], []⟩) (fun _ R s => s.heap.get? l = some { cls := .type "tuple", dict := dd, data := .seq items n, slots := sl } ∧
      R (.ok (.ret (Value.ref s.heap.objs.size))) { s with heap := s.heap.push { cls := Value.type "tuple", data := Data.seq #[] }, toks := s.toks }) :=
  .of_wp fun prog w A R s h => by
    obtain ⟨hp, g, d, tk, os⟩ := s
    obtain ⟨hl, h⟩ := h
    have f1 := AutoSeq1.idx_int
    wp_walk using wpAny_loadPart' hl
    repeat (first
      | (refine wpAny_ite_false (decide_eq_false (by rw [c0]; exact Bool.false_ne_true)) ?_; wp_walk using wpAny_loadPart' hl)
      | (refine wpAny_ite_false (decide_eq_false (by rw [c1]; exact Bool.false_ne_true)) ?_; wp_walk using wpAny_loadPart' hl)
      | (refine wpAny_ite_true (decide_eq_true (by rw [c2])) ?_; wp_walk using wpAny_loadPart' hl))
    exact ⟨_, rfl, h⟩
/-- tuple * n, n at most 1000 -/
def rRepT2 (K : PySem.W.Frag) : R2 := fun x y H Q => ∃ l k xs, x = .ref l ∧ y = .int k ∧ SqT K H l xs ∧ k.natAbs ≤ 1000 ∧ xs.length ≤ 1000 ∧ ((xs = [] ∨ k = 1) → Q (.ref l) H) ∧ (xs ≠ [] → k ≠ 1 → ∀ p, H p = none → Q (.ref p) (upd H p (.tup (List.replicate k.toNat xs).flatten)))
section
variable {X : Cx}
theorem op_repT2 : OpR X (binaryOp .Mult) (rRepT2 X.K) := by
  intro pins s σ H x y v u Q I rx ry h
  obtain ⟨l, k, xs, rfl, rfl, hT, h1, hz, q1, q2⟩ := h
  by_cases big : xs ≠ [] ∧ 2 ≤ k
  · exact op_repT pins s σ H _ _ v u Q I rx ry ⟨l, k, xs, rfl, rfl, hT, big.1, big.2, by omega, hz, q2 big.1 (by omega)⟩
  cases rx
  obtain ⟨t, rfl⟩ := ry
  obtain ⟨its, r, ⟨⟨cls, dd, data, sl⟩, ho, hc, n, hd⟩, hs⟩ := I.tuple hT
  simp only at hc hd
  subst hc hd
  have hle : its.length = xs.length := r.length.symm
  have c0 : (decide (k < -(2 ^ 63)) || decide (k ≥ 2 ^ 63)) = false := by
    rw [decide_eq_false (by omega), decide_eq_false (by omega)] <;> rfl
  by_cases same : xs = [] ∨ k = 1
  · have c1 : (its.toArray.isEmpty || k == 1) = true := by
      rcases same with e | e
      · rw [e] at hle
        have : its = [] := List.eq_nil_of_length_eq_zero hle
        rw [this]; rfl
      · rw [e]; simp
    refine wpAny_binaryOp_repeat_ref (T := "tuple") (U := "int") (by decide) ⟨_, ho, rfl⟩ (fun s' => typeIs_int s' k t) noFill_tuple_mul F.fills_int_mul F.slot_int_rmul repeat_tuple F.slot_int_index.lookup
      (call_meets F.slot_int_rmul (typeIs_int s k t) F.entry_int_rmul (F.args_int_rmul_2 _ _) (int_rmul_tuple k t l its.toArray n dd sl)
        ⟨ho, rfl, ⟨_, ho, rfl⟩, call_meets F.slot_tuple_mul ⟨_, ho, rfl⟩ F.entry_tuple_mul (F.args_tuple_mul_2 _ _) (tuple_mulSame l its.toArray n dd sl k t c0 c1) ⟨ho, ?_⟩⟩)
    exact ⟨.ref l, H, I, rfl, q1 same⟩
  · have hne : xs ≠ [] := fun e => same (.inl e)
    have hk1 : k ≠ 1 := fun e => same (.inr e)
    have hk : k ≤ 0 := by
      have : ¬ (2 ≤ k) := fun z => big ⟨hne, z⟩
      omega
    have hn : its ≠ [] := fun e => hne (by
      rw [e] at hle
      exact List.eq_nil_of_length_eq_zero hle.symm)
    have hi : its.toArray.isEmpty = false := by
      cases its with
      | nil => exact absurd rfl hn
      | cons a b => rfl
    have c1 : (its.toArray.isEmpty || k == 1) = false := by
      rw [hi, Bool.false_or]
      exact beq_eq_false_iff_ne.mpr (by omega)
    have c2 : (decide (k ≤ 0) || its.toArray.isEmpty) = true := by
      rw [decide_eq_true hk]; rfl
    refine wpAny_binaryOp_repeat_ref (T := "tuple") (U := "int") (by decide) ⟨_, ho, rfl⟩ (fun s' => typeIs_int s' k t) noFill_tuple_mul F.fills_int_mul F.slot_int_rmul repeat_tuple F.slot_int_index.lookup
      (call_meets F.slot_int_rmul (typeIs_int s k t) F.entry_int_rmul (F.args_int_rmul_2 _ _) (int_rmul_tuple k t l its.toArray n dd sl)
        ⟨ho, rfl, ⟨_, ho, rfl⟩, call_meets F.slot_tuple_mul ⟨_, ho, rfl⟩ F.entry_tuple_mul (F.args_tuple_mul_2 _ _) (tuple_mulNone l its.toArray n dd sl k t c0 c1 c2) ⟨ho, ?_⟩⟩)
    have e0 : (List.replicate k.toNat xs).flatten = [] := by
      have : k.toNat = 0 := by omega
      rw [this]; rfl
    have q3 := q2 hne hk1 s.heap.objs.size (I.hok.fresh (Nat.le_refl _))
    rw [e0] at q3
    refine ⟨.ref s.heap.objs.size, _, I.laid (t' := s.toks) (o := .tup []) (fun b ob q => Heap.get?_push_of_some _ q) (Nat.le_refl _) ?_, rfl, q3⟩
    exact ⟨Nat.zero_le _, [], .nil, IsTup.new _ _⟩
end
end Ev

/-! EvOps3: arithmetic, subscripts, built-in functions, methods, stores, by data -/
namespace Ev
open PySem PySem.Spec PyProof.Rows L2

def BO.op : BO → Operator
  | .add => .Add
  | .sub => .Sub
  | .mul => .Mult
  | .fdiv => .FloorDiv
  | .mod => .Mod
  | .pow => .Pow
/-- what is wanted behind an operation: the store may be another one -/
def Aft (K : PySem.W.Frag) (io : Pl) (H : Hp) (S' : Sto) (r : D) (Q : VK) : Prop := ∀ io' H' v, Tr io H io' H' → Wd K io' H' S' → Rep K io' H' v r → Q v H'
theorem Aft.here {K : PySem.W.Frag} {io : Pl} {H : Hp} {S : Sto} {r : D} {Q : VK} (a : Aft K io H S r Q) (w : Wd K io H S) {v : V} (h : Rep K io H v r) : Q v H := a io H v Tr.refl w h
theorem Aft.new {K : PySem.W.Frag} {io : Pl} {H : Hp} {S : Sto} {ds : List D} {Q : VK} (a : Aft K io H S (.tup ds) Q) (w : Wd K io H S) {vs : List V} (h : RepL K io H vs ds) (p : Addr) (hp : H p = none) : Q (.ref p) (upd H p (.tup vs)) :=
  a io _ _ (Tr.upd hp) (w.upd hp) (rep_tup w hp h)
def bR (K : PySem.W.Frag) (f : D → D → Option D) : R2 := fun x y H Q => ∃ io S d e r, Wd K io H S ∧ Rep K io H x d ∧ Rep K io H y e ∧ f d e = some r ∧ Aft K io H S r Q
theorem RepL.rep {K : PySem.W.Frag} {io : Pl} {H : Hp} {vs : List V} {ds : List D} (h : RepL K io H vs ds) : ∀ n, RepL K io H (List.replicate n vs).flatten (List.replicate n ds).flatten
  | 0 => .nil
  | n + 1 => by
    rw [List.replicate_succ, List.replicate_succ, List.flatten_cons, List.flatten_cons]
    exact h.append (h.rep n)
theorem bits_ok {i : Int} {n : Nat} (h : bits i < n) : Builtin.Int.intBits i ≤ n := by
  unfold Builtin.Int.intBits
  unfold bits at h
  split <;> omega
section
variable {X : Cx}
theorem op_bin (o : BO) : OpR X (binaryOp o.op) (bR X.K (binD o)) := by
  intro pins s σ H x y v u Q I rx ry ⟨io, S, d, e, r, w, rd, re, h, a⟩
  cases o with
  | add =>
    cases rd with
    | int i =>
      cases re with
      | int j =>
        cases h
        exact op_add pins s σ H _ _ v u Q I rx ry ⟨i, j, rfl, rfl, a.here w (.int _)⟩
      | _ => cases h
    | str i =>
      cases re with
      | str j =>
        simp only [binD] at h
        split at h
        · cases h
          exact op_add_str pins s σ H _ _ v u Q I rx ry ⟨i, j, rfl, rfl, by rw [← lim]; assumption, a.here w (.str _)⟩
        · cases h
      | _ => cases h
    | tup hs rs =>
      cases re with
      | tup ht rt =>
        simp only [binD] at h
        split at h
        · cases h
          rename_i vs ds _ ws es hz
          have l1 := rs.length
          have l2 := rt.length
          refine op_catA pins s σ H _ _ v u Q I rx ry ⟨_, _, _, _, rfl, rfl, hs, ht, ?_, fun z => ?_, fun _ z => ?_, fun _ _ p hp => ?_⟩
          · rw [← lim]; omega
          · subst z
            cases rs
            exact a.here w (.tup ht rt)
          · subst z
            cases rt
            rw [List.append_nil] at a
            exact a.here w (.tup hs rs)
          · exact a.new w (rs.append rt) p hp
        · cases h
      | _ => cases h
    | _ => cases h
  | sub =>
    cases rd with
    | int i =>
      cases re with
      | int j =>
        cases h
        exact op_sub pins s σ H _ _ v u Q I rx ry ⟨i, j, rfl, rfl, a.here w (.int _)⟩
      | _ => cases h
    | _ => cases h
  | mul =>
    cases rd with
    | int i =>
      cases re with
      | int j =>
        simp only [binD] at h
        split at h
        · rename_i hk
          cases h
          unfold mulOk at hk
          rw [Bool.and_eq_true, decide_eq_true_eq, decide_eq_true_eq] at hk
          have b1 := bits_ok hk.1
          have b2 := bits_ok hk.2
          exact op_mulX pins s σ H _ _ v u Q I rx ry ⟨i, j, rfl, rfl, by unfold CMulX; have : BIG = 50000000 := rfl; omega, a.here w (.int _)⟩
        · cases h
      | _ => cases h
    | tup hs rs =>
      cases re with
      | int n =>
        simp only [binD] at h
        split at h
        · rename_i hk
          cases h
          have l1 := rs.length
          refine op_repT2 pins s σ H _ _ v u Q I rx ry ⟨_, n, _, rfl, rfl, hs, hk.2, by omega, fun z => ?_, fun z z1 p hp => ?_⟩
          · rcases z with z | z
            · subst z
              cases rs
              have e : repL ([] : List D) n.toNat = [] := by
                unfold repL
                induction n.toNat with
                | zero => rfl
                | succ m ih => rw [List.replicate_succ, List.flatten_cons, ih]; rfl
              rw [e] at a
              exact a.here w (.tup hs .nil)
            · subst z
              have e : ∀ l : List D, repL l (1 : Int).toNat = l := fun l => by simp [repL]
              rw [e] at a
              exact a.here w (.tup hs rs)
          · exact a.new w (rs.rep n.toNat) p hp
        · cases h
      | _ => cases h
    | _ => cases h
  | fdiv =>
    cases rd with
    | int i =>
      cases re with
      | int j =>
        simp only [binD] at h
        split at h
        · rename_i hk
          cases h
          unfold divOk at hk
          rw [Bool.and_eq_true, decide_eq_true_eq, decide_eq_true_eq] at hk
          have op : OpR X (binaryOp .FloorDiv) (rI (fun _ j => j ≠ 0 ∧ j.natAbs.log2 < 9000) fun i j => .int (i.fdiv j)) := opI fun i j _ _ _ _ _ hc q => floordiv_int hc.1 q (.inl (PyProof.noPylong_of_log2 hc.2))
          exact op pins s σ H _ _ v u Q I rx ry ⟨i, j, rfl, rfl, hk, a.here w (.int _)⟩
        · cases h
      | _ => cases h
    | _ => cases h
  | mod =>
    cases rd with
    | int i =>
      cases re with
      | int j =>
        simp only [binD] at h
        split at h
        · rename_i hk
          cases h
          exact op_modN pins s σ H _ _ v u Q I rx ry ⟨i, j, rfl, rfl, of_decide_eq_true hk, a.here w (.int _)⟩
        · cases h
      | _ => cases h
    | _ => cases h
  | pow =>
    cases rd with
    | int i =>
      cases re with
      | int j =>
        simp only [binD] at h
        split at h
        · rename_i hk
          cases h
          unfold powOk at hk
          rw [Bool.and_eq_true, Bool.and_eq_true, decide_eq_true_eq, decide_eq_true_eq, decide_eq_true_eq] at hk
          have b1 := bits_ok hk.2
          have op : OpR X (binaryOp .Pow) (rI (fun i j => 0 ≤ j ∧ (Builtin.Int.intBits i : Int) * j ≤ 2 ^ 27) fun i j => .int (i ^ j.toNat)) := opI fun i j _ _ _ _ _ hc q => pow_int hc.1 hc.2 q
          refine op pins s σ H _ _ v u Q I rx ry ⟨i, j, rfl, rfl, ⟨hk.1.1, ?_⟩, a.here w (.int _)⟩
          have b2 : (Builtin.Int.intBits i : Int) * j ≤ 100000 * j := Int.mul_le_mul_of_nonneg_right (by omega) hk.1.1
          have := hk.1.2
          omega
        · cases h
      | _ => cases h
    | _ => cases h

/-! ### subscripts -/
theorem at_of {K : PySem.W.Frag} {io : Pl} {H : Hp} {vs : List V} {ds : List D} {k : Int} {p : Nat} {r : D} (rs : RepL K io H vs ds) (h1 : place ds.length k = some p) (h2 : ds[p]? = some r) : ∃ z, atI vs k = some z ∧ Rep K io H z r := by
  obtain ⟨z, e, rz⟩ := rs.get h2
  refine ⟨z, ?_, rz⟩
  unfold atI
  rw [rs.length, show ixN ds.length k = some p from h1]
  exact e
def sR (K : PySem.W.Frag) : R2 := fun x y H Q => ∃ io S d e r, Wd K io H S ∧ Rep K io H x d ∧ Rep K io H y e ∧ subD S d e = some r ∧ Aft K io H S r Q
theorem ix_sub : IxR X (sR X.K) := by
  intro value slice pins s σ H x y v u Q I rx ry ⟨io, S, d, e, r, w, rd, re, h, a⟩ hs
  cases re with
  | int k =>
    simp only [subD] at h
    split at h
    · cases rd
      split at h
      · split at h
        · split at h
          · rename_i x _ p hp _ c hc hz
            cases h
            refine ix_str value slice pins s σ H _ _ v u Q I rx ry ⟨x, k, c, rfl, rfl, by rw [← lim]; exact hz, ?_, a.here w (.str _)⟩ hs
            unfold atI
            rw [show ixN x.cps.toList.length k = some p from by rw [Array.length_toList]; exact hp]
            exact hc
          · cases h
        · cases h
      · cases h
    · split at h
      · rename_i xs hi
        split at h
        · rename_i p hp
          obtain ⟨b, vs, rfl, hq, rs⟩ := items_at w rd hi
          obtain ⟨z, hz, rz⟩ := at_of rs hp h
          rcases hq with hq | hq
          · exact ix_list value slice pins s σ H _ _ v u Q I rx ry ⟨b, vs, k, z, rfl, rfl, hq, hz, a.here w rz⟩ hs
          · exact ix_tup value slice pins s σ H _ _ v u Q I rx ry ⟨b, vs, k, z, rfl, rfl, hq, hz, a.here w rz⟩ hs
        · cases h
      · cases h
  | _ => cases h
def lR (K : PySem.W.Frag) : V → Option Int → Option Int → Hp → VK → Prop := fun x lo hi H Q => ∃ io S d r, Wd K io H S ∧ Rep K io H x d ∧ slcD d lo hi = some r ∧ Aft K io H S r Q
theorem RepL.cut {K : PySem.W.Frag} {io : Pl} {H : Hp} {vs : List V} {ds : List D} (rs : RepL K io H vs ds) (lo hi : Option Int) : RepL K io H (cutV vs lo hi) (cutL ds lo hi) := by
  unfold cutV cutL
  rw [rs.length]
  exact (rs.drop _).take _
theorem sl_slc : SlR X (lR X.K) := by
  intro pins s σ H x v vl vu lo hi sl Q I rx hs pl pu ⟨io, S, d, r, w, rd, h, a⟩
  cases rd with
  | str z =>
    simp only [slcD] at h
    split at h
    · cases h
      refine sl_str pins s σ H _ v vl vu lo hi sl Q I rx hs pl pu ⟨z, rfl, by rw [← lim]; assumption, ?_⟩
      have e : cutS z lo hi = ⟨(cutL z.cps.toList lo hi).toArray⟩ := by
        unfold cutS cutL
        rw [Array.length_toList]
        rfl
      rw [e]
      exact a.here w (.str _)
    · cases h
  | tup ht rt =>
    cases h
    refine sl_tupA pins s σ H _ v vl vu lo hi sl Q I rx hs pl pu ⟨_, _, rfl, ht, fun z => ?_, fun _ p hp => ?_⟩
    · refine a.here w (.tup ht ?_)
      have e := rt.cut lo hi
      unfold cutV at e
      rw [z.1, z.2, List.drop_zero, Nat.sub_zero, List.take_length] at e
      exact e
    · exact a.new w (rt.cut lo hi) p hp
  | _ => cases h

/-! ### built-in functions -/
def fR (K : PySem.W.Frag) (k : BF) : List V → Hp → VK → Prop := fun vs H Q => ∃ io S ds r, Wd K io H S ∧ RepL K io H vs ds ∧ biD k S ds = some r ∧ Aft K io H S r Q
def BF.val : BF → Value
  | .len => .builtin "len"
  | .abs => .builtin "abs"
  | .max2 => .builtin "max"
  | .min2 => .builtin "min"
  | .int1 => .type "int"
  | .str1 => .type "str"
  | .tuple1 => .type "tuple"
  | .sum1 => .builtin "sum"
  | .all1 => .builtin "all"
  | .any1 => .builtin "any"
  | .max1 => .builtin "max"
  | .min1 => .builtin "min"
  | .gcd => .builtin "math.gcd"
theorem len_at {K : PySem.W.Frag} {io : Pl} {H : Hp} {S : Sto} {v : V} {d : D} {n : Nat} (w : Wd K io H S) (r : Rep K io H v d) (h : lenD S d = some n) : LenV K v H n := by
  cases r with
  | str x =>
    simp only [lenD] at h
    split at h
    · cases h
      exact ⟨by rw [← lim]; assumption, rfl⟩
    · cases h
  | tup ht rt =>
    cases h
    exact .inr ⟨_, ht, rt.length.symm⟩
  | lst ht n rt =>
    cases h
    exact .inl ⟨_, .of ht, rt.length.symm⟩
  | sq ht =>
    cases h
    rename_i is
    refine .inl ⟨is.map V.int, ?_, by rw [List.length_map, List.length_map]⟩
    rcases ht with ⟨o, e⟩ | e
    · exact .inl (.inr ⟨o, e⟩)
    · exact .inr e
  | own e =>
    obtain ⟨ob, e1, q⟩ := w.at e
    simp only [lenD, e1] at h
    cases ob with
    | dic _ _ => exact q.elim
    | lst ds =>
      obtain ⟨vs, e2, rs⟩ := q
      cases h
      exact .inl ⟨_, .of e2, rs.length.symm⟩
  | _ => cases h
theorem list_at {K : PySem.W.Frag} {io : Pl} {H : Hp} {S : Sto} {v : V} {d : D} {xs : List D} (w : Wd K io H S) (r : Rep K io H v d) (h : listOf S d = some xs) : ∃ a vs, v = .ref a ∧ SqL K H a vs ∧ RepL K io H vs xs := by
  cases r with
  | tup _ _ => cases h
  | non => cases h
  | bl b => cases h
  | int i => cases h
  | str x => cases h
  | lst hs n rs => cases h; exact ⟨_, _, rfl, .of hs, rs⟩
  | sq hs =>
    cases h
    refine ⟨_, _, rfl, ?_, RepL.of_ints _⟩
    rcases hs with ⟨o, e⟩ | e
    · exact .inl (.inr ⟨o, e⟩)
    · exact .inr e
  | own e =>
    obtain ⟨ob, e1, q⟩ := w.at e
    simp only [listOf, itemsOf, e1] at h
    cases ob with
    | dic _ _ => exact q.elim
    | lst ds =>
      obtain ⟨vs, e2, rs⟩ := q
      cases h
      exact ⟨_, vs, rfl, .of e2, rs⟩
theorem maxL_mem : ∀ (r : List Int) (m : Int), (maxL m r = m ∨ maxL m r ∈ r) ∧ m ≤ maxL m r ∧ ∀ y ∈ r, y ≤ maxL m r
  | [], m => ⟨.inl rfl, Int.le_refl _, fun y h => by cases h⟩
  | x :: r, m => by
    unfold maxL
    obtain ⟨h1, h2, h3⟩ := maxL_mem r (if x > m then x else m)
    refine ⟨?_, ?_, fun y hy => ?_⟩
    · rcases h1 with h1 | h1
      · split at h1
        · right; rw [if_pos (by assumption), h1]; exact List.mem_cons_self
        · left; rw [if_neg (by assumption), h1]
      · exact .inr (List.mem_cons_of_mem _ h1)
    · split at h2 <;> (split <;> omega)
    · rcases List.mem_cons.mp hy with rfl | hy
      · split at h2 <;> (split <;> omega)
      · exact h3 y hy
theorem minL_mem : ∀ (r : List Int) (m : Int), (minL m r = m ∨ minL m r ∈ r) ∧ minL m r ≤ m ∧ ∀ y ∈ r, minL m r ≤ y
  | [], m => ⟨.inl rfl, Int.le_refl _, fun y h => by cases h⟩
  | x :: r, m => by
    unfold minL
    obtain ⟨h1, h2, h3⟩ := minL_mem r (if x < m then x else m)
    refine ⟨?_, ?_, fun y hy => ?_⟩
    · rcases h1 with h1 | h1
      · split at h1
        · right; rw [if_pos (by assumption), h1]; exact List.mem_cons_self
        · left; rw [if_neg (by assumption), h1]
      · exact .inr (List.mem_cons_of_mem _ h1)
    · split at h2 <;> (split <;> omega)
    · rcases List.mem_cons.mp hy with rfl | hy
      · split at h2 <;> (split <;> omega)
      · exact h3 y hy
theorem max_uniq {i : Int} {r : List Int} {m : Int} (h1 : m ∈ i :: r) (h2 : ∀ y, y ∈ i :: r → y ≤ m) : m = maxL i r := by
  obtain ⟨g1, g2, g3⟩ := maxL_mem r i
  have a : m ≤ maxL i r := by
    rcases List.mem_cons.mp h1 with rfl | h
    · exact g2
    · exact g3 m h
  have b : maxL i r ≤ m := by
    rcases g1 with g | g
    · rw [g]; exact h2 i List.mem_cons_self
    · exact h2 _ (List.mem_cons_of_mem _ g)
  omega
theorem min_uniq {i : Int} {r : List Int} {m : Int} (h1 : m ∈ i :: r) (h2 : ∀ y, y ∈ i :: r → m ≤ y) : m = minL i r := by
  obtain ⟨g1, g2, g3⟩ := minL_mem r i
  have a : minL i r ≤ m := by
    rcases List.mem_cons.mp h1 with rfl | h
    · exact g2
    · exact g3 m h
  have b : m ≤ minL i r := by
    rcases g1 with g | g
    · rw [g]; exact h2 i List.mem_cons_self
    · exact h2 _ (List.mem_cons_of_mem _ g)
  omega

/-- one argument -/
theorem one_arg {K : PySem.W.Frag} {io : Pl} {H : Hp} {vs : List V} {d : D} (h : RepL K io H vs [d]) : ∃ v, vs = [v] ∧ Rep K io H v d := by
  cases h with
  | cons h r => cases r; exact ⟨_, rfl, h⟩
theorem two_args {K : PySem.W.Frag} {io : Pl} {H : Hp} {vs : List V} {d e : D} (h : RepL K io H vs [d, e]) : ∃ v u, vs = [v, u] ∧ Rep K io H v d ∧ Rep K io H u e := by
  cases h with
  | cons h r =>
    cases r with
    | cons h' r => cases r; exact ⟨_, _, rfl, h, h'⟩
theorem one_eq {α : Type} {ds : List D} {f : D → Option α} {r : α} (h : one ds f = some r) : ∃ x, ds = [x] ∧ f x = some r := by
  rcases ds with _ | ⟨x, _ | ⟨y, t⟩⟩
  · cases h
  · exact ⟨x, rfl, h⟩
  · cases h
theorem two_eq {α : Type} {ds : List D} {f : D → D → Option α} {r : α} (h : two ds f = some r) : ∃ x y, ds = [x, y] ∧ f x y = some r := by
  rcases ds with _ | ⟨x, _ | ⟨y, _ | ⟨z, t⟩⟩⟩
  · cases h
  · cases h
  · exact ⟨x, y, rfl, h⟩
  · cases h
theorem int2_eq {x y r : D} {f : Int → Int → D} (h : int2 x y f = some r) : ∃ i j, x = .int i ∧ y = .int j ∧ r = f i j := by
  cases x <;> first | cases h | skip
  cases y <;> first | cases h | skip
  exact ⟨_, _, rfl, rfl, rfl⟩
theorem ints_at {K : PySem.W.Frag} {io : Pl} {H : Hp} {S : Sto} {v : V} {d : D} {is : List Int} (w : Wd K io H S) (r : Rep K io H v d) (h : ((listOf S d).bind intsOf) = some is) : ∃ a, v = .ref a ∧ SqL K H a (is.map V.int) := by
  obtain ⟨xs, h1, h2⟩ := Option.bind_eq_some_iff.mp h
  obtain ⟨a, vs, rfl, hs, rs⟩ := list_at w r h1
  rw [intsOf_eq h2] at rs
  rw [rs.ints] at hs
  exact ⟨a, rfl, hs⟩
theorem bools_at {K : PySem.W.Frag} {io : Pl} {H : Hp} {S : Sto} {v : V} {d : D} {is : List Bool} (w : Wd K io H S) (r : Rep K io H v d) (h : ((listOf S d).bind boolsOf) = some is) : ∃ a, v = .ref a ∧ SqL K H a (is.map V.bl) := by
  obtain ⟨xs, h1, h2⟩ := Option.bind_eq_some_iff.mp h
  obtain ⟨a, vs, rfl, hs, rs⟩ := list_at w r h1
  rw [boolsOf_eq h2] at rs
  rw [rs.bools] at hs
  exact ⟨a, rfl, hs⟩
theorem cr_bi (hc : X.calm = true) (k : BF) : CallR X k.val (fR X.K k) := by
  intro pins s σ H xs us Q I r ⟨io, S, ds, rr, w, rs, h, a⟩
  cases k with
  | len =>
    obtain ⟨x, rfl, h⟩ := one_eq h
    obtain ⟨v, rfl, rv⟩ := one_arg rs
    obtain ⟨n, hn, rfl⟩ := Option.map_eq_some_iff.mp h
    exact call_len pins s σ H _ us Q I r ⟨v, n, rfl, len_at w rv hn, a.here w (.int _)⟩
  | abs =>
    obtain ⟨x, rfl, h⟩ := one_eq h
    obtain ⟨v, rfl, rv⟩ := one_arg rs
    cases rv with
    | int i =>
      cases h
      exact call_abs pins s σ H _ us Q I r ⟨i, rfl, a.here w (.int _)⟩
    | _ => cases h
  | max2 =>
    obtain ⟨x, y, rfl, h⟩ := two_eq h
    obtain ⟨i, j, rfl, rfl, rfl⟩ := int2_eq h
    obtain ⟨v, u, rfl, rv, ru⟩ := two_args rs
    cases rv; cases ru
    exact call_max2 hc pins s σ H _ us Q I r ⟨i, j, rfl, a.here w (.int _)⟩
  | min2 =>
    obtain ⟨x, y, rfl, h⟩ := two_eq h
    obtain ⟨i, j, rfl, rfl, rfl⟩ := int2_eq h
    obtain ⟨v, u, rfl, rv, ru⟩ := two_args rs
    cases rv; cases ru
    exact call_min2 hc pins s σ H _ us Q I r ⟨i, j, rfl, a.here w (.int _)⟩
  | int1 =>
    obtain ⟨x, rfl, h⟩ := one_eq h
    obtain ⟨v, rfl, rv⟩ := one_arg rs
    cases rv with
    | int i =>
      cases h
      exact call_int1 pins s σ H _ us Q I r (.inl ⟨i, rfl, a.here w (.int _)⟩)
    | bl b =>
      cases h
      exact call_int1 pins s σ H _ us Q I r (.inr ⟨b, rfl, a.here w (.int _)⟩)
    | _ => cases h
  | str1 =>
    obtain ⟨x, rfl, h⟩ := one_eq h
    obtain ⟨v, rfl, rv⟩ := one_arg rs
    cases rv with
    | int i =>
      change (if bits i < 1920 then some (D.str (strOfInt i)) else none) = some rr at h
      split at h
      · cases h
        exact call_str_int pins s σ H _ us Q I r ⟨i, rfl, by assumption, a.here w (.str _)⟩
      · cases h
    | str x =>
      cases h
      exact SkE.call_str_str pins s σ H _ us Q I r ⟨x, rfl, a.here w (.str _)⟩
    | _ => cases h
  | tuple1 =>
    obtain ⟨x, rfl, h⟩ := one_eq h
    obtain ⟨v, rfl, rv⟩ := one_arg rs
    obtain ⟨ys, hy, rfl⟩ := Option.map_eq_some_iff.mp h
    obtain ⟨b, vs, rfl, hq, rt⟩ := items_at w rv hy
    refine call_tuple_of pins s σ H _ us Q I r ⟨b, vs, rfl, ?_⟩
    rcases hq with hq | hq
    · exact .inl ⟨hq, fun p hp => a.new w rt p hp⟩
    · exact .inr ⟨hq, a.here w (.tup hq rt)⟩
  | sum1 =>
    obtain ⟨x, rfl, h⟩ := one_eq h
    obtain ⟨v, rfl, rv⟩ := one_arg rs
    obtain ⟨ys, hy, h2⟩ := Option.bind_eq_some_iff.mp h
    obtain ⟨is, h3, rfl⟩ := Option.map_eq_some_iff.mp h2
    obtain ⟨b, rfl, hq⟩ := ints_at w rv (Option.bind_eq_some_iff.mpr ⟨ys, hy, h3⟩)
    exact cr_sum hc pins s σ H _ us Q I r ⟨b, is, rfl, hq, a.here w (.int _)⟩
  | all1 =>
    obtain ⟨x, rfl, h⟩ := one_eq h
    obtain ⟨v, rfl, rv⟩ := one_arg rs
    obtain ⟨ys, hy, h2⟩ := Option.bind_eq_some_iff.mp h
    obtain ⟨is, h3, rfl⟩ := Option.map_eq_some_iff.mp h2
    obtain ⟨b, rfl, hq⟩ := bools_at w rv (Option.bind_eq_some_iff.mpr ⟨ys, hy, h3⟩)
    exact cr_all hc pins s σ H _ us Q I r ⟨b, is, rfl, hq, a.here w (.bl _)⟩
  | any1 =>
    obtain ⟨x, rfl, h⟩ := one_eq h
    obtain ⟨v, rfl, rv⟩ := one_arg rs
    obtain ⟨ys, hy, h2⟩ := Option.bind_eq_some_iff.mp h
    obtain ⟨is, h3, rfl⟩ := Option.map_eq_some_iff.mp h2
    obtain ⟨b, rfl, hq⟩ := bools_at w rv (Option.bind_eq_some_iff.mpr ⟨ys, hy, h3⟩)
    exact cr_any hc pins s σ H _ us Q I r ⟨b, is, rfl, hq, a.here w (.bl _)⟩
  | max1 =>
    obtain ⟨x, rfl, h⟩ := one_eq h
    obtain ⟨v, rfl, rv⟩ := one_arg rs
    obtain ⟨ys, hy, h2⟩ := Option.bind_eq_some_iff.mp h
    obtain ⟨is, h3, h4⟩ := Option.bind_eq_some_iff.mp h2
    obtain ⟨b, rfl, hq⟩ := ints_at w rv (Option.bind_eq_some_iff.mpr ⟨ys, hy, h3⟩)
    cases is with
    | nil => cases h4
    | cons i is =>
      cases h4
      exact cr_max hc pins s σ H _ us Q I r ⟨b, _, rfl, hq, Nat.succ_pos _, fun m h1 h2 => by rw [max_uniq h1 h2]; exact a.here w (.int _)⟩
  | min1 =>
    obtain ⟨x, rfl, h⟩ := one_eq h
    obtain ⟨v, rfl, rv⟩ := one_arg rs
    obtain ⟨ys, hy, h2⟩ := Option.bind_eq_some_iff.mp h
    obtain ⟨is, h3, h4⟩ := Option.bind_eq_some_iff.mp h2
    obtain ⟨b, rfl, hq⟩ := ints_at w rv (Option.bind_eq_some_iff.mpr ⟨ys, hy, h3⟩)
    cases is with
    | nil => cases h4
    | cons i is =>
      cases h4
      exact cr_min hc pins s σ H _ us Q I r ⟨b, _, rfl, hq, Nat.succ_pos _, fun m h1 h2 => by rw [min_uniq h1 h2]; exact a.here w (.int _)⟩
  | gcd =>
    obtain ⟨x, y, rfl, h⟩ := two_eq h
    obtain ⟨i, j, rfl, rfl, rfl⟩ := int2_eq h
    obtain ⟨v, u, rfl, rv, ru⟩ := two_args rs
    cases rv; cases ru
    exact cr_gcd pins s σ H _ us Q I r ⟨i, j, rfl, a.here w (.int _)⟩
end
end Ev

/-! EvOps4: methods, stores, new lists -/
namespace Ev
open PySem PySem.Spec PyProof.Rows L2

section
variable {K : PySem.W.Frag} {io io' : Pl} {H H' : Hp} {S S' : Sto} {a : Addr} {n : Nat}
theorem Tr.put (w : Wd K io H S) (hn : io.io[n]? = some a) {xs vs : List V} (e : H a = some (.lst xs)) : Tr io H io (L2.upd H a (.lst vs)) :=
  ⟨⟨[], by simp⟩, rfl, fun b o q m => by
    have hb : b ≠ a := fun z => by
      subst z
      rw [e] at q
      cases q
      rcases m with m | m
      · exact m (List.mem_of_getElem? hn)
      · exact m trivial
    rw [upd_ne hb]
    exact q, fun b h m => absurd h m⟩
theorem Wd.put (w : Wd K io H S) (hn : io.io[n]? = some a) {xs vs : List V} {ds : List D} (e : H a = some (.lst xs)) (r : RepL K io H vs ds) : Wd K io (L2.upd H a (.lst vs)) (S.set n (.lst ds)) := by
  have t : Tr io H io (L2.upd H a (.lst vs)) := Tr.put w hn e
  refine ⟨by rw [List.length_set]; exact w.len, w.nd, fun m b o h1 h2 => ?_, fun b hb => ⟨(w.hid b hb).1, (w.hid b hb).2.elim fun ys e2 => ⟨ys, t.keep b _ e2 (.inl (w.hid b hb).1)⟩⟩⟩
  by_cases hm : n = m
  · subst hm
    rw [hn] at h1
    cases h1
    have hs : n < S.length := by rw [← w.len]; exact (List.getElem?_eq_some_iff.mp hn).1
    rw [List.getElem?_set_self hs] at h2
    cases h2
    exact ⟨vs, upd_same, r.mono t⟩
  · rw [List.getElem?_set_ne hm] at h2
    have q := w.ob m b o h1 h2
    cases o with
    | dic _ _ => exact q.elim
    | lst es =>
      obtain ⟨us, e1, r1⟩ := q
      have hb : b ≠ a := fun z => by
        subst z
        have i1 := (List.getElem?_eq_some_iff.mp hn)
        have i2 := (List.getElem?_eq_some_iff.mp h1)
        exact hm ((List.getElem_inj (h₀ := i1.1) (h₁ := i2.1) w.nd).mp (i1.2.trans i2.2.symm))
      exact ⟨us, by rw [upd_ne hb]; exact e1, r1.mono t⟩
theorem atL_eq {α : Type} {o : D} {f : Nat → List D → R α} {r : α} {v : V} (w : Wd K io H S) (ro : Rep K io H v o) (h : atL S o f = .ok r S') : ∃ n a xs vs, o = .own n ∧ v = .ref a ∧ io.io[n]? = some a ∧ H a = some (.lst vs) ∧ RepL K io H vs xs ∧ f n xs = .ok r S' := by
  cases ro with
  | own e =>
    obtain ⟨ob, e1, q⟩ := w.at e
    simp only [atL, e1] at h
    cases ob with
    | dic _ _ => exact q.elim
    | lst ds =>
      obtain ⟨vs, e2, rs⟩ := q
      exact ⟨_, _, ds, vs, rfl, rfl, e, e2, rs, h⟩
  | _ => cases h
theorem oneR_eq {α : Type} {ds : List D} {f : D → R α} {r : α} (h : oneR ds f = .ok r S') : ∃ x, ds = [x] ∧ f x = .ok r S' := by
  rcases ds with _ | ⟨x, _ | ⟨y, t⟩⟩
  · cases h
  · exact ⟨x, rfl, h⟩
  · cases h
theorem zero_eq {α : Type} {ds : List D} {k : R α} {r : α} (h : zero ds k = .ok r S') : ds = [] ∧ k = .ok r S' := by
  cases ds with
  | nil => exact ⟨rfl, h⟩
  | cons _ _ => cases h
end

/-! ### methods -/
def mR (K : PySem.W.Frag) (k : MF) : V → List V → Hp → VK → Prop := fun x vs H Q => ∃ io S o ds r S', Wd K io H S ∧ Rep K io H x o ∧ RepL K io H vs ds ∧ meD k o ds S = .ok r S' ∧ Aft K io H S' r Q
section
variable {X : Cx}
theorem Aft.put {K : PySem.W.Frag} {io : Pl} {H : Hp} {S : Sto} {a : Addr} {n : Nat} {xs vs : List V} {es : List D} {r : D} {Q : VK} (af : Aft K io H (S.set n (.lst es)) r Q) (w : Wd K io H S) (hn : io.io[n]? = some a) (e : H a = some (.lst xs)) (rs : RepL K io H vs es) {v : V} (h : Rep K io H v r) : Q v (upd H a (.lst vs)) :=
  af io _ v (Tr.put w hn e) (w.put hn e rs) (h.mono (Tr.put w hn e))
theorem mt_join_d : MtR X "str.join" (mR X.K .join) := by
  intro pins s σ H x xs v us Q I rx rs ⟨io, S, o, ds, r, S', w, ro, rds, h, a⟩
  obtain ⟨d, rfl, h⟩ := oneR_eq h
  obtain ⟨h, e⟩ := R.of_eq_ok h
  subst e
  cases ro with
  | str sep =>
    obtain ⟨ys, h1, h2⟩ := Option.bind_eq_some_iff.mp h
    obtain ⟨zs, h3, h4⟩ := Option.bind_eq_some_iff.mp h2
    split at h4
    · rename_i hz
      cases h4
      obtain ⟨u, rfl, ru⟩ := one_arg rds
      obtain ⟨b, vs, rfl, hq, rt⟩ := items_at w ru h1
      rw [strsOf_eq h3] at rt
      rw [rt.strs] at hq
      refine mt_join pins s σ H _ _ v us Q I rx rs ⟨sep, b, zs, rfl, rfl, hq, hz, ?_⟩
      have e : Txt.join sep zs = Str.join sep zs := StrLaws.glued_eq_join sep zs
      rw [e]
      exact a.here w (.str _)
    · cases h4
  | _ => cases h
theorem mt_append_d : MtR X "list.append" (mR X.K .append) := by
  intro pins s σ H x xs v us Q I rx rs ⟨io, S, o, ds, r, S', w, ro, rds, h, a⟩
  obtain ⟨d, rfl, h⟩ := oneR_eq h
  obtain ⟨n, b, es, vs, rfl, rfl, hn, e, rt, h⟩ := atL_eq w ro h
  obtain ⟨u, rfl, ru⟩ := one_arg rds
  split at h
  · cases h
    have l1 := rt.length
    exact mt_append pins s σ H _ _ v us Q I rx rs ⟨b, vs, u, rfl, rfl, e, by rw [← lim]; omega, a.put w hn e (rt.append (.cons ru .nil)) .non⟩
  · cases h
theorem mt_popAt_d : MtR X "list.pop" (mR X.K .popAt) := by
  intro pins s σ H x xs v us Q I rx rs ⟨io, S, o, ds, r, S', w, ro, rds, h, a⟩
  obtain ⟨d, rfl, h⟩ := oneR_eq h
  obtain ⟨u, rfl, ru⟩ := one_arg rds
  cases ru with
  | int i =>
    obtain ⟨n, b, es, vs, rfl, rfl, hn, e, rt, h⟩ := atL_eq w ro h
    split at h
    · rename_i p hp
      split at h
      · rename_i y hy
        cases h
        obtain ⟨z, hz, rz⟩ := rt.get hy
        have hl := rt.length
        obtain ⟨its, rv, _, hsz⟩ := I.list (SqL.of e)
        have hp' : ixN vs.length i = some p := by rw [hl]; exact hp
        obtain ⟨h1, h2, h3, h4⟩ := ixN_seq hp'
        rw [sizeLine_eq] at hsz
        exact mt_popAt pins s σ H _ _ v us Q I rx rs ⟨b, vs, i, p, z, rfl, rfl, e, by omega, by omega, h1, hz, a.put w hn e (rt.erase p) rz⟩
      · cases h
    · cases h
  | _ => cases h
theorem RepL.dropLast {K : PySem.W.Frag} {io : Pl} {H : Hp} {vs : List V} {ds : List D} (h : RepL K io H vs ds) : RepL K io H vs.dropLast ds.dropLast := by
  rw [List.dropLast_eq_take, List.dropLast_eq_take, h.length]
  exact h.take _
theorem mt_popLast_d : MtR X "list.pop" (mR X.K .popLast) := by
  intro pins s σ H x xs v us Q I rx rs ⟨io, S, o, ds, r, S', w, ro, rds, h, a⟩
  obtain ⟨rfl, h⟩ := zero_eq h
  obtain ⟨n, b, es, vs, rfl, rfl, hn, e, rt, h⟩ := atL_eq w ro h
  cases rds
  split at h
  · rename_i y hy
    cases h
    obtain ⟨z, hz, rz⟩ := rt.get hy
    rw [← rt.length] at hz
    exact mt_pop pins s σ H _ _ v us Q I rx rs ⟨b, vs, z, rfl, rfl, e, hz, a.put w hn e rt.dropLast rz⟩
  · cases h
theorem mt_extend_d : MtR X "list.extend" (mR X.K .extend) := by
  intro pins s σ H x xs v us Q I rx rs ⟨io, S, o, ds, r, S', w, ro, rds, h, a⟩
  obtain ⟨d, rfl, h⟩ := oneR_eq h
  obtain ⟨n, b, es, vs, rfl, rfl, hn, e, rt, h⟩ := atL_eq w ro h
  obtain ⟨u, rfl, ru⟩ := one_arg rds
  split at h
  · rename_i ys hy
    split at h
    · cases h
      obtain ⟨b2, ws, rfl, e2, rt2⟩ := look_at w ru hy
      have l1 := rt.length
      have l2 := rt2.length
      exact mt_extend pins s σ H _ _ v us Q I rx rs ⟨b, b2, vs, ws, rfl, rfl, e, e2, by rw [← lim]; omega, a.put w hn e (rt.append rt2) .non⟩
    · cases h
  · cases h
/-- o[i] = v -/
def pR (K : PySem.W.Frag) : V → V → V → Hp → (Hp → Prop) → Prop := fun o i v H Q => ∃ io S x y z S', Wd K io H S ∧ Rep K io H o x ∧ Rep K io H i y ∧ Rep K io H v z ∧ putD x y z S = .ok () S' ∧
  ∀ io' H', Tr io H io' H' → Wd K io' H' S' → Q H'
theorem set_d : PSet X (pR X.K) := by
  intro pins s σ H o i v ov iv u Q I ro ri rv ⟨io, S, x, y, z, S', w, rx, ry, rz, h, a⟩
  cases ry with
  | int k =>
    obtain ⟨n, b, es, vs, rfl, rfl, hn, e, rt, h⟩ := atL_eq w rx h
    split at h
    · rename_i p hp
      cases h
      refine set_list pins s σ H _ _ v ov iv u Q I ro ri rv ⟨b, vs, k, p, rfl, rfl, e, by rw [rt.length]; exact hp, ?_⟩
      exact a io _ (Tr.put w hn e) (w.put hn e (RepL.set rz p rt))
    · cases h
  | _ => cases h

/-! ### new lists -/
/-- what is wanted of a new list -/
def AftN (K : PySem.W.Frag) (io : Pl) (H : Hp) (S' : Sto) (ds : List D) (Q : VK) : Prop := ∀ p vs, H p = none → RepL K io H vs ds → Q (.ref p) (upd H p (.lst vs))
def cat2 (S : Sto) (x y : D) : Option (List D) :=
  match look S x, look S y with
  | .lst xs, .lst ys => if xs.length + ys.length ≤ LIM then some (xs ++ ys) else none
  | _, _ => none
def rep2 (S : Sto) (x y : D) : Option (List D) :=
  match look S x, y with
  | .lst xs, .int n => if xs.length * n.toNat ≤ LIM ∧ n.natAbs ≤ LIM then some (repL xs n.toNat) else none
  | _, _ => none
def nR (K : PySem.W.Frag) (f : Sto → D → D → Option (List D)) : R2 := fun x y H Q => ∃ io S d e ds, Wd K io H S ∧ Rep K io H x d ∧ Rep K io H y e ∧ f S d e = some ds ∧ AftN K io H S ds Q
theorem op_cat_d : OpR X (binaryOp .Add) (nR X.K cat2) := by
  intro pins s σ H x y v u Q I rx ry ⟨io, S, d, e, ds, w, rd, re, h, a⟩
  simp only [cat2] at h
  split at h
  · rename_i xs ys h1 h2
    split at h
    · cases h
      obtain ⟨b, vs, rfl, e1, r1⟩ := look_at w rd h1
      obtain ⟨c, ws, rfl, e2, r2⟩ := look_at w re h2
      have l1 := r1.length
      have l2 := r2.length
      exact op_cat pins s σ H _ _ v u Q I rx ry ⟨b, c, vs, ws, rfl, rfl, e1, e2, by rw [← lim]; omega, fun p hp => a p _ hp (r1.append r2)⟩
    · cases h
  · cases h
theorem op_rep_d : OpR X (binaryOp .Mult) (nR X.K rep2) := by
  intro pins s σ H x y v u Q I rx ry ⟨io, S, d, e, ds, w, rd, re, h, a⟩
  simp only [rep2] at h
  split at h
  · rename_i xs n h1
    split at h
    · rename_i hz
      cases h
      obtain ⟨b, vs, rfl, e1, r1⟩ := look_at w rd h1
      cases re
      have l1 := r1.length
      have l2 : LIM = 16777216 := rfl
      exact op_rep pins s σ H _ _ v u Q I rx ry ⟨b, n, vs, rfl, rfl, e1, by omega, by omega, by rw [← lim, l1]; exact hz.1, fun p hp => a p _ hp (r1.rep n.toNat)⟩
    · cases h
  · cases h
def nlR (K : PySem.W.Frag) : V → Option Int → Option Int → Hp → VK → Prop := fun x lo hi H Q => ∃ io S d xs, Wd K io H S ∧ Rep K io H x d ∧ look S d = .lst xs ∧ AftN K io H S (cutL xs lo hi) Q
theorem sl_cut_d : SlR X (nlR X.K) := by
  intro pins s σ H x v vl vu lo hi sl Q I rx hs pl pu ⟨io, S, d, xs, w, rd, h, a⟩
  obtain ⟨b, vs, rfl, e1, r1⟩ := look_at w rd h
  exact sl_list pins s σ H _ v vl vu lo hi sl Q I rx hs pl pu ⟨b, vs, rfl, .of e1, fun p hp => a p _ hp (r1.cut lo hi)⟩
/-- xs[::-1] of a list, a tuple -/
theorem rev_list {pins : List (Addr × Obj)} {s : Shared} {σ : L2.St} {H : Hp} {v vk : Value} {sl : Addr} {Q : VK} {b : Addr} {vs : List V} (I : Inv X pins σ H s) (rx : RelV (.ref b) v) (hs : s.heap.IsSliceOf sl .none .none vk) (pk : IsPart vk (some (-1))) (hq : SqL X.K H b vs)
    (q : ∀ p, H p = none → Q (.ref p) (upd H p (.lst vs.reverse))) : ∃ T id, typeLookup (.type T) "__getitem__" = pure (some (.builtin id)) ∧ s.TypeIs v T ∧ wpAny (model X.prog X.w) X.A (getItem v (.ref sl)) (EP X pins σ Q) X.xe s := by
  cases rx
  obtain ⟨its, r, ht, hz⟩ := I.list hq
  have hlen := r.length
  refine ⟨"list", _, slot_list_getitem.lookup, ht.isList.typeIs, ?_⟩
  refine wpAny_getItem_list_slice ht.isList hs .none .none pk (by decide) ?_ (by rw [List.size_toArray] <;> omega)
  rw [PySem.W.krv_pick]
  refine ⟨.ref s.heap.objs.size, _, I.laid (t' := s.toks) (o := .lst vs.reverse) (fun b ob q => Heap.get?_push_of_some _ q) (Nat.le_refl _) ?_, rfl, q _ (I.hok.fresh (Nat.le_refl _))⟩
  refine ⟨by rw [List.length_reverse]; exact hz, its.reverse, 0, ?_, Heap.get?_push_size _ rfl⟩
  clear hlen hz ht hq q
  induction r with
  | nil => exact .nil
  | cons r1 r2 ih =>
    rw [List.reverse_cons, List.reverse_cons]
    exact Vals.append (ih) (.cons r1 .nil)
end
end Ev

/-! EvRules: one rule a construct, by the evaluator -/
namespace Ev
open PySem PySem.Spec PyProof.Rows L2

/-! ### what is asked of the written tree -/
def plainB : Expr → Bool
  | .Starred .. => false
  | _ => true
def valB : Expr → Bool
  | .UnaryOp .Not _ _ => false
  | .BoolOp _ _ _ => false
  | .IfExp _ _ _ _ => false
  | .Compare _ _ _ _ => false
  | _ => true
def ixB : Expr → Bool
  | .Slice .. => false
  | _ => true
def setB : Expr → Bool
  | .Set .. => false
  | _ => true
def baseB : Expr → Bool
  | .Call .. => false
  | _ => true
def compB : Expr → Bool
  | .ListComp .. => false
  | .SetComp .. => false
  | .DictComp .. => false
  | _ => true
section
variable {env : PySem.Env} {e : Expr} {es : List Expr} {pos : Pos}
theorem star_plain (h : plainB e = true) : starEach (e :: es) env = (false, eval e env) :: starEach es env := by
  cases e <;> first | rfl | cases h
theorem star_any : ∀ {es : List Expr}, es.all plainB = true → (backTo pos (starEach es env)).any (·.1) = false := by
  intro es
  induction es with
  | nil => intro _; rfl
  | cons e es ih =>
    intro h
    rw [List.all_cons, Bool.and_eq_true] at h
    have ih := ih h.2
    rw [star_plain h.1]
    unfold backTo at ih ⊢
    rw [List.map_cons, List.any_cons, ih]
    rfl
theorem true_plain (h : valB e = true) : ∀ whole, isTrue e env whole = (do let v ← whole; standAt e.pos; holding [v] (truthy v)) := by
  intro whole
  cases e with
  | UnaryOp op x p => cases op <;> first | rfl | cases h
  | BoolOp op x p => cases h
  | IfExp _ _ _ _ => cases h
  | Compare _ _ _ _ => cases h
  | _ => rfl
theorem ix_plain (h : ixB e = true) : PlainIx e := by
  intro o i
  cases e <;> first | rfl | cases h
theorem set_plain (h : setB e = true) : ∀ x, foldedSetIterable e env x = pure x := by
  intro x
  cases e <;> first | rfl | cases h
theorem base_plain {m : Str} (h : baseB e = true) : attributeBase e m env (eval e env) = eval e env := by
  cases e <;> first | rfl | cases h
theorem sw_plain {t : Option Expr} {l : Nat} (h : compB e = true) : swapsWith e t l env = pure false := by
  cases e <;> first | rfl | cases h
theorem asg_plain (h : plainB e = true) : (assignEach (e :: es) env).map (·.2) = assign e env :: (assignEach es env).map (·.2) := by
  cases e <;> first | rfl | cases h
theorem asg_len : ∀ {es : List Expr}, (assignEach es env).length = es.length := by
  intro es
  induction es with
  | nil => rfl
  | cons e es ih =>
    cases e <;> (show (assignEach es env).length + 1 = es.length + 1; rw [ih])
theorem asg_find : ∀ {es : List Expr}, es.all plainB = true → (assignEach es env).findIdx? (·.1) = none := by
  intro es
  induction es with
  | nil => intro _; rfl
  | cons e es ih =>
    intro h
    rw [List.all_cons, Bool.and_eq_true] at h
    have ih := ih h.2
    have h1 := h.1
    cases e <;> first | (show List.findIdx? (·.1) ((false, _) :: assignEach es env) = none; rw [List.findIdx?_cons, ih]; rfl) | cases h1
end

/-! ### the pieces -/
section
variable {X : Cx} {c : Cf} {a b d t : Expr} {A B C T : E} {pos : Pos}
/-- an expression, as a value and as a test -/
def Snd (X : Cx) (c : Cf) (A : E) (a : Expr) : Prop := PE X a (rdE X.K (evE c A)) ∧ PT X a (rdT X.K (evE c A))
theorem pt_of (h : PE X a (rdE X.K (evE c A))) (hv : valB a = true) : PT X a (rdT X.K (evE c A)) := by
  refine PT.imp (pt_val h (true_plain hv)) fun σ H Q ⟨e, io, S, b, S', hE, hW, hm, q⟩ => ?_
  refine rd1 hE hW hm fun io1 H1 v t w r _ => ?_
  cases r
  exact ⟨b, rfl, q io1 H1 t w⟩
theorem snd_of (h : PE X a (rdE X.K (evE c A))) (hv : valB a = true) : Snd X c A a := ⟨h, pt_of h hv⟩
theorem r_var {i : Nat} {x : Str} (hN : X.N[i]? = some x) (hv : Vis X.env.scope x) (hd : (x == ("__debug__" : Str)) = false) (hcd : (x == ("__classdict__" : Str)) = false) : PE X (.Name x pos) (rdE X.K (evE c (.var i))) := by
  refine PE.imp (pe_var hN hv hd hcd) fun σ H Q ⟨e, io, S, d, S', hE, hW, hm, q⟩ => ?_
  simp only [evE] at hm
  split at hm
  · rename_i d' hd'
    cases hm
    obtain ⟨v, e1, r⟩ := hE.at_ i d hd'
    exact ⟨v, e1, q io H v Tr.refl hW r⟩
  · cases hm
theorem r_con_int {i : Int} {j : Nat} : PE X (.Constant (.int i) j pos) (rdE X.K (evE c (.con (.int i)))) :=
  PE.imp pe_int fun σ H Q ⟨e, io, S, d, S', hE, hW, hm, q⟩ => by
    simp only [evE] at hm
    cases hm
    exact q io H _ Tr.refl hW (.int i)
theorem r_con_bl {i : Bool} {j : Nat} : PE X (.Constant (.bool i) j pos) (rdE X.K (evE c (.con (.bl i)))) :=
  PE.imp pe_bl fun σ H Q ⟨e, io, S, d, S', hE, hW, hm, q⟩ => by
    simp only [evE] at hm
    cases hm
    exact q io H _ Tr.refl hW (.bl i)
theorem r_con_str {i : Str} {j : Nat} : PE X (.Constant (.str i) j pos) (rdE X.K (evE c (.con (.str i)))) :=
  PE.imp pe_str fun σ H Q ⟨e, io, S, d, S', hE, hW, hm, q⟩ => by
    simp only [evE] at hm
    cases hm
    exact q io H _ Tr.refl hW (.str i)
theorem r_con_non {j : Nat} : PE X (.Constant .none j pos) (rdE X.K (evE c (.con .non))) :=
  PE.imp pe_non fun σ H Q ⟨e, io, S, d, S', hE, hW, hm, q⟩ => by
    simp only [evE] at hm
    cases hm
    exact q io H _ Tr.refl hW .non
theorem r_glob {k : Nat} {x : Str} {u : Value} {v : V} {dd : D} (hg : Gl X x) (hm : X.mg x = some u) (r : RelV v u) (hd : (x == ("__debug__" : Str)) = false) (hk : c.G[k]? = some dd) (hr : ∀ io H, Rep X.K io H v dd) : PE X (.Name x pos) (rdE X.K (evE c (.glob k))) :=
  PE.imp (pe_glob hg hm r hd) fun σ H Q ⟨e, io, S, d, S', hE, hW, hm, q⟩ => by
    simp only [evE, hk] at hm
    cases hm
    exact q io H _ Tr.refl hW (hr io H)
theorem ok2 {e : Env} {S S' : Sto} {r : D} {k : D → D → Sto → R D} (h : ((evE c A e S).bind fun x S1 => (evE c B e S1).bind fun y S2 => k x y S2) = .ok r S') : ∃ x S1 y S2, evE c A e S = .ok x S1 ∧ evE c B e S1 = .ok y S2 ∧ k x y S2 = .ok r S' := by
  obtain ⟨x, S1, h1, h2⟩ := R.bind_eq_ok h
  obtain ⟨y, S2, h3, h4⟩ := R.bind_eq_ok h2
  exact ⟨x, S1, y, S2, h1, h3, h4⟩
theorem r_bin (o : BO) (ha : PE X a (rdE X.K (evE c A))) (hb : PE X b (rdE X.K (evE c B))) : PE X (.BinOp a o.op b pos) (rdE X.K (evE c (.bin o A B))) := by
  refine PE.imp (pe_op (op_bin o) ha hb) fun σ H Q ⟨e, io, S, d, S', hE, hW, hm, q⟩ => ?_
  simp only [evE] at hm
  obtain ⟨x, S1, y, S2, h1, h2, h3⟩ := ok2 hm
  obtain ⟨h4, e4⟩ := R.of_eq_ok h3
  subst e4
  exact rd2 hE hW h1 h2 fun io2 H2 v u t w rv ru _ => ⟨io2, _, x, y, d, w, rv, ru, h4, fun io3 H3 v3 t3 w3 r3 => q io3 H3 v3 (t.trans t3) w3 r3⟩
theorem r_neg (ha : PE X a (rdE X.K (evE c A))) : PE X (.UnaryOp .USub a pos) (rdE X.K (evE c (.neg A))) := by
  refine PE.imp (pe_un un_neg ha) fun σ H Q ⟨e, io, S, d, S', hE, hW, hm, q⟩ => ?_
  simp only [evE] at hm
  obtain ⟨x, S1, h1, h2⟩ := R.bind_eq_ok hm
  split at h2
  · cases h2
    refine rd1 hE hW h1 fun io1 H1 v t w r _ => ?_
    cases r
    exact ⟨_, rfl, q io1 H1 _ t w (.int _)⟩
  · cases h2
theorem r_not (ha : PE X a (rdE X.K (evE c A))) : PE X (.UnaryOp .Not a pos) (rdE X.K (evE c (.not_ A))) := by
  refine PE.imp (pe_not ha) fun σ H Q ⟨e, io, S, d, S', hE, hW, hm, q⟩ => ?_
  simp only [evE] at hm
  obtain ⟨x, S1, h1, h2⟩ := R.bind_eq_ok hm
  split at h2
  · cases h2
    refine rd1 hE hW h1 fun io1 H1 v t w r _ => ?_
    cases r
    exact ⟨_, rfl, q io1 H1 _ t w (.bl _)⟩
  · cases h2
theorem rt1 {e : Env} {io : Pl} {H : Hp} {S S1 : Sto} {σ : L2.St} {v : Bool} {Q : Bool → Hp → Prop} (hE : EnvR X.K io H σ e) (hW : Wd X.K io H S) (h1 : evE c A e S = .ok (.bl v) S1)
    (k : ∀ io1 H1, Tr io H io1 H1 → Wd X.K io1 H1 S1 → EnvR X.K io1 H1 σ e → Q v H1) : rdT X.K (evE c A) σ H Q :=
  ⟨e, io, S, v, S1, hE, hW, h1, fun io1 H1 t w => k io1 H1 t w (hE.mono t)⟩
theorem rt_not (ha : PT X a (rdT X.K (evE c A))) : PT X (.UnaryOp .Not a pos) (rdT X.K (evE c (.not_ A))) := by
  refine PT.imp (pt_not ha) fun σ H Q ⟨e, io, S, d, S', hE, hW, hm, q⟩ => ?_
  simp only [evE] at hm
  obtain ⟨x, S1, h1, h2⟩ := R.bind_eq_ok hm
  split at h2
  · cases h2
    exact rt1 hE hW h1 fun io1 H1 t w _ => q io1 H1 t w
  · cases h2
theorem ok_and {e : Env} {S S' : Sto} {r : D} (h : evE c (.and_ A B) e S = .ok r S') : ∃ v S1, evE c A e S = .ok (.bl v) S1 ∧ (if v = true then evE c B e S1 = .ok r S' else r = .bl false ∧ S' = S1) := by
  simp only [evE] at h
  obtain ⟨x, S1, h1, h2⟩ := R.bind_eq_ok h
  split at h2
  · exact ⟨true, S1, h1, h2⟩
  · cases h2
    exact ⟨false, _, h1, rfl, rfl⟩
  · cases h2
theorem ok_or {e : Env} {S S' : Sto} {r : D} (h : evE c (.or_ A B) e S = .ok r S') : ∃ v S1, evE c A e S = .ok (.bl v) S1 ∧ (if v = true then r = .bl true ∧ S' = S1 else evE c B e S1 = .ok r S') := by
  simp only [evE] at h
  obtain ⟨x, S1, h1, h2⟩ := R.bind_eq_ok h
  split at h2
  · cases h2
    exact ⟨true, _, h1, rfl, rfl⟩
  · exact ⟨false, S1, h1, h2⟩
  · cases h2
/-- the rest of an and, an or: a value, a test -/
def SndR (X : Cx) (c : Cf) (A : E) (a : Expr) : Prop := PE X a (rdE X.K (evE c A)) ∧ PW X a (rdT X.K (evE c A))
theorem and_last (h : Snd X c A a) : SndR X c A (.BoolOp .And [a] pos) := ⟨pe_one h.1, pw_and1 h.2⟩
theorem or_last (h : Snd X c A a) : SndR X c A (.BoolOp .Or [a] pos) := ⟨pe_one h.1, pw_or1 h.2⟩
theorem and_more {rest : List Expr} (h : Snd X c A a) (h2 : SndR X c B (.BoolOp .And (b :: rest) pos)) : SndR X c (.and_ A B) (.BoolOp .And (a :: b :: rest) pos) := by
  refine ⟨PE.imp (pe_and h.1 h2.1) fun σ H Q ⟨e, io, S, d, S', hE, hW, hm, q⟩ => ?_, PW.imp (pw_and h.2 h2.2) fun σ H Q ⟨e, io, S, d, S', hE, hW, hm, q⟩ => ?_⟩
  · obtain ⟨v, S1, h1, h3⟩ := ok_and hm
    refine rd1 hE hW h1 fun io1 H1 u t w r e1 => ?_
    cases r
    refine ⟨v, rfl, ?_⟩
    cases v with
    | true => exact ⟨e, io1, S1, d, S', e1, w, h3, fun io2 H2 v2 t2 w2 r2 => q io2 H2 v2 (t.trans t2) w2 r2⟩
    | false =>
      obtain ⟨rfl, rfl⟩ := h3
      exact q io1 H1 _ t w (.bl _)
  · obtain ⟨v, S1, h1, h3⟩ := ok_and hm
    refine rt1 hE hW h1 fun io1 H1 t w e1 => ?_
    cases v with
    | true => exact ⟨e, io1, S1, d, S', e1, w, h3, fun io2 H2 t2 w2 => q io2 H2 (t.trans t2) w2⟩
    | false =>
      obtain ⟨h4, rfl⟩ := h3
      cases h4
      exact q io1 H1 t w
theorem or_more {rest : List Expr} (h : Snd X c A a) (h2 : SndR X c B (.BoolOp .Or (b :: rest) pos)) : SndR X c (.or_ A B) (.BoolOp .Or (a :: b :: rest) pos) := by
  refine ⟨PE.imp (pe_or h.1 h2.1) fun σ H Q ⟨e, io, S, d, S', hE, hW, hm, q⟩ => ?_, PW.imp (pw_or h.2 h2.2) fun σ H Q ⟨e, io, S, d, S', hE, hW, hm, q⟩ => ?_⟩
  · obtain ⟨v, S1, h1, h3⟩ := ok_or hm
    refine rd1 hE hW h1 fun io1 H1 u t w r e1 => ?_
    cases r
    refine ⟨v, rfl, ?_⟩
    cases v with
    | false => exact ⟨e, io1, S1, d, S', e1, w, h3, fun io2 H2 v2 t2 w2 r2 => q io2 H2 v2 (t.trans t2) w2 r2⟩
    | true =>
      obtain ⟨rfl, rfl⟩ := h3
      exact q io1 H1 _ t w (.bl _)
  · obtain ⟨v, S1, h1, h3⟩ := ok_or hm
    refine rt1 hE hW h1 fun io1 H1 t w e1 => ?_
    cases v with
    | false => exact ⟨e, io1, S1, d, S', e1, w, h3, fun io2 H2 t2 w2 => q io2 H2 (t.trans t2) w2⟩
    | true =>
      obtain ⟨h4, rfl⟩ := h3
      cases h4
      exact q io1 H1 t w
theorem SndR.snd {A : E} {a : Expr} (h : SndR X c A a) : Snd X c A a := ⟨h.1, h.2.pt⟩
theorem ok_if {e : Env} {S S' : Sto} {r : D} (h : evE c (.ifx T A B) e S = .ok r S') : ∃ v S1, evE c T e S = .ok (.bl v) S1 ∧ (if v = true then evE c A e S1 = .ok r S' else evE c B e S1 = .ok r S') := by
  simp only [evE] at h
  obtain ⟨x, S1, h1, h2⟩ := R.bind_eq_ok h
  split at h2
  · exact ⟨true, S1, h1, h2⟩
  · exact ⟨false, S1, h1, h2⟩
  · cases h2
theorem r_if (ht : Snd X c T t) (ha : Snd X c A a) (hb : Snd X c B b) : Snd X c (.ifx T A B) (.IfExp t a b pos) := by
  refine ⟨PE.imp (pe_ifExp ht.2 ha.1 hb.1) fun σ H Q ⟨e, io, S, d, S', hE, hW, hm, q⟩ => ?_, ⟨fun pins s σ H Q I ⟨e, io, S, d, S', hE, hW, hm, q⟩ => ?_⟩⟩
  · obtain ⟨v, S1, h1, h3⟩ := ok_if hm
    refine rt1 hE hW h1 fun io1 H1 t w e1 => ?_
    cases v with
    | true => exact ⟨e, io1, S1, d, S', e1, w, h3, fun io2 H2 v2 t2 w2 r2 => q io2 H2 v2 (t.trans t2) w2 r2⟩
    | false => exact ⟨e, io1, S1, d, S', e1, w, h3, fun io2 H2 v2 t2 w2 r2 => q io2 H2 v2 (t.trans t2) w2 r2⟩
  · obtain ⟨v, S1, h1, h3⟩ := ok_if hm
    have g : rdT X.K (evE c T) σ H fun b H1 => if b = true then rdT X.K (evE c A) σ H1 Q else rdT X.K (evE c B) σ H1 Q := by
      refine rt1 hE hW h1 fun io1 H1 t w e1 => ?_
      cases v with
      | true => exact ⟨e, io1, S1, d, S', e1, w, h3, fun io2 H2 t2 w2 => q io2 H2 (t.trans t2) w2⟩
      | false => exact ⟨e, io1, S1, d, S', e1, w, h3, fun io2 H2 t2 w2 => q io2 H2 (t.trans t2) w2⟩
    refine isTrue_IfExp (thn (ht.2.run pins s σ H _ I g) fun v s1 ⟨H1, I1, q1⟩ => ?_)
    cases v with
    | true => exact ha.2.run pins s1 σ H1 Q I1 q1
    | false => exact hb.2.run pins s1 σ H1 Q I1 q1
theorem cmp_rd {o : CO} {σ : L2.St} {H : Hp} {Q : VK} (h : rdE X.K (evE c (.cmp o A B)) σ H Q) : tOp (cR X.K (cmpD o)) (rdE X.K (evE c A)) (rdE X.K (evE c B)) σ H Q := by
  obtain ⟨e, io, S, d, S', hE, hW, hm, q⟩ := h
  simp only [evE] at hm
  obtain ⟨x, S1, y, S2, h1, h2, h3⟩ := ok2 hm
  obtain ⟨h4, e4⟩ := R.of_eq_ok h3
  subst e4
  obtain ⟨v, h5, rfl⟩ := Option.map_eq_some_iff.mp h4
  exact rd2 hE hW h1 h2 fun io2 H2 v u t w rv ru _ => ⟨io2, _, x, y, _, w, rv, ru, h5, q io2 H2 _ t w (.bl _)⟩
theorem rdT_E {m : Env → Sto → R D} {σ : L2.St} {H : Hp} {Q : Bool → Hp → Prop} (h : rdT X.K m σ H Q) : rdE X.K m σ H fun v H1 => ∃ k, v = .bl k ∧ Q k H1 := by
  obtain ⟨e, io, S, d, S', hE, hW, hm, q⟩ := h
  refine rd1 hE hW hm fun io1 H1 v t w r _ => ?_
  cases r
  exact ⟨d, rfl, q io1 H1 t w⟩
theorem r_cmp (o : CO) (hu : X.A.units + 65 < cLine) (ha : PE X a (rdE X.K (evE c A))) (hb : PE X b (rdE X.K (evE c B))) (hm : behindInMarks o.op b = false) : Snd X c (.cmp o A B) (.Compare a [o.op] [b] pos) :=
  ⟨PE.imp (pe_cmpR (op_cmp o hu) ha hb hm) fun _ _ _ h => cmp_rd h, PT.imp (pt_cmpR (op_cmp o hu) ha hb hm) fun _ _ _ h => cmp_rd (rdT_E h)⟩
theorem chn_rd {o p : CO} {σ : L2.St} {H : Hp} {Q : VK} (h : rdE X.K (evE c (.chn o p A B C)) σ H Q) : tChain (cR X.K (cmpD o)) (cR X.K (cmpD p)) (rdE X.K (evE c A)) (rdE X.K (evE c B)) (rdE X.K (evE c C)) σ H Q := by
  obtain ⟨e, io, S, d, S', hE, hW, hm, q⟩ := h
  simp only [evE] at hm
  obtain ⟨x, S1, y, S2, h1, h2, h3⟩ := ok2 hm
  refine rd2 hE hW h1 h2 fun io2 H2 v u t w rv ru e2 => ?_
  split at h3
  · rename_i hc
    refine ⟨io2, S2, x, y, _, w, rv, ru, hc, true, rfl, ?_⟩
    obtain ⟨z, S3, h4, h5⟩ := R.bind_eq_ok h3
    obtain ⟨h6, e6⟩ := R.of_eq_ok h5
    subst e6
    obtain ⟨k, h7, rfl⟩ := Option.map_eq_some_iff.mp h6
    rw [if_pos rfl]
    exact rd1 e2 w h4 fun io3 H3 v3 t3 w3 r3 _ => ⟨io3, _, y, z, _, w3, ru.mono t3, r3, h7, q io3 H3 _ (t.trans t3) w3 (.bl _)⟩
  · rename_i hc
    cases h3
    exact ⟨io2, _, x, y, _, w, rv, ru, hc, false, rfl, q io2 H2 _ t w (.bl _)⟩
  · cases h3
theorem r_chn (o p : CO) (hu : X.A.units + 65 < cLine) (ha : PE X a (rdE X.K (evE c A))) (hb : PE X b (rdE X.K (evE c B))) (hd : PE X d (rdE X.K (evE c C))) (hm : lastMarks [o.op, p.op] [b, d] = false) : Snd X c (.chn o p A B C) (.Compare a [o.op, p.op] [b, d] pos) :=
  ⟨PE.imp (pe_chain (op_cmp o hu) (op_cmp p hu) ha hb hd hm) fun _ _ _ h => chn_rd h, PT.imp (pt_chain (op_cmp o hu) (op_cmp p hu) ha hb hd hm) fun _ _ _ h => chn_rd (rdT_E h)⟩

/-! ### argument lists, displays -/
variable {es : List Expr} {Es_ : Es}
theorem r_nil : PA X [] (rdA X.K (evEs c .nil)) := PA.imp pa_nil fun σ H Q ⟨e, io, S, d, S', hE, hW, hm, q⟩ => by
  simp only [evEs] at hm
  cases hm
  exact q io H _ Tr.refl hW .nil
theorem r_cons (ha : PE X a (rdE X.K (evE c A))) (hr : PA X es (rdA X.K (evEs c Es_))) (hp : plainB a = true) : PA X (a :: es) (rdA X.K (evEs c (.cons A Es_))) := by
  refine PA.imp (pa_cons ha hr (star_plain hp)) fun σ H Q ⟨e, io, S, d, S', hE, hW, hm, q⟩ => ?_
  simp only [evEs] at hm
  obtain ⟨x, S1, h1, h2⟩ := R.bind_eq_ok hm
  obtain ⟨xs, S2, h3, h4⟩ := R.bind_eq_ok h2
  cases h4
  exact rd1 hE hW h1 fun io1 H1 v t w r e1 => ⟨e, io1, S1, xs, _, e1, w, h3, fun io2 H2 vs t2 w2 r2 => q io2 H2 _ (t.trans t2) w2 (.cons (r.mono t2) r2)⟩
theorem ra1 {e : Env} {io : Pl} {H : Hp} {S S1 : Sto} {σ : L2.St} {ds : List D} {Q : List V → Hp → Prop} (hE : EnvR X.K io H σ e) (hW : Wd X.K io H S) (h1 : evEs c Es_ e S = .ok ds S1)
    (k : ∀ io1 H1 vs, Tr io H io1 H1 → Wd X.K io1 H1 S1 → RepL X.K io1 H1 vs ds → EnvR X.K io1 H1 σ e → Q vs H1) : rdA X.K (evEs c Es_) σ H Q :=
  ⟨e, io, S, ds, S1, hE, hW, h1, fun io1 H1 vs t w r => k io1 H1 vs t w r (hE.mono t)⟩
theorem r_tup {k : Nat} (h : PA X es (rdA X.K (evEs c Es_))) : PE X (.Tuple es k pos) (rdE X.K (evE c (.tup Es_))) := by
  refine PE.imp (pe_tup h) fun σ H Q ⟨e, io, S, d, S', hE, hW, hm, q⟩ => ?_
  simp only [evE] at hm
  obtain ⟨ds, S1, h1, h2⟩ := R.bind_eq_ok hm
  split at h2
  · cases h2
    refine ra1 hE hW h1 fun io1 H1 vs t w r _ => ⟨by rw [← lim, r.length]; assumption, fun p hp => ?_⟩
    exact q io1 _ _ (t.trans (Tr.upd hp)) (w.upd hp) (rep_tup w hp r)
  · cases h2

/-! ### new lists -/
variable {n : N}
theorem r_frz (h : PE X a (rdN X.K (evN c n))) : PE X a (rdE X.K (evE c (.frz n))) := by
  refine PE.imp h fun σ H Q ⟨e, io, S, d, S', hE, hW, hm, q⟩ => ?_
  simp only [evE] at hm
  obtain ⟨ds, S1, h1, h2⟩ := R.bind_eq_ok hm
  cases h2
  refine ⟨e, io, S, ds, _, hE, hW, h1, fun io' H' p vs t w hp e' r => q io' H' _ t w.unhide (.lst e' ⟨w.no, ?_⟩ r.unhide)⟩
  rw [t.hd]
  exact (hW.fresh hp).2
theorem r_own (h : PE X a (rdN X.K (evN c n))) : PE X a (rdE X.K (evE c (.own n))) := by
  refine PE.imp h fun σ H Q ⟨e, io, S, d, S', hE, hW, hm, q⟩ => ?_
  simp only [evE] at hm
  obtain ⟨ds, S1, h1, h2⟩ := R.bind_eq_ok hm
  cases h2
  refine ⟨e, io, S, ds, _, hE, hW, h1, fun io' H' p vs t w hp e' r => ?_⟩
  have nh : p ∉ io'.hd := by
    rw [t.hd]
    exact (hW.fresh hp).2
  refine q ⟨io'.io ++ [p], io'.hd⟩ H' _ ⟨?_, t.hd, t.keep, fun b hb n => ?_⟩ (w.place nh e' r) (.own ?_)
  · obtain ⟨r0, h0⟩ := t.pre
    exact ⟨r0 ++ [p], by rw [h0, List.append_assoc]⟩
  · rcases List.mem_append.mp hb with hb | hb
    · exact t.new b hb n
    · rw [List.mem_singleton.mp hb]
      exact hp
  · have hl : S1.length = io'.io.length := w.len.symm
    rw [hl, List.getElem?_append_right (Nat.le_refl _), Nat.sub_self]
    rfl
/-- a new list, laid behind its items -/
theorem new_rd {io io1 : Pl} {H H1 : Hp} {S S1 : Sto} {vs : List V} {ds : List D} {Q : VK} {p : Addr} (hW : Wd X.K io H S) (t : Tr io H io1 H1) (w : Wd X.K io1 H1 S1) (r : RepL X.K io1 H1 vs ds) (hp : H1 p = none)
    (q : ∀ io' H' p vs, Tr io H io' H' → Wd X.K (io'.hide p) H' S1 → H p = none → H' p = some (.lst vs) → RepL X.K (io'.hide p) H' vs ds → Q (.ref p) H') : Q (.ref p) (upd H1 p (.lst vs)) := by
  refine q io1 _ p vs (t.trans (Tr.upd hp)) (w.hidden hp) ?_ upd_same (r.hidden hp)
  cases e : H p with
  | none => rfl
  | some o =>
    by_cases hm : p ∈ io.io
    · obtain ⟨xs, e2⟩ := w.mem (t.sub hm)
      rw [hp] at e2; cases e2
    · have := t.keep p o e (.inl hm)
      rw [hp] at this; cases this
theorem r_disp (h : PA X es (rdA X.K (evEs c Es_))) : PE X (.List es pos) (rdN X.K (evN c (.disp Es_))) := by
  refine PE.imp (pe_lst h) fun σ H Q ⟨e, io, S, d, S', hE, hW, hm, q⟩ => ?_
  simp only [evN] at hm
  obtain ⟨ds, S1, h1, h2⟩ := R.bind_eq_ok hm
  split at h2
  · cases h2
    exact ra1 hE hW h1 fun io1 H1 vs t w r _ => ⟨by rw [← lim, r.length]; assumption, fun p hp => new_rd hW t w r hp q⟩
  · cases h2
theorem cat_eq {x y : D} {S S' : Sto} {ds : List D} (h : (match look S x, look S y with
    | .lst xs, .lst ys => if xs.length + ys.length ≤ LIM then R.ok (xs ++ ys) S else .no
    | _, _ => .no) = .ok ds S') : cat2 S x y = some ds ∧ S' = S := by
  unfold cat2
  split at h
  · split at h
    · rename_i h1 h2 h3
      cases h
      exact ⟨by simp only [h1, h2, if_pos h3], rfl⟩
    · cases h
  · cases h
theorem r_cat (ha : PE X a (rdE X.K (evE c A))) (hb : PE X b (rdE X.K (evE c B))) : PE X (.BinOp a .Add b pos) (rdN X.K (evN c (.cat A B))) := by
  refine PE.imp (pe_op op_cat_d ha hb) fun σ H Q ⟨e, io, S, d, S', hE, hW, hm, q⟩ => ?_
  simp only [evN] at hm
  obtain ⟨x, S1, h1, h2⟩ := R.bind_eq_ok hm
  obtain ⟨y, S2, h3, h4⟩ := R.bind_eq_ok h2
  obtain ⟨h5, e5⟩ := cat_eq h4
  subst e5
  exact rd2 hE hW h1 h3 fun io2 H2 v u t w rv ru _ => ⟨io2, _, x, y, d, w, rv, ru, h5, fun p vs hp r => new_rd hW t w r hp q⟩
theorem rep_eq {x y : D} {S S' : Sto} {ds : List D} (h : (match look S x, y with
    | .lst xs, .int n => if xs.length * n.toNat ≤ LIM ∧ n.natAbs ≤ LIM then R.ok (repL xs n.toNat) S else .no
    | _, _ => .no) = .ok ds S') : rep2 S x y = some ds ∧ S' = S := by
  unfold rep2
  split at h
  · split at h
    · rename_i h1 h3
      cases h
      exact ⟨by simp only [h1, if_pos h3], rfl⟩
    · cases h
  · cases h
theorem r_rep (ha : PE X a (rdE X.K (evE c A))) (hb : PE X b (rdE X.K (evE c B))) : PE X (.BinOp a .Mult b pos) (rdN X.K (evN c (.rep A B))) := by
  refine PE.imp (pe_op op_rep_d ha hb) fun σ H Q ⟨e, io, S, d, S', hE, hW, hm, q⟩ => ?_
  simp only [evN] at hm
  obtain ⟨x, S1, h1, h2⟩ := R.bind_eq_ok hm
  obtain ⟨y, S2, h3, h4⟩ := R.bind_eq_ok h2
  obtain ⟨h5, e5⟩ := rep_eq h4
  subst e5
  exact rd2 hE hW h1 h3 fun io2 H2 v u t w rv ru _ => ⟨io2, _, x, y, d, w, rv, ru, h5, fun p vs hp r => new_rd hW t w r hp q⟩

/-! ### subscripts, slices -/
theorem r_sub (ha : PE X a (rdE X.K (evE c A))) (hb : PE X b (rdE X.K (evE c B))) (hx : ixB b = true) : PE X (.Subscript a b pos) (rdE X.K (evE c (.sub A B))) := by
  refine PE.imp (pe_ix ix_sub ha hb (ix_plain hx)) fun σ H Q ⟨e, io, S, d, S', hE, hW, hm, q⟩ => ?_
  simp only [evE] at hm
  obtain ⟨x, S1, y, S2, h1, h2, h3⟩ := ok2 hm
  obtain ⟨h4, e4⟩ := R.of_eq_ok h3
  subst e4
  exact rd2 hE hW h1 h2 fun io2 H2 v u t w rv ru _ => ⟨io2, _, x, y, d, w, rv, ru, h4, fun io3 H3 v3 t3 w3 r3 => q io3 H3 v3 (t.trans t3) w3 r3⟩
def rdO (K : PySem.W.Frag) (m : Env → Sto → R (Option D)) : TO := fun σ H Q => ∃ e io S d S' i, EnvR K io H σ e ∧ Wd K io H S ∧ m e S = .ok d S' ∧ optInt d = some i ∧
  ∀ io' H', Tr io H io' H' → Wd K io' H' S' → Q i H'
theorem PO.imp {a : Option Expr} {t t' : TO} (h : PO X a t) (hq : ∀ σ H Q, t' σ H Q → t σ H Q) : PO X a t' := ⟨fun pins s σ H Q I ht => h.run pins s σ H Q I (hq σ H Q ht)⟩
theorem r_pno : PO X none (rdO X.K (evO c .no)) := PO.imp po_none fun σ H Q ⟨e, io, S, d, S', i, hE, hW, hm, hi, q⟩ => by
  simp only [evO] at hm
  cases hm
  cases hi
  exact q io H Tr.refl hW
theorem r_pyes (ha : PE X a (rdE X.K (evE c A))) : PO X (some a) (rdO X.K (evO c (.yes A))) := PO.imp (po_some ha) fun σ H Q ⟨e, io, S, d, S', i, hE, hW, hm, hi, q⟩ => by
  simp only [evO] at hm
  obtain ⟨x, S1, h1, h2⟩ := R.bind_eq_ok hm
  cases h2
  refine rd1 hE hW h1 fun io1 H1 v t w r _ => ?_
  cases r with
  | int k =>
    cases hi
    exact ⟨k, rfl, q io1 H1 t w⟩
  | _ => cases hi
theorem ro1 {O : Oe} {e : Env} {io : Pl} {H : Hp} {S S1 : Sto} {σ : L2.St} {d : Option D} {i : Option Int} {Q : Option Int → Hp → Prop} (hE : EnvR X.K io H σ e) (hW : Wd X.K io H S) (h1 : evO c O e S = .ok d S1) (hi : optInt d = some i)
    (k : ∀ io1 H1, Tr io H io1 H1 → Wd X.K io1 H1 S1 → EnvR X.K io1 H1 σ e → Q i H1) : rdO X.K (evO c O) σ H Q :=
  ⟨e, io, S, d, S1, i, hE, hW, h1, hi, fun io1 H1 t w => k io1 H1 t w (hE.mono t)⟩
variable {L Hh : Oe} {lo hi : Option Expr} {p2 : Pos}
theorem r_slc (ha : PE X a (rdE X.K (evE c A))) (hl : PO X lo (rdO X.K (evO c L))) (hh : PO X hi (rdO X.K (evO c Hh))) : PE X (.Subscript a (.Slice lo hi none p2) pos) (rdE X.K (evE c (.slc A L Hh))) := by
  refine PE.imp (pe_slice sl_slc ha hl hh) fun σ H Q ⟨e, io, S, d, S', hE, hW, hm, q⟩ => ?_
  simp only [evE] at hm
  obtain ⟨x, S1, h1, h2⟩ := R.bind_eq_ok hm
  obtain ⟨l, S2, h3, h4⟩ := R.bind_eq_ok h2
  obtain ⟨u, S3, h5, h6⟩ := R.bind_eq_ok h4
  split at h6
  · rename_i i j hi hj
    obtain ⟨h7, e7⟩ := R.of_eq_ok h6
    subst e7
    refine rd1 hE hW h1 fun io1 H1 v t1 w1 r1 e1 => ro1 e1 w1 h3 hi fun io2 H2 t2 w2 e2 => ro1 e2 w2 h5 hj fun io3 H3 t3 w3 e3 => ?_
    exact ⟨io3, _, x, d, w3, (r1.mono t2).mono t3, h7, fun io4 H4 v4 t4 w4 r4 => q io4 H4 v4 (((t1.trans t2).trans t3).trans t4) w4 r4⟩
  · cases h6
theorem r_lslc (ha : PE X a (rdE X.K (evE c A))) (hl : PO X lo (rdO X.K (evO c L))) (hh : PO X hi (rdO X.K (evO c Hh))) : PE X (.Subscript a (.Slice lo hi none p2) pos) (rdN X.K (evN c (.slc A L Hh))) := by
  refine PE.imp (pe_slice sl_cut_d ha hl hh) fun σ H Q ⟨e, io, S, d, S', hE, hW, hm, q⟩ => ?_
  simp only [evN] at hm
  obtain ⟨x, S1, h1, h2⟩ := R.bind_eq_ok hm
  obtain ⟨l, S2, h3, h4⟩ := R.bind_eq_ok h2
  obtain ⟨u, S3, h5, h6⟩ := R.bind_eq_ok h4
  split at h6
  · rename_i xs i j hx hi hj
    cases h6
    refine rd1 hE hW h1 fun io1 H1 v t1 w1 r1 e1 => ro1 e1 w1 h3 hi fun io2 H2 t2 w2 e2 => ro1 e2 w2 h5 hj fun io3 H3 t3 w3 e3 => ?_
    exact ⟨io3, _, x, xs, w3, (r1.mono t2).mono t3, hx, fun p vs hp r => new_rd hW ((t1.trans t2).trans t3) w3 r hp q⟩
  · cases h6
/-- xs[::-1] -/
theorem r_rev {k1 : Nat} {p3 p4 : Pos} (ha : PE X a (rdE X.K (evE c A))) : PE X (.Subscript a (.Slice none none (some (.UnaryOp .USub (.Constant (.int 1) k1 p3) p4)) p2) pos) (rdN X.K (evN c (.rev A))) := by
  refine ⟨fun pins s σ H Q I ⟨e, io, S, d, S', hE, hW, hm, q⟩ => ?_⟩
  simp only [evN] at hm
  obtain ⟨x, S1, h1, h2⟩ := R.bind_eq_ok hm
  split at h2
  · rename_i xs hx
    cases h2
    refine Subscript_ (thn (ha.run pins s σ H _ I (rd1 (Q := fun v H1 => ∃ io1, Tr io H io1 H1 ∧ Wd X.K io1 H1 _ ∧ Rep X.K io1 H1 v x) hE hW h1 fun io1 H1 v t w r _ => ⟨io1, t, w, r⟩)) fun v s1 ⟨x1, H1, I1, r1, io1, t1, w1, rx⟩ => ?_)
    obtain ⟨b, vs, rfl, e1, rs⟩ := look_at w1 rx hx
    refine wpAny_Slice ?_
    rw [evalPart_none]
    refine wpAny_pure (wpAny_pure ?_)
    rw [evalPart_some]
    have pm : PE X (.UnaryOp .USub (.Constant (.int 1) k1 p3) p4) (tUn (rU fun i => .int (-i)) (tC (.int 1))) := pe_un un_neg pe_int
    refine thn (pm.run pins s1 σ H1 (fun v H2 => v = .int (-1) ∧ H2 = H1) I1 ⟨1, rfl, rfl, rfl⟩) fun vk s2 ⟨xk, H2, I2, rk, ek, eH⟩ => ?_
    subst ek eH
    have I3 : Inv X pins σ H2 { s2 with heap := s2.heap.push { cls := .type "slice", data := .fields #[.none, .none, vk] } } := I2.kept (t' := s2.toks) fun b ob q => Heap.get?_push_of_some _ q
    obtain ⟨tk, rfl⟩ := rk
    obtain ⟨T, id, hT, ht, hg⟩ := rev_list (Q := Q) (sl := s2.heap.objs.size) (vk := .int (-1) tk) I3 r1 (Heap.IsSliceOf.new ..) (.int _ _) (.of e1) fun p hp => new_rd hW t1 w1 rs.reverse hp q
    exact tail_any (ops := [_, .ref s2.heap.objs.size]) ht hT hg (by with_unfolding_all rfl)
  · cases h2
end
end Ev

/-! EvRules2: calls of built-in functions, methods, own functions; targets; what is walked -/
namespace Ev
open PySem PySem.Spec PyProof.Rows L2

section
variable {X : Cx} {c : Cf} {a b : Expr} {A B : E} {pos p p2 : Pos} {es : List Expr} {Es_ : Es}

/-! ### isinstance -/
def Ty.nm : Ty → String
  | .bool => "bool"
  | .int => "int"
  | .str => "str"
  | .tuple => "tuple"
  | .list => "list"
def Ty.name (t : Ty) : Str := Str.ofString t.nm
theorem boot_ty (t : Ty) : bootBuiltins t.name = some (.type t.nm) := by cases t <;> decide +kernel
theorem ty_name (t : Ty) : t.name ≠ "__name__" := by cases t <;> decide
theorem ty_debug (t : Ty) : (t.name == ("__debug__" : Str)) = false := by cases t <;> decide
theorem kit_non (t : Ty) : kitB "NoneType" t.nm = some false := by cases t <;> decide +kernel
theorem kit_bl (t : Ty) (b : Bool) : kitB "bool" t.nm = some (isTy (.bl b) t) := by cases t <;> simp only [isTy] <;> decide +kernel
theorem kit_int (t : Ty) (i : Int) : kitB "int" t.nm = some (isTy (.int i) t) := by cases t <;> simp only [isTy] <;> decide +kernel
theorem kit_str (t : Ty) (x : Str) : kitB "str" t.nm = some (isTy (.str x) t) := by cases t <;> simp only [isTy] <;> decide +kernel
theorem kit_tup (t : Ty) (x : List D) : kitB "tuple" t.nm = some (isTy (.tup x) t) := by cases t <;> simp only [isTy] <;> decide +kernel
theorem kit_lst (t : Ty) (x : List D) : kitB "list" t.nm = some (isTy (.lst x) t) := by cases t <;> simp only [isTy] <;> decide +kernel
theorem isTy_non (t : Ty) : isTy .non t = false := by cases t <;> rfl
theorem isTy_sq (t : Ty) (x y : List D) : isTy (.sq x) t = isTy (.lst y) t := by cases t <;> rfl
theorem ty_at {K : PySem.W.Frag} {io : Pl} {H : Hp} {S : Sto} {v : V} {d : D} (w : Wd K io H S) (r : Rep K io H v d) : ∃ T, TyX K H v (.type T) ∧ ∀ t : Ty, kitB T t.nm = some (isTy (look S d) t) := by
  cases r with
  | non => exact ⟨_, .base .non, fun t => by rw [show look S .non = .non from rfl, isTy_non]; exact kit_non t⟩
  | bl b => exact ⟨_, .base (.bl b), fun t => kit_bl t b⟩
  | int i => exact ⟨_, .base (.int i), fun t => kit_int t i⟩
  | str x => exact ⟨_, .base (.str x), fun t => kit_str t x⟩
  | tup hs rs =>
    refine ⟨"tuple", ?_, fun t => kit_tup t _⟩
    rcases hs with (h | ⟨o, h⟩) | ⟨o, its, n, h, hc, _⟩
    · exact .base (.tup h)
    · exact .fTuple h
    · exact .kTuple h hc
  | lst hs n rs => exact ⟨"list", .base (.lst hs), fun t => kit_lst t _⟩
  | sq hs =>
    refine ⟨"list", ?_, fun t => by rw [show look S (.sq _) = .sq _ from rfl, isTy_sq t _ []]; exact kit_lst t _⟩
    rcases hs with ⟨o, h⟩ | ⟨o, its, n, h, hc, _⟩
    · exact .base (.frz h)
    · exact .kList h hc
  | own e =>
    obtain ⟨ob, e1, q⟩ := w.at e
    cases ob with
    | dic _ _ => exact q.elim
    | lst ds =>
      obtain ⟨vs, e2, rs⟩ := q
      refine ⟨"list", .base (.lst e2), fun t => ?_⟩
      simp only [look, e1]
      exact kit_lst t _
theorem r_isi {t : Ty} (hg : Gl X "isinstance") (hm : X.mg "isinstance" = none) (gt : Gl X t.name) (mt : X.mg t.name = none) (ha : PE X a (rdE X.K (evE c A))) (hp : plainB a = true) :
    PE X (.Call (.Name "isinstance" p) [a, .Name t.name p2] [] pos) (rdE X.K (evE c (.isi A [t]))) := by
  refine PE.imp (pe_callB call_isi hg hm (by decide +kernel) (pa_cons ha (pa_cons (pe_bltn (v := .ty t.nm) gt mt (boot_ty t) rfl (ty_name t) (ty_debug t)) pa_nil) (star_plain hp)) (he := star_plain hp)) fun σ H Q ⟨e, io, S, d, S', hE, hW, hm, q⟩ => ?_
  simp only [evE] at hm
  obtain ⟨x, S1, h1, h2⟩ := R.bind_eq_ok hm
  cases h2
  refine rd1 hE hW h1 fun io1 H1 v t1 w r _ => ?_
  obtain ⟨T, hT, hk⟩ := ty_at w r
  refine ⟨v, .ty t.nm, .type T, .type t.nm, isTy (look _ x) t, rfl, .ty _, hT, kit_ty (hk t), ?_⟩
  have e : typed S' x [t] = isTy (look S' x) t := by simp [typed]
  rw [e] at q
  exact q io1 H1 _ t1 w (.bl _)
theorem r_isi2 {t t2 : Ty} {p3 p4 : Pos} {k : Nat} (hg : Gl X "isinstance") (hm : X.mg "isinstance" = none) (gt : Gl X t.name) (mt : X.mg t.name = none) (gt2 : Gl X t2.name) (mt2 : X.mg t2.name = none) (ha : PE X a (rdE X.K (evE c A))) (hp : plainB a = true) :
    PE X (.Call (.Name "isinstance" p) [a, .Tuple [.Name t.name p2, .Name t2.name p3] k p4] [] pos) (rdE X.K (evE c (.isi A [t, t2]))) := by
  refine PE.imp (pe_callB call_isiT hg hm (by decide +kernel) (pa_cons ha (pa_cons (pe_tup (pa_cons (pe_bltn (v := .ty t.nm) gt mt (boot_ty t) rfl (ty_name t) (ty_debug t)) (pa_cons (pe_bltn (v := .ty t2.nm) gt2 mt2 (boot_ty t2) rfl (ty_name t2) (ty_debug t2)) pa_nil))) pa_nil) (star_plain hp)) (he := star_plain hp)) fun σ H Q ⟨e, io, S, d, S', hE, hW, hm, q⟩ => ?_
  simp only [evE] at hm
  obtain ⟨x, S1, h1, h2⟩ := R.bind_eq_ok hm
  cases h2
  refine rd1 hE hW h1 fun io1 H1 v t1 w r _ => ⟨by show 2 ≤ sizeLine; decide, fun tp hp => ?_⟩
  obtain ⟨T, hT, hk⟩ := ty_at (w.upd hp) (r.mono (Tr.upd hp))
  refine ⟨v, tp, [.ty t.nm, .ty t2.nm], .type T, [.type t.nm, .type t2.nm], typed _ x [t, t2], rfl, upd_same, .cons (.ty _) (.cons (.ty _) .nil), hT, ?_, q io1 _ _ (t1.trans (Tr.upd hp)) (w.upd hp) (.bl _)⟩
  have e1 := kit_ty (K := X.K) (hk t)
  have e2 := kit_ty (K := X.K) (hk t2)
  have e3 : typed S' x [t, t2] = (isTy (look S' x) t || isTy (look S' x) t2) := by simp [typed]
  rw [e3]
  refine kitAny_cons e1 (fun z => kitAny_cons (r := isTy (look S' x) t || isTy (look S' x) t2) e2 (fun z2 => ?_) (fun z2 => ?_)) (fun z => ?_)
  · rw [z, z2]; exact kitAny_nil
  · rw [z2, Bool.or_true]
  · rw [z, Bool.true_or]

/-! ### built-in functions -/
def BF.name : BF → Str
  | .len => "len"
  | .abs => "abs"
  | .max2 => "max"
  | .min2 => "min"
  | .int1 => "int"
  | .str1 => "str"
  | .tuple1 => "tuple"
  | .sum1 => "sum"
  | .all1 => "all"
  | .any1 => "any"
  | .max1 => "max"
  | .min1 => "min"
  | .gcd => "gcd"
theorem bf_name (k : BF) : k.name ≠ "__name__" := by cases k <;> decide
theorem bf_debug (k : BF) : (k.name == ("__debug__" : Str)) = false := by cases k <;> decide
/-- what the name of a built-in function stands for -/
def BiOk (X : Cx) (k : BF) : Prop := match k with
  | .gcd => X.mg "gcd" = some (.builtin "math.gcd")
  | k => X.mg k.name = none
theorem r_bi (k : BF) (hc : X.calm = true) (hg : Gl X k.name) (hm : BiOk X k) (ha : PA X (a :: es) (rdA X.K (evEs c Es_))) (hp : plainB a = true) (hps : es.all plainB = true) :
    PE X (.Call (.Name k.name p) (a :: es) [] pos) (rdE X.K (evE c (.bi k Es_))) := by
  have go : ∀ σ H Q, rdE X.K (evE c (.bi k Es_)) σ H Q → tCB (fR X.K k) (rdA X.K (evEs c Es_)) σ H Q := fun σ H Q ⟨e, io, S, d, S', hE, hW, hm, q⟩ => by
    simp only [evE] at hm
    obtain ⟨ds, S1, h1, h2⟩ := R.bind_eq_ok hm
    obtain ⟨h3, e3⟩ := R.of_eq_ok h2
    subst e3
    exact ra1 hE hW h1 fun io1 H1 vs t w r _ => ⟨io1, _, ds, d, w, r, h3, fun io2 H2 v t2 w2 r2 => q io2 H2 v (t.trans t2) w2 r2⟩
  cases k with
  | gcd => exact PE.imp (pe_callBfun (cr_bi hc .gcd) hg hm ha (by decide) (star_plain hp) (star_any hps)) go
  | int1 => exact PE.imp (pe_callTy (cr_bi hc .int1) hg hm (by decide +kernel) ha (by decide) (by decide) (star_plain hp) (star_any hps)) go
  | str1 => exact PE.imp (pe_callTy (cr_bi hc .str1) hg hm (by decide +kernel) ha (by decide) (by decide) (star_plain hp) (star_any hps)) go
  | tuple1 => exact PE.imp (pe_callTy (cr_bi hc .tuple1) hg hm (by decide +kernel) ha (by decide) (by decide) (star_plain hp) (star_any hps)) go
  | len => exact PE.imp (pe_callB (cr_bi hc .len) hg hm (by decide +kernel) ha (by decide) (by decide) (star_plain hp) (star_any hps)) go
  | abs => exact PE.imp (pe_callB (cr_bi hc .abs) hg hm (by decide +kernel) ha (by decide) (by decide) (star_plain hp) (star_any hps)) go
  | max2 => exact PE.imp (pe_callB (cr_bi hc .max2) hg hm (by decide +kernel) ha (by decide) (by decide) (star_plain hp) (star_any hps)) go
  | min2 => exact PE.imp (pe_callB (cr_bi hc .min2) hg hm (by decide +kernel) ha (by decide) (by decide) (star_plain hp) (star_any hps)) go
  | sum1 => exact PE.imp (pe_callB (cr_bi hc .sum1) hg hm (by decide +kernel) ha (by decide) (by decide) (star_plain hp) (star_any hps)) go
  | all1 => exact PE.imp (pe_callB (cr_bi hc .all1) hg hm (by decide +kernel) ha (by decide) (by decide) (star_plain hp) (star_any hps)) go
  | any1 => exact PE.imp (pe_callB (cr_bi hc .any1) hg hm (by decide +kernel) ha (by decide) (by decide) (star_plain hp) (star_any hps)) go
  | max1 => exact PE.imp (pe_callB (cr_bi hc .max1) hg hm (by decide +kernel) ha (by decide) (by decide) (star_plain hp) (star_any hps)) go
  | min1 => exact PE.imp (pe_callB (cr_bi hc .min1) hg hm (by decide +kernel) ha (by decide) (by decide) (star_plain hp) (star_any hps)) go

/-! ### methods -/
variable {o : Expr} {O : E} {ap : Pos}
theorem me_rd {k : MF} {T : String} {σ : L2.St} {H : Hp} {Q : VK} (hT : ∀ {io : Pl} {H : Hp} {S : Sto} {v : V} {d : D} {ds : List D} {r : D} {S2 S' : Sto}, Wd X.K io H S → Rep X.K io H v d → meD k d ds S2 = .ok r S' → tyV X.K T v H)
    (h : rdE X.K (evE c (.me k O Es_)) σ H Q) : tBM X.K T (mR X.K k) (rdE X.K (evE c O)) (rdA X.K (evEs c Es_)) σ H Q := by
  obtain ⟨e, io, S, d, S', hE, hW, hm, q⟩ := h
  simp only [evE] at hm
  obtain ⟨x, S1, h1, h2⟩ := R.bind_eq_ok hm
  obtain ⟨ds, S2, h3, h4⟩ := R.bind_eq_ok h2
  refine rd1 hE hW h1 fun io1 H1 v t1 w1 r1 e1 => ⟨hT w1 r1 h4, ?_⟩
  exact ra1 e1 w1 h3 fun io2 H2 vs t2 w2 r2 _ => ⟨io2, S2, x, ds, d, S', w2, r1.mono t2, r2, h4, fun io3 H3 v3 t3 w3 r3 => q io3 H3 v3 ((t1.trans t2).trans t3) w3 r3⟩
theorem ty_str {k : MF} (hk : k = .join) {io : Pl} {H : Hp} {S : Sto} {v : V} {d : D} {ds : List D} {r : D} {S2 S' : Sto} (w : Wd X.K io H S) (rv : Rep X.K io H v d) (h : meD k d ds S2 = .ok r S') : tyV X.K "str" v H := by
  subst hk
  obtain ⟨x, rfl, h⟩ := oneR_eq h
  obtain ⟨h, _⟩ := R.of_eq_ok h
  cases rv with
  | str _ => exact rfl
  | _ => cases h
theorem ty_lst {k : MF} (hk : k = .append ∨ k = .extend ∨ k = .popAt ∨ k = .popLast) {io : Pl} {H : Hp} {S : Sto} {v : V} {d : D} {ds : List D} {r : D} {S2 S' : Sto} (w : Wd X.K io H S) (rv : Rep X.K io H v d) (h : meD k d ds S2 = .ok r S') : tyV X.K "list" v H := by
  have go : ∀ n, d = .own n → tyV X.K "list" v H := fun n e => by
    subst e
    cases rv with
    | own e =>
      obtain ⟨ob, e1, q⟩ := w.at e
      cases ob with
      | dic _ _ => exact q.elim
      | lst ds =>
        obtain ⟨vs, e2, rs⟩ := q
        exact .inl ⟨rfl, _, .of e2⟩
  have go2 : ∀ {f : Nat → List D → R D}, atL S2 d f = .ok r S' → tyV X.K "list" v H := fun {f} h => by
    cases d with
    | own n => exact go n rfl
    | _ => cases h
  rcases hk with rfl | rfl | rfl | rfl
  · obtain ⟨x, rfl, h⟩ := oneR_eq h
    exact go2 h
  · obtain ⟨x, rfl, h⟩ := oneR_eq h
    exact go2 h
  · obtain ⟨x, rfl, h⟩ := oneR_eq h
    cases x with
    | int i => exact go2 h
    | _ => cases h
  · obtain ⟨_, h⟩ := zero_eq h
    exact go2 h
theorem few1 {env : PySem.Env} (hp : plainB a = true) : ((backTo pos (starEach [a] env)).all (fun x => !x.1) && (backToKw pos (keywordEach [] env)).all (fun x => x.1.isSome)
      && decide (([a] : List Expr).length + ([] : List Keyword).length + (if ([] : List Keyword).isEmpty then 0 else 1) < 30)) = true := by
  rw [star_plain hp]
  rfl
def MF.name : MF → Str
  | .join => "join"
  | .append => "append"
  | .extend => "extend"
  | .popLast => "pop"
  | .popAt => "pop"
  | .count => "count"
  | .index => "index"
  | .find2 => "find"
  | .startswith => "startswith"
  | .endswith => "endswith"
  | .partition => "partition"
  | .get1 => "get"
  | .get2 => "get"
theorem r_me1 (k : MF) (hk : k = .join ∨ k = .append ∨ k = .extend ∨ k = .popAt) (ho : PE X o (rdE X.K (evE c O))) (ha : PA X [a] (rdA X.K (evEs c Es_))) (hp : plainB a = true) (hb : baseB o = true) (hl : (ap.endLine == pos.line) = true) :
    PE X (.Call (.Attribute o k.name ap) [a] [] pos) (rdE X.K (evE c (.me k O Es_))) := by
  rcases hk with rfl | rfl | rfl | rfl
  · exact PE.imp (pe_bm PySem.F.plainAttrs_str PySem.F.slot_str_join PySem.F.type_str_join mt_join_d ho ha (base_plain hb) (few1 hp) hl (star_plain hp) (star_any rfl)) fun σ H Q h => me_rd (fun w r h => ty_str rfl w r h) h
  · exact PE.imp (pe_bm PySem.F.plainAttrs_list PySem.F.slot_list_append PySem.F.type_list_append mt_append_d ho ha (base_plain hb) (few1 hp) hl (star_plain hp) (star_any rfl)) fun σ H Q h => me_rd (fun w r h => ty_lst (.inl rfl) w r h) h
  · exact PE.imp (pe_bm PySem.F.plainAttrs_list PySem.F.slot_list_extend PySem.F.type_list_extend mt_extend_d ho ha (base_plain hb) (few1 hp) hl (star_plain hp) (star_any rfl)) fun σ H Q h => me_rd (fun w r h => ty_lst (.inr (.inl rfl)) w r h) h
  · exact PE.imp (pe_bm PySem.F.plainAttrs_list PySem.F.slot_list_pop PySem.F.type_list_pop mt_popAt_d ho ha (base_plain hb) (few1 hp) hl (star_plain hp) (star_any rfl)) fun σ H Q h => me_rd (fun w r h => ty_lst (.inr (.inr (.inl rfl))) w r h) h
theorem r_popLast (ho : PE X o (rdE X.K (evE c O))) (hb : baseB o = true) (hl : (ap.endLine == pos.line) = true) :
    PE X (.Call (.Attribute o "pop" ap) [] [] pos) (rdE X.K (evE c (.me .popLast O .nil))) := by
  refine PE.imp (pe_bm0 PySem.F.plainAttrs_list PySem.F.slot_list_pop PySem.F.type_list_pop mt_popLast_d ho (base_plain hb) hl) fun σ H Q ⟨e, io, S, d, S', hE, hW, hm, q⟩ => ?_
  simp only [evE, evEs] at hm
  obtain ⟨x, S1, h1, h2⟩ := R.bind_eq_ok hm
  have h2 : meD .popLast x [] S1 = .ok d S' := h2
  exact rd1 hE hW h1 fun io1 H1 v t1 w1 r1 e1 => ⟨ty_lst (.inr (.inr (.inr rfl))) w1 r1 h2, io1, S1, x, [], d, S', w1, r1, .nil, h2, fun io3 H3 v3 t3 w3 r3 => q io3 H3 v3 (t1.trans t3) w3 r3⟩
end
end Ev

/-! EvRules3: calls of own functions; targets; what is walked; comprehensions -/
namespace Ev
open PySem PySem.Spec PyProof.Rows L2

/-- what a def promises: what the evaluator's function gives -/
def spF (K : PySem.W.Frag) (F : List D → Sto → R D) : Sp := fun vs H Q _ => ∃ io S ds r S', RepL K io H vs ds ∧ Wd K io H S ∧ F ds S = .ok r S' ∧ Aft K io H S' r Q
/-- an own function by its name -/
structure CallOk (X : Cx) (n : Nat) (x : Str) (ps : List Str) (F : List D → Sto → R D) (f : Addr) (fd : FuncData) : Prop where
  gl : X.mg x = some (.ref f)
  kp : PySem.W.keepIn X.K (.ref f) = true
  bd : Binds X.K fd ps []
  ok : FnOk X.prog X.w X.K X.mg X.base CX0 n f fd ps (spF X.K F)
/-- how a call with na arguments and the keywords ks binds -/
def KwOk (K : PySem.W.Frag) (fd : FuncData) (ps : List Str) (na : Nat) (ks : List Str) (perm : List Nat) : Prop :=
  perm.length = ps.length ∧ ∀ (s : Shared) (us ws zs : List Value), K.In s.heap → us.length = na → ws.length = ks.length → pick (us ++ ws) perm = some zs → BindsTo s fd ⟨us, ks.zip ws⟩ (ps.zip zs)
theorem pick_length {α : Type} {l : List α} : ∀ {p : List Nat} {r : List α}, pick l p = some r → r.length = p.length
  | [], r, h => by cases h; rfl
  | k :: p, r, h => by
    unfold pick at h
    split at h
    · rename_i x xs h1 h2
      cases h
      rw [List.length_cons, List.length_cons, pick_length h2]
    · cases h
theorem RepL.pick {K : PySem.W.Frag} {io : Pl} {H : Hp} {vs : List V} {ds : List D} (r : RepL K io H vs ds) : ∀ {p : List Nat} {es : List D}, pick ds p = some es → ∃ ws, Ev.pick vs p = some ws ∧ RepL K io H ws es
  | [], es, h => by cases h; exact ⟨[], rfl, .nil⟩
  | k :: p, es, h => by
    unfold Ev.pick at h
    split at h
    · rename_i x xs h1 h2
      cases h
      obtain ⟨ws, e, r2⟩ := r.pick h2
      obtain ⟨v, ev, rv⟩ := r.get h1
      exact ⟨v :: ws, by unfold Ev.pick; rw [ev, e], .cons rv r2⟩
    · cases h
theorem vals_pick {vs : List V} {us : List Value} (r : Vals vs us) : ∀ {p : List Nat} {ws : List V}, pick vs p = some ws → ∃ zs, pick us p = some zs ∧ Vals ws zs
  | [], ws, h => by cases h; exact ⟨[], rfl, .nil⟩
  | k :: p, ws, h => by
    unfold Ev.pick at h
    split at h
    · rename_i x xs h1 h2
      cases h
      obtain ⟨zs, e, r2⟩ := vals_pick r h2
      obtain ⟨u, eu, ru⟩ := r.get h1
      exact ⟨u :: zs, by unfold Ev.pick; rw [eu, e], .cons ru r2⟩
    · cases h

section
variable {X : Cx} {c : Cf} {a b : Expr} {A B : E} {pos p p2 : Pos} {es : List Expr} {Es_ Ks_ : Es} {n f : Nat} {x : Str} {ps : List Str} {fa : Addr} {fd : FuncData}
theorem call_rd {σ : L2.St} {H : Hp} {Q : VK} (h : rdE X.K (evE c (.call f Es_)) σ H Q) : tCall (spF X.K (c.call f)) [] E0 (rdA X.K (evEs c Es_)) σ H Q := by
  obtain ⟨e, io, S, d, S', hE, hW, hm, q⟩ := h
  simp only [evE] at hm
  obtain ⟨ds, S1, h1, h2⟩ := R.bind_eq_ok hm
  refine ra1 hE hW h1 fun io1 H1 vs t w r _ => ?_
  rw [List.append_nil]
  exact ⟨io1, S1, ds, d, S', r, w, h2, fun io2 H2 v t2 w2 r2 => q io2 H2 v (t.trans t2) w2 r2⟩
theorem r_call (hr : Room n X.A) (hg : Gl X x) (C : CallOk X n x ps (c.call f) fa fd) (ha : PA X (a :: es) (rdA X.K (evEs c Es_))) (hp : plainB a = true) (hps : es.all plainB = true) (hd : (x == ("__debug__" : Str)) = false) :
    PE X (.Call (.Name x p) (a :: es) [] pos) (rdE X.K (evE c (.call f Es_))) :=
  PE.imp (pe_call C.ok hr hg C.gl C.kp C.bd .nil pass0 ha hd (star_plain hp) (star_any hps)) fun _ _ _ h => call_rd h
theorem r_call0 (hr : Room n X.A) (hg : Gl X x) (C : CallOk X n x ps (c.call f) fa fd) (hd : (x == ("__debug__" : Str)) = false) :
    PE X (.Call (.Name x p) [] [] pos) (rdE X.K (evE c (.call f .nil))) :=
  PE.imp (pe_call0 C.ok hr hg C.gl C.kp C.bd .nil pass0 hd) fun σ H Q ⟨e, io, S, d, S', hE, hW, hm, q⟩ => by
    simp only [evE, evEs] at hm
    exact ⟨io, S, [], d, S', .nil, hW, hm, q⟩
/-- keywords -/
theorem r_knil : PK X [] (rdA X.K (evEs c .nil)) := PK.imp pk_nil fun σ H Q ⟨e, io, S, d, S', hE, hW, hm, q⟩ => by
  simp only [evEs] at hm
  cases hm
  exact q io H _ Tr.refl hW .nil
theorem r_kcons {nm : Option Str} {kp : Pos} {kws : List Keyword} (ha : PE X a (rdE X.K (evE c A))) (hr : PK X kws (rdA X.K (evEs c Ks_))) : PK X (⟨nm, a, kp⟩ :: kws) (rdA X.K (evEs c (.cons A Ks_))) := by
  refine PK.imp (pk_cons ha hr) fun σ H Q ⟨e, io, S, d, S', hE, hW, hm, q⟩ => ?_
  simp only [evEs] at hm
  obtain ⟨x, S1, h1, h2⟩ := R.bind_eq_ok hm
  obtain ⟨xs, S2, h3, h4⟩ := R.bind_eq_ok h2
  cases h4
  exact rd1 hE hW h1 fun io1 H1 v t w r e1 => ⟨e, io1, S1, xs, _, e1, w, h3, fun io2 H2 vs t2 w2 r2 => q io2 H2 _ (t.trans t2) w2 (.cons (r.mono t2) r2)⟩
theorem kw_names {kws : List Keyword} {env : PySem.Env} {pos : Pos} : (backToKw pos (keywordEach kws env)).filterMap (·.1) = kws.filterMap (·.arg) := by
  induction kws with
  | nil => rfl
  | cons k kws ih =>
    obtain ⟨nm, e, kp⟩ := k
    unfold backToKw at ih ⊢
    show List.filterMap _ (List.map _ ((nm, eval e env) :: keywordEach kws env)) = _
    rw [List.map_cons, List.filterMap_cons, List.filterMap_cons, ih]
theorem kw_some {kws : List Keyword} {env : PySem.Env} {pos : Pos} (h : kws.all (·.arg.isSome) = true) : (backToKw pos (keywordEach kws env)).all (·.1.isSome) = true := by
  induction kws with
  | nil => rfl
  | cons k kws ih =>
    obtain ⟨nm, e, kp⟩ := k
    rw [List.all_cons, Bool.and_eq_true] at h
    have ih := ih h.2
    unfold backToKw at ih ⊢
    show List.all (List.map _ ((nm, eval e env) :: keywordEach kws env)) _ = _
    rw [List.map_cons, List.all_cons, ih, Bool.and_true]
    exact h.1
theorem kw_none {kws : List Keyword} {env : PySem.Env} {pos : Pos} (h : kws.all (·.arg.isSome) = true) : (backToKw pos (keywordEach kws env)).any (·.1.isNone) = false := by
  have g := kw_some (env := env) (pos := pos) h
  rw [List.any_eq_false]
  intro x hx
  have := List.all_eq_true.mp g x hx
  cases e : x.1 with
  | none => rw [e] at this; cases this
  | some _ => simp
theorem kw_run {pins : List (Addr × Obj)} {s : Shared} {σ : L2.St} {H : Hp} {Q : VK} {us ws : List Value} {vs zs : List V} {ks : List Str} {perm : List Nat} {io : Pl} {S : Sto} {ds es ds' : List D} {r : D} {S' : Sto} (C : CallOk X n x ps (c.call f) fa fd) (hk : KwOk X.K fd ps us.length ks perm) (hr : Room n X.A)
    (I : Inv X pins σ H s) (rv : Vals vs us) (rz : Vals zs ws) (hl : ws.length = ks.length) (w : Wd X.K io H S) (r1 : RepL X.K io H vs ds) (r2 : RepL X.K io H zs es) (hp : pick (ds ++ es) perm = some ds') (hc : c.call f ds' S = .ok r S') (q : Aft X.K io H S' r Q) :
    wpAny (model X.prog X.w) X.A (call (.ref fa) us (ks.zip ws)) (EP X pins σ Q) X.xe s := by
  obtain ⟨ys, e1, r3⟩ := (r1.append r2).pick hp
  obtain ⟨zz, e2, r4⟩ := vals_pick (rv.append rz) e1
  refine wpAny_call (codeAny_mono (C.ok.run X.A X.stack s H ⟨us, ks.zip ws⟩ zz ys Q E0 hr I.env0 (hk.2 s us ws zz I.kIn rfl hl e2) r4 ⟨io, S, ds', r, S', r3, w, hc, q⟩) fun rr s' hq => ?_)
  cases rr with
  | error e => exact hq.elim
  | ok fl =>
    cases fl with
    | ret u => exact I.after hq
    | next => exact False.elim hq
    | brk => exact False.elim hq
    | cont => exact False.elim hq
theorem r_callk {kws : List Keyword} {perm : List Nat} (hr : Room n X.A) (hg : Gl X x) (C : CallOk X n x ps (c.call f) fa fd) (hk : KwOk X.K fd ps (a :: es).length (kws.filterMap (·.arg)) perm) (hs : kws.all (·.arg.isSome) = true) (hlen : Es_.length = (a :: es).length) (hlk : Ks_.length = (kws.filterMap (·.arg)).length)
    (ha : PA X (a :: es) (rdA X.K (evEs c Es_))) (hkw : PK X kws (rdA X.K (evEs c Ks_))) (hp : plainB a = true) (hps : es.all plainB = true) (hd : (x == ("__debug__" : Str)) = false) (le : ∀ (e : Env) (S S' : Sto) (ds : List D), evEs c Es_ e S = .ok ds S' → ds.length = Es_.length) (lk : ∀ (e : Env) (S S' : Sto) (ds : List D), evEs c Ks_ e S = .ok ds S' → ds.length = Ks_.length) :
    PE X (.Call (.Name x p) (a :: es) kws pos) (rdE X.K (evE c (.callk f Es_ Ks_ perm))) := by
  refine ⟨fun pins s σ H Q I ⟨e, io, S, d, S', hE, hW, hm, q⟩ => ?_⟩
  simp only [evE] at hm
  obtain ⟨ds, S1, h1, h2⟩ := R.bind_eq_ok hm
  obtain ⟨es', S2, h3, h4⟩ := R.bind_eq_ok h2
  split at h4
  · rename_i ds' hpk
    refine wpAny_Call_Name_kw (ld_glob I hg C.gl ?_ hd)
    have hpl : ((backTo pos (starEach (a :: es) X.env)).any (·.1) || (backToKw pos (keywordEach kws X.env)).any (·.1.isNone)) = false := by
      rw [kw_none hs, Bool.or_false]
      exact star_any (by rw [List.all_cons, hp, hps]; rfl)
    refine PySem.W.callWith_KW (h₀ := X.base) I.ok.mod.kin C.kp (kw_some hs) (thn (ha.run pos pins s σ H _ I (ra1 (Q := fun vs H1 => ∃ io1, Tr io H io1 H1 ∧ Wd X.K io1 H1 S1 ∧ RepL X.K io1 H1 vs ds ∧ EnvR X.K io1 H1 σ e) hE hW h1 fun io1 H1 vs t w r e1 => ⟨io1, t, w, r, e1⟩)) fun us s1 ⟨vs, H1, I1, r, io1, t1, w1, r1, e1⟩ => ?_) hpl (star_plain hp)
    refine thn (hkw.run pos pins s1 σ H1 _ I1 (ra1 (Q := fun vs H2 => ∃ io2, Tr io1 H1 io2 H2 ∧ Wd X.K io2 H2 S2 ∧ RepL X.K io2 H2 vs es') e1 w1 h3 fun io2 H2 vs t w r _ => ⟨io2, t, w, r⟩)) fun ws s2 ⟨zs, H2, I2, rz, io2, t2, w2, r2⟩ => ⟨I2.kIn, ?_⟩
    rw [kw_names]
    have l1 : us.length = (a :: es).length := by rw [← r.length, r1.length, le _ _ _ _ h1, hlen]
    have l2 : ws.length = (kws.filterMap (·.arg)).length := by rw [← rz.length, r2.length, lk _ _ _ _ h3, hlk]
    have go := kw_run (us := us) C (by rw [l1]; exact hk) hr I2 r rz l2 w2 (r1.mono t2) r2 hpk h4 fun io3 H3 v t3 w3 r3 => q io3 H3 v ((t1.trans t2).trans t3) w3 r3
    exact go
  · cases h4
theorem r_callk0 {kws : List Keyword} {perm : List Nat} (hr : Room n X.A) (hg : Gl X x) (C : CallOk X n x ps (c.call f) fa fd) (hk : KwOk X.K fd ps 0 (kws.filterMap (·.arg)) perm) (hs : kws.all (·.arg.isSome) = true) (hlk : Ks_.length = (kws.filterMap (·.arg)).length)
    (hkw : PK X kws (rdA X.K (evEs c Ks_))) (hd : (x == ("__debug__" : Str)) = false) (lk : ∀ (e : Env) (S S' : Sto) (ds : List D), evEs c Ks_ e S = .ok ds S' → ds.length = Ks_.length) :
    PE X (.Call (.Name x p) [] kws pos) (rdE X.K (evE c (.callk f .nil Ks_ perm))) := by
  refine ⟨fun pins s σ H Q I ⟨e, io, S, d, S', hE, hW, hm, q⟩ => ?_⟩
  simp only [evE, evEs, R.bind_ok] at hm
  obtain ⟨es', S2, h3, h4⟩ := R.bind_eq_ok hm
  split at h4
  · rename_i ds' hpk
    refine wpAny_Call_Name_kw (ld_glob I hg C.gl ?_ hd)
    have hpl : ((backTo pos (starEach [] X.env)).any (·.1) || (backToKw pos (keywordEach kws X.env)).any (·.1.isNone)) = false := by
      rw [kw_none hs, Bool.or_false]
      rfl
    refine PySem.W.callWith_KW0 (h₀ := X.base) I.ok.mod.kin C.kp (kw_some hs) (thn (hkw.run pos pins s σ H _ I (ra1 (Q := fun vs H2 => ∃ io2, Tr io H io2 H2 ∧ Wd X.K io2 H2 S2 ∧ RepL X.K io2 H2 vs es') hE hW h3 fun io2 H2 vs t w r _ => ⟨io2, t, w, r⟩)) fun ws s2 ⟨zs, H2, I2, rz, io2, t2, w2, r2⟩ => ⟨I2.kIn, ?_⟩) hpl
    rw [kw_names]
    have l2 : ws.length = (kws.filterMap (·.arg)).length := by rw [← rz.length, r2.length, lk _ _ _ _ h3, hlk]
    exact kw_run (us := []) C hk hr I2 .nil rz l2 w2 .nil r2 hpk h4 fun io3 H3 v t3 w3 r3 => q io3 H3 v (t2.trans t3) w3 r3
  · cases h4

/-! ### targets -/
mutual
def Tg.slots : Tg → List Nat
  | .name i => [i]
  | .tup ts => Tgs.slots ts
  | .sub _ _ => []
def Tgs.slots : Tgs → List Nat
  | .nil => []
  | .cons t r => t.slots ++ Tgs.slots r
end
theorem r_gname {i : Nat} {y : Str} (hN : X.N.Nodup) (hi : X.N[i]? = some y) (hx : Loc X.env.scope y) (hf : X.fn y = true ∨ X.env.scope.names.lookup y = some .local) : PG X (.Name y pos) (rdG X.K (Tg.name i).slots (fun d e S => evG c (.name i) d e S)) := by
  refine PG.imp (pg_name hN hi hx hf) fun v σ H Q ⟨e, io, S, d, e', S', hE, hW, r, hm, q⟩ => ?_
  simp only [evG] at hm
  split at hm
  · cases hm
    refine q io H _ Tr.refl hW (hE.set r i) ⟨List.length_set, fun j hj => ?_⟩
    exact List.getElem?_set_ne fun z => hj (by rw [← z]; exact List.mem_singleton.mpr rfl)
  · cases hm
variable {T : Tg} {Ts : Tgs}
theorem r_gnil : PGs X [] (rdGs X.K Tgs.nil.slots (fun ds e S => evGs c .nil ds e S)) := by
  refine PGs.imp pgs_nil fun vs σ H Q ⟨e, io, S, ds, e', S', hE, hW, r, hm, q⟩ => ?_
  cases ds with
  | nil =>
    cases r
    simp only [evGs] at hm
    cases hm
    exact ⟨rfl, q io H _ Tr.refl hW hE Agree.refl⟩
  | cons _ _ => simp only [evGs] at hm; cases hm
theorem r_gcons (h1 : PG X a (rdG X.K T.slots (fun d e S => evG c T d e S))) (h2 : PGs X es (rdGs X.K Ts.slots (fun ds e S => evGs c Ts ds e S))) (hp : plainB a = true) : PGs X (a :: es) (rdGs X.K (Tgs.cons T Ts).slots (fun ds e S => evGs c (.cons T Ts) ds e S)) := by
  refine PGs.imp (pgs_cons h1 h2 (asg_plain hp)) fun vs σ H Q ⟨e, io, S, ds, e', S', hE, hW, r, hm, q⟩ => ?_
  cases ds with
  | nil => simp only [evGs] at hm; cases hm
  | cons d ds =>
    cases r with
    | cons rv rr =>
      simp only [evGs] at hm
      obtain ⟨e1, S1, h3, h4⟩ := R.bind_eq_ok hm
      refine ⟨_, _, rfl, e, io, S, d, e1, S1, hE, hW, rv, h3, fun io1 H1 σ1 t1 w1 g1 a1 => ?_⟩
      exact ⟨e1, io1, S1, ds, e', S', g1, w1, rr.mono t1, h4, fun io2 H2 σ2 t2 w2 g2 a2 => q io2 H2 σ2 (t1.trans t2) w2 g2 (by unfold Tgs.slots; exact a1.trans a2)⟩
/-- (a, b, ..) = a tuple; a list -/
def gSeq (K : PySem.W.Frag) (n : Nat) (t : TGs) : TG := fun v σ H Q => ∃ a xs, v = .ref a ∧ (SqL K H a xs ∨ SqT K H a xs) ∧ xs.length = n ∧ t xs σ H Q
theorem pg_seq {k : Nat} {t : TGs} {n : Nat} (hc : X.calm = true) (h : PGs X es t) (hn : (assignEach es X.env).length = n) (hst : (assignEach es X.env).findIdx? (·.1) = none) : PG X (.Tuple es k pos) (gSeq X.K n t) := by
  refine ⟨fun pins s σ H v u Q I r ⟨a, xs, e, hq, hl, ht⟩ => ?_⟩
  rcases hq with hq | hq
  · exact (pg_unl hc h hn hst).run pins s σ H v u Q I r ⟨a, xs, e, hq, hl, ht⟩
  · exact (pg_tup hc h hn hst).run pins s σ H v u Q I r ⟨a, xs, e, hq, hl, ht⟩
def Tgs.length : Tgs → Nat
  | .nil => 0
  | .cons _ r => r.length + 1
theorem evGs_len : ∀ {Ts : Tgs} {ds : List D} {e e' : Env} {S S' : Sto}, evGs c Ts ds e S = .ok e' S' → ds.length = Ts.length
  | .nil, [], _, _, _, _, _ => rfl
  | .nil, _ :: _, _, _, _, _, h => by simp only [evGs] at h; cases h
  | .cons _ _, [], _, _, _, _, h => by simp only [evGs] at h; cases h
  | .cons t r, d :: ds, _, _, _, _, h => by
    simp only [evGs] at h
    obtain ⟨e1, S1, h3, h4⟩ := R.bind_eq_ok h
    show ds.length + 1 = r.length + 1
    rw [evGs_len h4]
theorem r_gtup {k : Nat} (hc : X.calm = true) (h : PGs X es (rdGs X.K Ts.slots (fun ds e S => evGs c Ts ds e S))) (hp : es.all plainB = true) (hl : es.length = Ts.length) : PG X (.Tuple es k pos) (rdG X.K (Tg.tup Ts).slots (fun d e S => evG c (.tup Ts) d e S)) := by
  refine PG.imp (pg_seq hc h asg_len (asg_find hp)) fun v σ H Q ⟨e, io, S, d, e', S', hE, hW, r, hm, q⟩ => ?_
  simp only [evG] at hm
  split at hm
  · rename_i xs hx
    obtain ⟨b, vs, rfl, hq, rs⟩ := items_at hW r hx
    exact ⟨b, vs, rfl, hq, by rw [rs.length, evGs_len hm, hl], e, io, S, xs, e', S', hE, hW, rs, hm, by unfold Tg.slots at q; exact q⟩
  · cases hm
theorem asg_sub {o i : Expr} {env : PySem.Env} (h : ixB i = true) : ∀ v, assign (.Subscript o i pos) env v = (do
      let ov ← holding [v] (eval o env)
      let iv ← holding [v, ov] (eval i env)
      standAt pos
      holding [v, ov, iv] (setItem ov iv v)
      release [v, ov, iv] []) := by
  intro v
  cases i <;> first | rfl | cases h
theorem r_gsub (ha : PE X a (rdE X.K (evE c A))) (hb : PE X b (rdE X.K (evE c B))) (hx : ixB b = true) : PG X (.Subscript a b pos) (rdG X.K (Tg.sub A B).slots (fun d e S => evG c (.sub A B) d e S)) := by
  refine PG.imp (pg_sub ha hb set_d (asg_sub hx)) fun v σ H Q ⟨e, io, S, d, e', S', hE, hW, r, hm, q⟩ => ?_
  simp only [evG] at hm
  obtain ⟨x, S1, h1, h2⟩ := R.bind_eq_ok hm
  obtain ⟨y, S2, h3, h4⟩ := R.bind_eq_ok h2
  obtain ⟨u, S3, h5, h6⟩ := R.bind_eq_ok h4
  cases h6
  refine rd1 hE hW h1 fun io1 H1 v1 t1 w1 r1 e1 => rd1 e1 w1 h3 fun io2 H2 v2 t2 w2 r2 e2 => ?_
  exact ⟨io2, S2, x, y, d, _, w2, r1.mono t2, r2, r.mono (t1.trans t2), h5, fun io3 H3 t3 w3 => q io3 H3 σ ((t1.trans t2).trans t3) w3 (e2.mono t3) Agree.refl⟩

/-! ### what is walked -/
theorem ok_at {t : It} {S : Sto} {n : Nat} {xs : List D} (h : t.ok S = true) (hm : (n, xs) ∈ t.at_) : S[n]? = some (.lst xs) := of_decide_eq_true (List.all_eq_true.mp h _ hm)
/-- a list or a tuple that is gone over, at each turn -/
inductive Src (K : PySem.W.Frag) (io : Pl) (H : Hp) (t : It) (a : Addr) (xs : List D) : Prop
  | tup {vs : List V} : SqT K H a vs → RepL K io H vs xs → Src K io H t a xs
  | lst {vs : List V} : H a = some (.lst vs) → io.No a → RepL K io H vs xs → Src K io H t a xs
  | sq {is : List Int} : (∃ o, H a = some (.frz o (.lst (is.map V.int)))) ∨ KL K a (is.map V.int) → xs = is.map D.int → Src K io H t a xs
  | own {n : Nat} : io.io[n]? = some a → (n, xs) ∈ t.at_ → Src K io H t a xs
def Src.isT {K : PySem.W.Frag} {io : Pl} {H : Hp} {t : It} {a : Addr} {xs : List D} (_ : Src K io H t a xs) (tup : Bool) : Prop := True
theorem src_list {K : PySem.W.Frag} {io io1 : Pl} {H H1 : Hp} {S1 : Sto} {t : It} {a : Addr} {xs : List D} (s : Src K io H t a xs) (tr : TrH io H io1 H1) (w : Wd K io1 H1 S1) (ok : t.ok S1 = true) :
    ∃ vs, (SqL K H1 a vs ∨ SqT K H1 a vs) ∧ RepL K io1 H1 vs xs := by
  cases s with
  | tup h r => exact ⟨_, .inr (tr.sqT h), r.monoH tr⟩
  | lst h n r => exact ⟨_, .inl (.of (tr.fz h n).1), r.monoH tr⟩
  | sq h e =>
    subst e
    refine ⟨_, .inl ?_, RepL.of_ints _⟩
    rcases h with ⟨o, h⟩ | h
    · exact .inl (.inr ⟨o, tr.keep _ _ h (.inr fun z => z)⟩)
    · exact .inr h
  | own h hm =>
    obtain ⟨ob, e1, q⟩ := w.at (tr.get h)
    rw [ok_at ok hm] at e1
    cases e1
    obtain ⟨vs, e2, rs⟩ := q
    exact ⟨vs, .inl (.of e2), rs⟩
/-- whether it is a tuple does not change -/
theorem src_kind {K : PySem.W.Frag} {io : Pl} {H : Hp} {t : It} {a : Addr} {xs : List D} (s : Src K io H t a xs) :
    (∀ {io1 H1 S1}, TrH io H io1 H1 → Wd K io1 H1 S1 → t.ok S1 = true → ∃ vs, SqL K H1 a vs ∧ RepL K io1 H1 vs xs) ∨ (∀ {io1 H1 S1}, TrH io H io1 H1 → Wd K io1 H1 S1 → t.ok S1 = true → ∃ vs, SqT K H1 a vs ∧ RepL K io1 H1 vs xs) := by
  cases s with
  | tup h r => exact .inr fun tr w ok => ⟨_, tr.sqT h, r.monoH tr⟩
  | lst h n r => exact .inl fun tr w ok => ⟨_, .of (tr.fz h n).1, r.monoH tr⟩
  | sq h e =>
    subst e
    refine .inl fun tr w ok => ⟨_, ?_, RepL.of_ints _⟩
    rcases h with ⟨o, h⟩ | h
    · exact .inl (.inr ⟨o, tr.keep _ _ h (.inr fun z => z)⟩)
    · exact .inr h
  | own h hm =>
    refine .inl fun tr w ok => ?_
    obtain ⟨ob, e1, q⟩ := w.at (tr.get h)
    rw [ok_at ok hm] at e1
    cases e1
    obtain ⟨vs, e2, rs⟩ := q
    exact ⟨vs, .of e2, rs⟩
theorem src_of {K : PySem.W.Frag} {io : Pl} {H : Hp} {S : Sto} {v : V} {d : D} {xs : List D} {t : It} (w : Wd K io H S) (r : Rep K io H v d) (h : itemsOf S d = some xs) (ha : ∀ p ∈ atOf S d, p ∈ t.at_) : ∃ a, v = .ref a ∧ Src K io H t a xs := by
  cases r with
  | non => cases h
  | bl b => cases h
  | int i => cases h
  | str x => cases h
  | tup hs rs => cases h; exact ⟨_, rfl, .tup hs rs⟩
  | lst hs n rs => cases h; exact ⟨_, rfl, .lst hs n rs⟩
  | sq hs => cases h; exact ⟨_, rfl, .sq hs rfl⟩
  | own e =>
    obtain ⟨ob, e1, q⟩ := w.at e
    simp only [itemsOf, e1] at h
    simp only [atOf, e1] at ha
    cases ob with
    | dic _ _ => exact q.elim
    | lst ds =>
      cases h
      exact ⟨_, rfl, .own e (ha _ (by simp))⟩
theorem jok_list {K : PySem.W.Frag} {io : Pl} {H : Hp} {t : It} {a : Addr} (s : ∀ {io1 H1 S1}, TrH io H io1 H1 → Wd K io1 H1 S1 → t.ok S1 = true → ∃ vs, SqL K H1 a vs ∧ RepL K io1 H1 vs t.xs) : JOk K (Itl K a) t io H := by
  intro i io1 H1 S1 tr w ok
  obtain ⟨vs, hs, rs⟩ := s tr w ok
  refine ⟨fun x hx => ?_, fun e => ⟨vs, hs, by rw [rs.length, e]; exact Nat.le_refl _⟩⟩
  obtain ⟨v, hv, rv⟩ := rs.get hx
  refine ⟨⟨vs, v, hs, hv⟩, fun v' H2 ⟨e, f⟩ => ?_⟩
  subst e
  have := f vs hs
  rw [hv] at this
  cases this
  exact ⟨Tr.refl, w, rv⟩
theorem jok_tup {K : PySem.W.Frag} {io : Pl} {H : Hp} {t : It} {a : Addr} (s : ∀ {io1 H1 S1}, TrH io H io1 H1 → Wd K io1 H1 S1 → t.ok S1 = true → ∃ vs, SqT K H1 a vs ∧ RepL K io1 H1 vs t.xs) : JOk K (Itt K a) t io H := by
  intro i io1 H1 S1 tr w ok
  obtain ⟨vs, hs, rs⟩ := s tr w ok
  refine ⟨fun x hx => ?_, fun e => ⟨vs, hs, by rw [rs.length, e]; exact Nat.le_refl _⟩⟩
  obtain ⟨v, hv, rv⟩ := rs.get hx
  refine ⟨⟨vs, v, hs, hv⟩, fun v' H2 ⟨e, f⟩ => ?_⟩
  subst e
  have := f vs hs
  rw [hv] at this
  cases this
  exact ⟨Tr.refl, w, rv⟩
theorem jok_str {K : PySem.W.Frag} {io : Pl} {H : Hp} {t : It} {x : Str} (h : t.xs = x.cps.toList.map fun c => .str ⟨#[c]⟩) : JOk K (Its x) t io H := by
  intro i io1 H1 S1 tr w ok
  rw [h]
  refine ⟨fun d hd => ?_, fun e => by
    rw [List.length_map, Array.length_toList] at e
    show x.cps.size ≤ i
    omega⟩
  rw [List.getElem?_map] at hd
  obtain ⟨c, hc, rfl⟩ := Option.map_eq_some_iff.mp hd
  have hi : i < x.cps.size := by
    have := (List.getElem?_eq_some_iff.mp hc).1
    rw [Array.length_toList] at this
    exact this
  refine ⟨hi, fun v H2 ⟨e, c', e2, e3⟩ => ?_⟩
  subst e e3
  rw [Array.getElem?_toList] at hc
  rw [hc] at e2
  cases e2
  exact ⟨Tr.refl, w, .str _⟩
/-- any of these -/
def iAny (K : PySem.W.Frag) (te : TE) : TI := fun σ H R => te σ H fun x H1 => (∃ b, x = .ref b ∧ (∃ xs, SqL K H1 b xs) ∧ R (Itl K b) H1) ∨ (∃ b, x = .ref b ∧ (∃ xs, SqT K H1 b xs) ∧ R (Itt K b) H1) ∨ ∃ z, x = .str z ∧ R (Its z) H1
theorem pi_any {tg : Expr} {te : TE} (he : PE X a te) : PI X tg a (iAny X.K te) := by
  refine ⟨fun pins s σ H R I h => ?_⟩
  refine thn (he.run pins s σ H _ I h) fun v s1 ⟨x, H1, I1, r1, q⟩ => ?_
  rcases q with ⟨b, rfl, ⟨xs, hq⟩, q⟩ | ⟨b, rfl, ⟨xs, hq⟩, q⟩ | ⟨z, rfl, q⟩
  · cases r1
    obtain ⟨its, rv, p, hz⟩ := I1.list hq
    refine wpAny_pyIter_list p.isList ?_
    refine ⟨s1.heap.objs.size, [s1.heap.objs.size], _, _, H1, rfl, I1.kept (t' := s1.toks) fun b o e => Heap.get?_push_of_some _ e, turn_list b _, ⟨_, Heap.get?_push_size _ rfl, rfl, rfl⟩, fun b hb => ?_, q⟩
    have e : b = s1.heap.objs.size := by simpa using hb
    subst e
    exact I1.fpOk (Nat.le_refl _) (I1.hok.fresh (Nat.le_refl _))
  · cases r1
    obtain ⟨its, rv, p, hz⟩ := I1.tuple hq
    refine wpAny_pyIter_tuple (show s1.heap.IsTuple b its.toArray from p) ?_
    refine ⟨s1.heap.objs.size, [s1.heap.objs.size], _, _, H1, rfl, I1.kept (t' := s1.toks) fun b o e => Heap.get?_push_of_some _ e, turn_tuple b _, ⟨_, Heap.get?_push_size _ rfl, rfl, rfl⟩, fun b hb => ?_, q⟩
    have e : b = s1.heap.objs.size := by simpa using hb
    subst e
    exact I1.fpOk (Nat.le_refl _) (I1.hok.fresh (Nat.le_refl _))
  · obtain ⟨t, rfl⟩ := r1
    cases ha : z.cps.all (· < 128)
    · exact wpAny_pyIter_wide ha (pi_one (tk := s1.toks) I1 _ (turn_str _ z t "str_iterator" (.inr rfl)) ⟨_, Heap.get?_push_size _ rfl, rfl, rfl⟩ q)
    · exact wpAny_pyIter_ascii ha (pi_one (tk := s1.toks) I1 _ (turn_str _ z t "str_ascii_iterator" (.inl rfl)) ⟨_, Heap.get?_push_size _ rfl, rfl, rfl⟩ q)
theorem iter_items {S : Sto} {d : D} {t : It} (h : iterOf S d = some t) : (∃ z, d = .str z ∧ t = ⟨z.cps.toList.map fun c => .str ⟨#[c]⟩, []⟩) ∨ (itemsOf S d = some t.xs ∧ t.at_ = atOf S d) := by
  cases d with
  | str z => cases h; exact .inl ⟨z, rfl, rfl⟩
  | tup xs => cases h; exact .inr ⟨rfl, rfl⟩
  | lst xs => cases h; exact .inr ⟨rfl, rfl⟩
  | sq xs => cases h; exact .inr ⟨rfl, rfl⟩
  | own n =>
    simp only [iterOf] at h
    split at h
    · rename_i xs e
      cases h
      exact .inr ⟨by simp only [itemsOf, e], by simp only [atOf, e]⟩
    · cases h
  | _ => cases h
theorem r_ival {tg : Expr} (ha : PE X a (rdE X.K (evE c A))) : PI X tg a (rdI X.K (evI c (.val A))) := by
  refine PI.imp (pi_any ha) fun σ H R' ⟨e, io, S, t, S', hE, hW, hm, q⟩ => ?_
  simp only [evI] at hm
  obtain ⟨x, S1, h1, h2⟩ := R.bind_eq_ok hm
  obtain ⟨h3, e3⟩ := R.of_eq_ok h2
  subst e3
  refine rd1 hE hW h1 fun io1 H1 v t1 w1 r1 _ => ?_
  rcases iter_items h3 with ⟨z, rfl, rfl⟩ | ⟨h4, h5⟩
  · cases r1
    exact .inr (.inr ⟨z, rfl, q io1 H1 _ t1 w1 (jok_str rfl)⟩)
  · obtain ⟨b, rfl, s⟩ := src_of (t := t) w1 r1 h4 fun p hp => by rw [h5]; exact hp
    have okt : t.ok S' = true := by
      unfold It.ok
      rw [h5]
      cases x with
      | own n =>
        simp only [atOf]
        split
        · rename_i xs e
          simp [e]
        · rfl
      | _ => rfl
    rcases src_kind s with k | k
    · obtain ⟨vs, hs, _⟩ := k Tr.refl.toH w1 okt
      exact .inl ⟨b, rfl, ⟨vs, hs⟩, q io1 H1 _ t1 w1 (jok_list k)⟩
    · obtain ⟨vs, hs, _⟩ := k Tr.refl.toH w1 okt
      exact .inr (.inl ⟨b, rfl, ⟨vs, hs⟩, q io1 H1 _ t1 w1 (jok_tup k)⟩)
theorem at_ok {S : Sto} {x : D} {t : It} (h : t.at_ = atOf S x) : t.ok S = true := by
  unfold It.ok
  rw [h]
  cases x with
  | own n =>
    simp only [atOf]
    split
    · rename_i xs e
      simp [e]
    · rfl
  | _ => rfl
theorem jok_range {K : PySem.W.Frag} {io : Pl} {H : Hp} {t : It} {lo : Int} {k : Nat} (h : t.xs = (List.range k).map fun (j : Nat) => .int (lo + (j : Nat))) : JOk K (Itr lo k) t io H := by
  intro i io1 H1 S1 tr w ok
  rw [h]
  refine ⟨fun d hd => ?_, fun e => by
    rw [List.length_map, List.length_range] at e
    show k ≤ i
    omega⟩
  rw [List.getElem?_map] at hd
  obtain ⟨j, hj, rfl⟩ := Option.map_eq_some_iff.mp hd
  obtain ⟨hi, e⟩ := List.getElem?_eq_some_iff.mp hj
  rw [List.getElem_range] at e
  rw [List.length_range] at hi
  subst e
  refine ⟨hi, fun v H2 ⟨e, e2⟩ => ?_⟩
  subst e e2
  exact ⟨Tr.refl, w, .int _⟩
theorem jok_down {K : PySem.W.Frag} {io : Pl} {H : Hp} {t : It} {lo : Int} {k : Nat} (h : t.xs = (List.range k).map fun (j : Nat) => .int (lo - (j : Nat))) : JOk K (Itc lo (-1) k) t io H := by
  intro i io1 H1 S1 tr w ok
  rw [h]
  refine ⟨fun d hd => ?_, fun e => by
    rw [List.length_map, List.length_range] at e
    show k ≤ i
    omega⟩
  rw [List.getElem?_map] at hd
  obtain ⟨j, hj, rfl⟩ := Option.map_eq_some_iff.mp hd
  obtain ⟨hi, e⟩ := List.getElem?_eq_some_iff.mp hj
  rw [List.getElem_range] at e
  rw [List.length_range] at hi
  subst e
  refine ⟨hi, fun v H2 ⟨e, e2⟩ => ?_⟩
  subst e e2
  rw [show lo + (i : Int) * (-1) = lo - i by omega]
  exact ⟨Tr.refl, w, .int _⟩
theorem rng_eq {es : List D} {xs : List D} (h : rngD es = some xs) : (∃ j, es = [.int j] ∧ (j ≤ LIM ∧ -(2 ^ 60) ≤ j) ∧ xs = rangeL 0 j) ∨ (∃ i j, es = [.int i, .int j] ∧ (j - i ≤ LIM ∧ -(2 ^ 60) ≤ i ∧ i ≤ 2 ^ 60 ∧ -(2 ^ 60) ≤ j ∧ j ≤ 2 ^ 60) ∧ xs = rangeL i j) ∨
    (∃ i j k, es = [.int i, .int j, .int k] ∧ (k = -1 ∧ -(2 ^ 60) ≤ i ∧ i ≤ 2 ^ 60 ∧ -(2 ^ 60) ≤ j ∧ j ≤ 2 ^ 60 ∧ i - j ≤ LIM) ∧ xs = (List.range (i - j).toNat).map fun (k : Nat) => .int (i - (k : Nat))) := by
  unfold rngD at h
  split at h
  · split at h
    · cases h; exact .inl ⟨_, rfl, by assumption, rfl⟩
    · cases h
  · split at h
    · cases h; exact .inr (.inl ⟨_, _, rfl, by assumption, rfl⟩)
    · cases h
  · split at h
    · cases h; exact .inr (.inr ⟨_, _, _, rfl, by assumption, rfl⟩)
    · cases h
  · cases h
theorem three_args {K : PySem.W.Frag} {io : Pl} {H : Hp} {vs : List V} {d e f : D} (h : RepL K io H vs [d, e, f]) : ∃ v u w, vs = [v, u, w] ∧ Rep K io H v d ∧ Rep K io H u e ∧ Rep K io H w f := by
  cases h with
  | cons h r =>
    cases r with
    | cons h' r =>
      cases r with
      | cons h'' r => cases r; exact ⟨_, _, _, rfl, h, h', h''⟩
theorem evEs_len : ∀ {Es_ : Es} {e : Env} {S S' : Sto} {ds : List D}, evEs c Es_ e S = .ok ds S' → ds.length = Es_.length
  | .nil, _, _, _, _, h => by
    simp only [evEs] at h
    cases h
    rfl
  | .cons a r, _, _, _, _, h => by
    simp only [evEs] at h
    obtain ⟨x, S1, h1, h2⟩ := R.bind_eq_ok h
    obtain ⟨xs, S2, h3, h4⟩ := R.bind_eq_ok h2
    cases h4
    show xs.length + 1 = r.length + 1
    rw [evEs_len h3]
variable {d : Expr}
theorem r_rng1 {tg : Expr} (hg : Gl X "range") (hm : X.mg "range" = none) (ha : PA X [a] (rdA X.K (evEs c Es_))) (hp : plainB a = true) (hl : Es_.length = 1) : PI X tg (.Call (.Name "range" p) [a] [] pos) (rdI X.K (evI c (.rng Es_))) := by
  refine PI.imp (pi_range1 hg hm ha (star_plain hp)) fun σ H R' ⟨e, io, S, t, S', hE, hW, hm, q⟩ => ?_
  simp only [evI] at hm
  obtain ⟨ds, S1, h1, h2⟩ := R.bind_eq_ok hm
  obtain ⟨h3, e3⟩ := R.of_eq_ok h2
  subst e3
  obtain ⟨xs, h4, rfl⟩ := Option.map_eq_some_iff.mp h3
  have l1 := evEs_len h1
  refine ra1 hE hW h1 fun io1 H1 vs t1 w1 r1 _ => ?_
  rcases rng_eq h4 with ⟨j, rfl, hj, rfl⟩ | ⟨i, j, rfl, _⟩ | ⟨i, j, k, rfl, _⟩
  · obtain ⟨v, rfl, rv⟩ := one_arg r1
    cases rv
    refine ⟨j, rfl, by omega, by have : LIM = 16777216 := rfl; omega, q io1 H1 _ t1 w1 (jok_range ?_)⟩
    show rangeL 0 j = _
    unfold rangeL
    rw [Int.sub_zero]
  · rw [hl] at l1; cases l1
  · rw [hl] at l1; cases l1
theorem r_rng2 {tg : Expr} (hg : Gl X "range") (hm : X.mg "range" = none) (ha : PA X [a, b] (rdA X.K (evEs c Es_))) (hp : plainB a = true) (hp2 : plainB b = true) (hl : Es_.length = 2) : PI X tg (.Call (.Name "range" p) [a, b] [] pos) (rdI X.K (evI c (.rng Es_))) := by
  refine PI.imp (pi_range2 hg hm ha (by rw [star_plain hp, star_plain hp2]; rfl) (by rw [star_plain hp2]; rfl)) fun σ H R' ⟨e, io, S, t, S', hE, hW, hm, q⟩ => ?_
  simp only [evI] at hm
  obtain ⟨ds, S1, h1, h2⟩ := R.bind_eq_ok hm
  obtain ⟨h3, e3⟩ := R.of_eq_ok h2
  subst e3
  obtain ⟨xs, h4, rfl⟩ := Option.map_eq_some_iff.mp h3
  have l1 := evEs_len h1
  refine ra1 hE hW h1 fun io1 H1 vs t1 w1 r1 _ => ?_
  rcases rng_eq h4 with ⟨j, rfl, hj, rfl⟩ | ⟨i, j, rfl, hj, rfl⟩ | ⟨i, j, k, rfl, _⟩
  · rw [hl] at l1; cases l1
  · obtain ⟨v, u, rfl, rv, ru⟩ := two_args r1
    cases rv
    cases ru
    exact ⟨i, j, rfl, by omega, q io1 H1 _ t1 w1 (jok_range rfl)⟩
  · rw [hl] at l1; cases l1
theorem r_rng3 {tg : Expr} (hg : Gl X "range") (hm : X.mg "range" = none) (ha : PA X [a, b, d] (rdA X.K (evEs c Es_))) (hp : plainB a = true) (hp2 : plainB b = true) (hp3 : plainB d = true) (hl : Es_.length = 3) : PI X tg (.Call (.Name "range" p) [a, b, d] [] pos) (rdI X.K (evI c (.rng Es_))) := by
  refine PI.imp (pi_range3 hg hm ha (by rw [star_plain hp, star_plain hp2, star_plain hp3]) (by rw [star_plain hp2, star_plain hp3]; rfl)) fun σ H R' ⟨e, io, S, t, S', hE, hW, hm, q⟩ => ?_
  simp only [evI] at hm
  obtain ⟨ds, S1, h1, h2⟩ := R.bind_eq_ok hm
  obtain ⟨h3, e3⟩ := R.of_eq_ok h2
  subst e3
  obtain ⟨xs, h4, rfl⟩ := Option.map_eq_some_iff.mp h3
  have l1 := evEs_len h1
  refine ra1 hE hW h1 fun io1 H1 vs t1 w1 r1 _ => ?_
  rcases rng_eq h4 with ⟨j, rfl, hj, rfl⟩ | ⟨i, j, rfl, hj, rfl⟩ | ⟨i, j, k, rfl, hj, rfl⟩
  · rw [hl] at l1; cases l1
  · rw [hl] at l1; cases l1
  · obtain ⟨v, u, w, rfl, rv, ru, rw'⟩ := three_args r1
    cases rv
    cases ru
    cases rw'
    obtain ⟨rfl, hj⟩ := hj
    exact ⟨i, j, -1, (i - j).toNat, rfl, RgC.neg (by omega) (by omega) (by omega) (by omega), q io1 H1 _ t1 w1 (jok_down rfl)⟩
/-! ### enumerate, zip -/
theorem jok_enum {K : PySem.W.Frag} {io : Pl} {H : Hp} {t : It} {xs : List D} {a : Addr} (ht : t.xs = xs.zipIdx.map fun p => .tup [.int (p.2 : Nat), p.1]) (s : ∀ {io1 H1 S1}, TrH io H io1 H1 → Wd K io1 H1 S1 → t.ok S1 = true → ∃ vs, SqL K H1 a vs ∧ RepL K io1 H1 vs xs) : JOk K (Ite K a) t io H := by
  intro i io1 H1 S1 tr w ok
  obtain ⟨vs, hs, rs⟩ := s tr w ok
  rw [ht]
  refine ⟨fun x hx => ?_, fun e => ⟨vs, hs, by rw [rs.length, e, List.length_map, List.length_zipIdx]; exact Nat.le_refl _⟩⟩
  rw [List.getElem?_map, List.getElem?_zipIdx] at hx
  obtain ⟨p, hp, rfl⟩ := Option.map_eq_some_iff.mp hx
  obtain ⟨y, hy, rfl⟩ := Option.map_eq_some_iff.mp hp
  obtain ⟨v, hv, rv⟩ := rs.get hy
  refine ⟨⟨vs, v, hs, hv⟩, fun v' H2 ⟨T, x, e1, hT, e2, f⟩ => ?_⟩
  subst e1 e2
  have := f vs hs
  rw [hv] at this
  cases this
  refine ⟨Tr.upd hT, w.upd hT, rep_tup w hT (.cons ?_ (.cons rv .nil))⟩
  rw [Nat.zero_add]
  exact .int _
theorem list_items {S : Sto} {d : D} {xs : List D} (h : listOf S d = some xs) : itemsOf S d = some xs ∧ isTupD d = false := by
  cases d with
  | tup _ => cases h
  | _ => exact ⟨h, rfl⟩
theorem src_notup {K : PySem.W.Frag} {io : Pl} {H : Hp} {S : Sto} {v : V} {d : D} {xs : List D} {t : It} (w : Wd K io H S) (r : Rep K io H v d) (h : itemsOf S d = some xs) (ha : ∀ p ∈ atOf S d, p ∈ t.at_) (nt : isTupD d = false) :
    ∃ a, v = .ref a ∧ (∀ {io1 H1 S1}, TrH io H io1 H1 → Wd K io1 H1 S1 → t.ok S1 = true → ∃ vs, SqL K H1 a vs ∧ RepL K io1 H1 vs xs) := by
  obtain ⟨a, rfl, s⟩ := src_of (t := t) w r h ha
  refine ⟨a, rfl, ?_⟩
  rcases src_kind s with k | k
  · exact k
  · cases r with
    | tup hs rs => cases nt
    | lst hs n rs => cases h; exact fun tr w ok => ⟨_, .of (tr.fz hs n).1, rs.monoH tr⟩
    | sq hs =>
      cases h
      refine fun tr w ok => ⟨_, ?_, RepL.of_ints _⟩
      rcases hs with ⟨o, h⟩ | h
      · exact .inl (.inr ⟨o, tr.keep _ _ h (.inr fun z => z)⟩)
      · exact .inr h
    | own e =>
      obtain ⟨ob, e1, q⟩ := w.at e
      simp only [itemsOf, e1] at h
      simp only [atOf, e1] at ha
      cases ob with
      | dic _ _ => exact q.elim
      | lst ds =>
        cases h
        rename_i n
        refine fun tr w ok => ?_
        obtain ⟨ob, e1, q⟩ := w.at (tr.get e)
        rw [ok_at ok (ha (n, xs) (List.mem_singleton.mpr rfl))] at e1
        cases e1
        obtain ⟨vs, e2, rs⟩ := q
        exact ⟨vs, .of e2, rs⟩
theorem r_enu {tpos : Pos} {elts : List Expr} {kk : Nat} (hg : Gl X "enumerate") (hm : X.mg "enumerate" = none) (ha : PE X a (rdE X.K (evE c A))) (hp : plainB a = true) : PI X (.Tuple elts kk tpos) (.Call (.Name "enumerate" p) [a] [] pos) (rdI X.K (evI c (.enu A))) := by
  refine PI.imp (pi_enum hg hm (pa_cons ha pa_nil (star_plain hp)) (star_plain hp)) fun σ H R' ⟨e, io, S, t, S', hE, hW, hm, q⟩ => ?_
  simp only [evI] at hm
  obtain ⟨x, S1, h1, h2⟩ := R.bind_eq_ok hm
  split at h2
  · rename_i xs hx
    cases h2
    refine rd1 hE hW h1 fun io1 H1 v t1 w1 r1 _ => ?_
    obtain ⟨hi, nt⟩ := list_items hx
    obtain ⟨b, rfl, k⟩ := src_notup (t := ⟨xs.zipIdx.map fun p => .tup [.int (p.2 : Nat), p.1], atOf S' x⟩) w1 r1 hi (fun p hp => hp) nt
    obtain ⟨vs, hs, _⟩ := k Tr.refl.toH w1 (at_ok rfl)
    exact ⟨b, vs, rfl, hs, q io1 H1 _ t1 w1 (jok_enum rfl k)⟩
  · cases h2
theorem jok_zip {K : PySem.W.Frag} {io : Pl} {H : Hp} {t : It} {xs ys : List D} {a b : Addr} (ht : t.xs = (xs.zip ys).map fun p => .tup [p.1, p.2]) (s : ∀ {io1 H1 S1}, TrH io H io1 H1 → Wd K io1 H1 S1 → t.ok S1 = true → ∃ vs, SqL K H1 a vs ∧ RepL K io1 H1 vs xs)
    (s2 : ∀ {io1 H1 S1}, TrH io H io1 H1 → Wd K io1 H1 S1 → t.ok S1 = true → ∃ vs, SqL K H1 b vs ∧ RepL K io1 H1 vs ys) : JOk K (Itz K a b) t io H := by
  intro i io1 H1 S1 tr w ok
  obtain ⟨vs, hs, rs⟩ := s tr w ok
  obtain ⟨us, hu, ru⟩ := s2 tr w ok
  rw [ht]
  refine ⟨fun x hx => ?_, fun e => ⟨vs, us, hs, hu, ?_⟩⟩
  · rw [List.getElem?_map] at hx
    obtain ⟨p, hp, rfl⟩ := Option.map_eq_some_iff.mp hx
    obtain ⟨h1, h2⟩ := List.getElem?_zip_eq_some.mp hp
    obtain ⟨v, hv, rv⟩ := rs.get h1
    obtain ⟨u, hu2, ru2⟩ := ru.get h2
    refine ⟨⟨vs, us, v, u, hs, hu, hv, hu2⟩, fun v' H2 ⟨T, x, y, e1, hT, e2, f, g⟩ => ?_⟩
    subst e1 e2
    have f1 := f vs hs
    have g1 := g us hu
    rw [hv] at f1
    rw [hu2] at g1
    cases f1
    cases g1
    exact ⟨Tr.upd hT, w.upd hT, rep_tup w hT (.cons rv (.cons ru2 .nil))⟩
  · rw [List.length_map, List.length_zip] at e
    rw [rs.length, ru.length]
    omega
theorem jok_zipT {K : PySem.W.Frag} {io : Pl} {H : Hp} {t : It} {xs ys : List D} {a b : Addr} (ht : t.xs = (xs.zip ys).map fun p => .tup [p.1, p.2]) (s : ∀ {io1 H1 S1}, TrH io H io1 H1 → Wd K io1 H1 S1 → t.ok S1 = true → ∃ vs, SqT K H1 a vs ∧ RepL K io1 H1 vs xs)
    (s2 : ∀ {io1 H1 S1}, TrH io H io1 H1 → Wd K io1 H1 S1 → t.ok S1 = true → ∃ vs, SqT K H1 b vs ∧ RepL K io1 H1 vs ys) : JOk K (RZ.ItzT K a b) t io H := by
  intro i io1 H1 S1 tr w ok
  obtain ⟨vs, hs, rs⟩ := s tr w ok
  obtain ⟨us, hu, ru⟩ := s2 tr w ok
  rw [ht]
  refine ⟨fun x hx => ?_, fun e => ⟨vs, us, hs, hu, ?_⟩⟩
  · rw [List.getElem?_map] at hx
    obtain ⟨p, hp, rfl⟩ := Option.map_eq_some_iff.mp hx
    obtain ⟨h1, h2⟩ := List.getElem?_zip_eq_some.mp hp
    obtain ⟨v, hv, rv⟩ := rs.get h1
    obtain ⟨u, hu2, ru2⟩ := ru.get h2
    refine ⟨⟨vs, us, v, u, hs, hu, hv, hu2⟩, fun v' H2 ⟨T, x, y, e1, hT, e2, f, g⟩ => ?_⟩
    subst e1 e2
    have f1 := f vs hs
    have g1 := g us hu
    rw [hv] at f1
    rw [hu2] at g1
    cases f1
    cases g1
    exact ⟨Tr.upd hT, w.upd hT, rep_tup w hT (.cons rv (.cons ru2 .nil))⟩
  · rw [List.length_map, List.length_zip] at e
    rw [rs.length, ru.length]
    omega
theorem src_tup {K : PySem.W.Frag} {io : Pl} {H : Hp} {S : Sto} {v : V} {d : D} {xs : List D} {t : It} (w : Wd K io H S) (r : Rep K io H v d) (h : itemsOf S d = some xs) (nt : isTupD d = true) :
    ∃ a, v = .ref a ∧ (∀ {io1 H1 S1}, TrH io H io1 H1 → Wd K io1 H1 S1 → t.ok S1 = true → ∃ vs, SqT K H1 a vs ∧ RepL K io1 H1 vs xs) := by
  cases r with
  | tup hs rs => cases h; exact ⟨_, rfl, fun tr w ok => ⟨_, tr.sqT hs, rs.monoH tr⟩⟩
  | _ => cases nt
theorem r_zip {tpos : Pos} {elts : List Expr} {kk : Nat} (hg : Gl X "zip") (hm : X.mg "zip" = none) (ha : PE X a (rdE X.K (evE c A))) (hb : PE X b (rdE X.K (evE c B))) (hp : plainB a = true) (hp2 : plainB b = true) : PI X (.Tuple elts kk tpos) (.Call (.Name "zip" p) [a, b] [] pos) (rdI X.K (evI c (.zip A B))) := by
  refine PI.imp (RZ.pi_zipA hg hm (pa_cons ha (pa_cons hb pa_nil (star_plain hp2)) (star_plain hp)) (star_plain hp) (star_any (by rw [List.all_cons, hp2]; rfl))) fun σ H R' ⟨e, io, S, t, S', hE, hW, hm, q⟩ => ?_
  simp only [evI] at hm
  obtain ⟨x, S1, h1, h2⟩ := R.bind_eq_ok hm
  obtain ⟨y, S2, h3, h4⟩ := R.bind_eq_ok h2
  split at h4
  · rename_i xs ys hx hy
    split at h4
    · rename_i hk
      cases h4
      refine rd1 hE hW h1 fun io1 H1 v t1 w1 r1 e1 => rd1 e1 w1 h3 fun io2 H2 u t2 w2 r2 _ => ?_
      have okt : (⟨(xs.zip ys).map fun p => .tup [p.1, p.2], atOf S' x ++ atOf S' y⟩ : It).ok S' = true := by
        unfold It.ok
        rw [List.all_append]
        have ox : ∀ z : D, (atOf S' z).all (fun p => decide (S'[p.1]? = some (.lst p.2))) = true := fun z => at_ok (t := ⟨[], atOf S' z⟩) rfl
        rw [ox x, ox y]; rfl
      cases ht : isTupD x with
      | true =>
        obtain ⟨a1, rfl, k1⟩ := src_tup (t := ⟨(xs.zip ys).map fun p => .tup [p.1, p.2], atOf S' x ++ atOf S' y⟩) w2 (r1.mono t2) hx ht
        obtain ⟨b1, rfl, k2⟩ := src_tup (t := ⟨(xs.zip ys).map fun p => .tup [p.1, p.2], atOf S' x ++ atOf S' y⟩) w2 r2 hy (by rw [← hk]; exact ht)
        obtain ⟨vs, hs, _⟩ := k1 Tr.refl.toH w2 okt
        obtain ⟨us, hu, _⟩ := k2 Tr.refl.toH w2 okt
        exact ⟨a1, b1, vs, us, rfl, .inr ⟨hs, hu, q io2 H2 _ (t1.trans t2) w2 (jok_zipT rfl k1 k2)⟩⟩
      | false =>
        obtain ⟨a1, rfl, k1⟩ := src_notup (t := ⟨(xs.zip ys).map fun p => .tup [p.1, p.2], atOf S' x ++ atOf S' y⟩) w2 (r1.mono t2) hx (fun p hp => List.mem_append_left _ hp) ht
        obtain ⟨b1, rfl, k2⟩ := src_notup (t := ⟨(xs.zip ys).map fun p => .tup [p.1, p.2], atOf S' x ++ atOf S' y⟩) w2 r2 hy (fun p hp => List.mem_append_right _ hp) (by rw [← hk]; exact ht)
        obtain ⟨vs, hs, _⟩ := k1 Tr.refl.toH w2 okt
        obtain ⟨us, hu, _⟩ := k2 Tr.refl.toH w2 okt
        exact ⟨a1, b1, vs, us, rfl, .inl ⟨hs, hu, q io2 H2 _ (t1.trans t2) w2 (jok_zip rfl k1 k2)⟩⟩
    · cases h4
  · cases h4
end
end Ev

/-! EvRules4: comprehensions, statements, loops -/
namespace Ev
open PySem PySem.Spec PyProof.Rows L2

section
variable {K : PySem.W.Frag} {io io' : Pl} {H H' : Hp} {S S' : Sto} {p : Addr} {o : HO} {xs ys : List V}
mutual
/-- a list in the making grows -/
theorem Rep.hidput (h : H p = some (.lst xs)) : ∀ {v : V} {d : D}, Rep K (io.hide p) H v d → Rep K (io.hide p) (L2.upd H p (.lst ys)) v d
  | _, _, .non => .non
  | _, _, .bl b => .bl b
  | _, _, .int i => .int i
  | _, _, .str x => .str x
  | _, _, .tup e r => .tup (by
    have ne : ∀ {a : Addr} {u : HO}, H a = some u → u ≠ .lst xs → L2.upd H p (.lst ys) a = some u := fun {a u} q n => by
      rw [upd_ne (ne_of q h n)]; exact q
    rcases e with (e | ⟨ob, e⟩) | e
    · exact .inl (.inl (ne e (fun z => by cases z)))
    · exact .inl (.inr ⟨ob, ne e (fun z => by cases z)⟩)
    · exact .inr e) (RepL.hidput h r)
  | _, _, .lst e n r => .lst (by rw [upd_ne (fun z => n.2 (by rw [z]; exact List.mem_cons_self))]; exact e) n (RepL.hidput h r)
  | _, _, .sq e => .sq (e.imp (fun ⟨ob, q⟩ => ⟨ob, by rw [upd_ne (ne_of q h (fun z => by cases z))]; exact q⟩) fun q => q)
  | _, _, .own e => .own e
theorem RepL.hidput (h : H p = some (.lst xs)) : ∀ {v : List V} {d : List D}, RepL K (io.hide p) H v d → RepL K (io.hide p) (L2.upd H p (.lst ys)) v d
  | _, _, .nil => .nil
  | _, _, .cons e r => .cons (Rep.hidput h e) (RepL.hidput h r)
end
theorem Wd.hidput (w : Wd K (io.hide p) H S) (h : H p = some (.lst xs)) : Wd K (io.hide p) (L2.upd H p (.lst ys)) S := by
  refine ⟨w.len, w.nd, fun n a ob e1 e2 => ?_, fun a ha => ⟨(w.hid a ha).1, ?_⟩⟩
  · have q := w.ob n a ob e1 e2
    cases ob with
    | dic _ _ => exact q.elim
    | lst ds =>
      obtain ⟨vs, e, r⟩ := q
      have hne : a ≠ p := fun z => w.no (by rw [← z]; exact List.mem_of_getElem? e1)
      exact ⟨vs, by rw [upd_ne hne]; exact e, r.hidput h⟩
  · by_cases z : a = p
    · subst z
      exact ⟨ys, upd_same⟩
    · obtain ⟨zs, e⟩ := (w.hid a ha).2
      exact ⟨zs, by rw [upd_ne z]; exact e⟩
theorem Tr.putNew (t : Tr io H io' H') (h : H p = none) : Tr io H io' (L2.upd H' p o) :=
  ⟨t.pre, t.hd, fun a u e n => by rw [upd_ne (ne_of_none e h)]; exact t.keep a u e n, t.new⟩
theorem TrH.putNew (t : TrH io H io' H') (h : H p = none) : TrH io H io' (L2.upd H' p o) :=
  ⟨t.pre, t.hd, fun a u e n => by rw [upd_ne (ne_of_none e h)]; exact t.keep a u e n, t.new⟩
theorem Tr.wasFree (t : Tr io H io' H') (w' : Wd K io' H' S') (h : H' p = none) : H p = none := by
  cases e : H p with
  | none => rfl
  | some u =>
    by_cases hm : p ∈ io.io
    · obtain ⟨xs, q⟩ := w'.mem (t.sub hm)
      rw [h] at q; cases q
    · have := t.keep p u e (.inl hm)
      rw [h] at this; cases this
theorem TrH.then {io2 : Pl} {H2 : Hp} (t : TrH io H io' H') (u : Tr io' H' io2 H2) : TrH io H io2 H2 := by
  refine ⟨?_, ?_, fun a o e n => ?_, fun a h n => ?_⟩
  · obtain ⟨r, e1⟩ := t.pre
    obtain ⟨r2, e2⟩ := u.pre
    exact ⟨r ++ r2, by rw [e2, e1, List.append_assoc]⟩
  · obtain ⟨hs, e, f⟩ := t.hd
    exact ⟨hs, by rw [u.hd, e], f⟩
  · have e1 := t.keep a o e n
    refine u.keep a o e1 ?_
    rcases n with n | n
    · refine .inl fun hm => ?_
      have := t.new a hm n
      rw [e] at this; cases this
    · exact .inr n
  · by_cases hm : a ∈ io'.io
    · exact t.new a hm n
    · have e2 := u.new a h hm
      cases e : H a with
      | none => rfl
      | some o =>
        have := t.keep a o e (.inl n)
        rw [e2] at this; cases this
theorem Tr.hidden (t : Tr io H io' H') (h : H p = none) : TrH io H (io'.hide p) H' :=
  ⟨t.pre, ⟨[p], congrArg (p :: ·) t.hd, fun q hq => by rw [List.mem_singleton.mp hq]; exact h⟩, t.keep, t.new⟩
end

/-! ### comprehensions -/
section
variable {X : Cx} {c : Cf}
/-- what a turn of a comprehension does -/
def cTurn (c : Cf) (vs : List Nat) (elt : E) (g : Tg) (cs : Es) (e : Env) (x : D) (S2 : Sto) : R (Option D) :=
  (evG c g x (wipeE e vs) S2).bind fun e1 S3 => (evT c cs e1 S3).bind fun b S4 => if b then (evE c elt e1 S4).bind fun d S5 => .ok (some d) S5 else .ok none S4
/-- the state of a comprehension ahead of its i-th turn -/
def CSt (K : PySem.W.Frag) (io : Pl) (H : Hp) (io1 : Pl) (H1 : Hp) (Dd : Addr) (t : It) (f : D → Sto → R (Option D)) (ds : List D) (S' : Sto) (i : Nat) (H2 : Hp) : Prop :=
  ∃ io2 S2 acc dacc rest, Tr io H io2 H2 ∧ TrH io1 H1 (io2.hide Dd) H2 ∧ TrH io H (io2.hide Dd) H2 ∧ Wd K (io2.hide Dd) H2 S2 ∧ H2 Dd = some (.lst acc) ∧ RepL K (io2.hide Dd) H2 acc dacc ∧
    compL t f (t.xs.drop i) S2 = .ok rest S' ∧ dacc ++ rest = ds ∧ dacc.length ≤ i
theorem drop_cons {α : Type} {l : List α} {i : Nat} (h : i < l.length) : l.drop i = l[i] :: l.drop (i + 1) := by
  exact List.drop_eq_getElem_cons h
theorem lc_rd {vs : List Nat} {elt : E} {g : Tg} {i : I} {cs : Es} (hs : ∀ j ∈ g.slots, j ∈ vs) {σ : L2.St} {H : Hp} {Q : VK} (h : rdN X.K (evN c (.comp vs elt g i cs)) σ H Q) :
    tLc (rdI X.K (evI c i)) (rdG X.K g.slots (fun d e S => evG c g d e S)) (rdB X.K (evT c cs)) (rdE X.K (evE c elt)) vs σ H Q := by
  obtain ⟨e, io, S, ds, S', hE, hW, hm, q⟩ := h
  simp only [evN] at hm
  obtain ⟨t, S1, h1, h2⟩ := R.bind_eq_ok hm
  split at h2
  · cases h2
  rename_i hlim
  refine ⟨e, io, S, t, S1, hE, hW, h1, fun io1 H1 J t1 w1 jok Dd hD => ?_⟩
  have hD0 : H Dd = none := t1.wasFree w1 hD
  refine ⟨fun i m H2 => m = t.xs.length - i ∧ i ≤ t.xs.length ∧ CSt X.K io H io1 H1 Dd t (cTurn c vs elt g cs e) ds S' i H2, ⟨_, rfl, Nat.zero_le _, ?_⟩, ?_⟩
  · refine ⟨io1, S1, [], [], ds, t1.putNew hD0, ?_, ?_, w1.hidden hD, upd_same, .nil, h2, rfl, Nat.le_refl _⟩
    · exact (Tr.refl.hidden hD).putNew hD
    · exact (t1.hidden hD0).putNew hD0
  · intro i m H2 ⟨hmi, hi, io2, S2, acc, dacc, rest, tr, trH, trE, w2, eD, rA, hc, hds, hlen⟩
    by_cases hlt : i < t.xs.length
    · rw [drop_cons hlt] at hc
      unfold compL at hc
      split at hc
      · rename_i okt
        obtain ⟨y, S3, h3, h4⟩ := R.bind_eq_ok hc
        obtain ⟨zs, S4, h5, h6⟩ := R.bind_eq_ok h4
        cases h6
        obtain ⟨jgo, jyld⟩ := (jok i (io2.hide Dd) H2 S2 trH w2 okt).1 t.xs[i] (List.getElem?_eq_getElem hlt)
        refine .inr ⟨jgo, CSt X.K io H io1 H1 Dd t (cTurn c vs elt g cs e) ds S' (i + 1), fun H' hN => ⟨t.xs.length - (i + 1), by omega, rfl, hlt, hN⟩, fun x H3 hy => ?_⟩
        obtain ⟨t3, w3, r3⟩ := jyld x H3 hy
        unfold cTurn at h3
        obtain ⟨e1, S5, h7, h8⟩ := R.bind_eq_ok h3
        obtain ⟨b, S6, h9, h10⟩ := R.bind_eq_ok h8
        -- the end of a turn, whatever its answer
        have fin : ∀ {io5 : Pl} {H6 : Hp}, Tr (io2.hide Dd) H2 io5 H6 → Wd X.K io5 H6 S3 → ∃ io6 : Pl, io5 = io6.hide Dd ∧ Tr io H io6 H6 ∧ TrH io1 H1 io5 H6 ∧ TrH io H io5 H6 ∧ H6 Dd = some (.lst acc) ∧ RepL X.K io5 H6 acc dacc := fun {io5 H6} tt ww => by
          have e5 : io5 = (⟨io5.io, io2.hd⟩ : Pl).hide Dd := by
            have := tt.hd
            cases io5
            simp only at this
            rw [this]
          refine ⟨⟨io5.io, io2.hd⟩, e5, ?_, trH.then tt, trE.then tt, tt.keep Dd _ eD (.inl w2.no), rA.mono tt⟩
          have a := trE.then tt
          exact ⟨a.pre, tr.hd, a.keep, a.new⟩
        refine ⟨wipeE e vs, io2.hide Dd, S2, t.xs[i], e1, S5, (hE.monoH (trE.then t3)).wiped vs, w3, r3, h7, fun io3 H4 σ' t4 w4 g4 a4 => ⟨a4.wiped hs, ?_⟩⟩
        refine ⟨e1, io3, S5, b, S6, g4, w4, h9, fun io4 H5 t5 w5 => ?_⟩
        cases b with
        | true =>
          simp only [if_true] at h10 ⊢
          obtain ⟨d, S7, h11, h12⟩ := R.bind_eq_ok h10
          cases h12
          refine ⟨e1, io4, S6, d, _, g4.mono t5, w5, h11, fun io5 H6 v t6 w6 r6 => ?_⟩
          obtain ⟨io6, rfl, a1, a2, a3, a4', a5⟩ := fin (((t3.trans t4).trans t5).trans t6) w6
          refine ⟨acc, a4', ?_, io6, _, acc ++ [v], dacc ++ [d], zs, a1.putNew hD0, a2.putNew hD, a3.putNew hD0, w6.hidput a4', upd_same, (a5.append (.cons r6 .nil)).hidput a4', h5, ?_, ?_⟩
          · rw [a5.length, ← lim]
            omega
          · rw [← hds, List.append_assoc]; rfl
          · rw [List.length_append]
            show dacc.length + 1 ≤ i + 1
            omega
        | false =>
          simp only [Bool.false_eq_true, if_false] at h10 ⊢
          cases h10
          obtain ⟨io6, rfl, a1, a2, a3, a4', a5⟩ := fin ((t3.trans t4).trans t5) w5
          exact ⟨io6, _, acc, dacc, zs, a1, a2, a3, w5, a4', a5, h5, hds, by omega⟩
      · cases hc
    · have hi2 : i = t.xs.length := by omega
      rw [hi2, List.drop_length] at hc
      unfold compL at hc
      split at hc
      · rename_i okt
        cases hc
        rw [List.append_nil] at hds
        subst hds
        exact .inl ⟨(jok i (io2.hide Dd) H2 _ trH w2 okt).2 hi2, q io2 H2 Dd acc tr w2 hD0 eD rA⟩
      · cases hc
theorem r_comp {elt tg iter : Expr} {ifs : List Expr} {scope : Scope} {own : List (Str × Nat)} {pos : Pos} {Elt : E} {g : Tg} {i : I} {cs : Es} (hc : X.calm = true) (hN : X.N.Nodup) (hi : PI X tg iter (rdI X.K (evI c i))) (ok : BlkOk X.N X.env.scope scope own)
    (hg : ∀ (s : Shared) (H : Hp) (C : Addr) (cl : List (Str × Addr)) (fp : List Addr), PG (X.blk s H scope (compEnvC scope cl C X.env) fp) tg (rdG X.K g.slots (fun d e S => evG c g d e S))) (ht : ∀ (s : Shared) (H : Hp) (C : Addr) (cl : List (Str × Addr)) (fp : List Addr), PTs (X.blk s H scope (compEnvC scope cl C X.env) fp) ifs (rdB X.K (evT c cs)))
    (he : ∀ (s : Shared) (H : Hp) (C : Addr) (cl : List (Str × Addr)) (fp : List Addr), PE (X.blk s H scope (compEnvC scope cl C X.env) fp) elt (rdE X.K (evE c Elt))) (hs : setB iter = true) (hsl : ∀ j ∈ g.slots, j ∈ own.map (·.2)) :
    PE X (.ListComp elt [⟨tg, iter, ifs, 0⟩] scope pos) (rdN X.K (evN c (.comp (own.map (·.2)) Elt g i cs))) :=
  PE.imp (pe_lc hc hN hi ok hg ht he (set_plain hs)) fun _ _ _ h => lc_rd hsl h
/-- y = [..], y a local name -/
theorem r_setcomp {k : Nat} {y : Str} {py : Pos} {elt tg iter : Expr} {ifs : List Expr} {scope : Scope} {own : List (Str × Nat)} {pos spos : Pos} {Elt : E} {g : Tg} {i : I} {cs : Es} {keep : Bool} (hc : X.calm = true) (hN : X.N.Nodup) (hy : X.N[k]? = some y) (hyl : X.env.scope.names.lookup y = some .local)
    (hsw : swapsWith (.ListComp elt [⟨tg, iter, ifs, 0⟩] scope pos) (some (.Name y py)) spos.line X.env = pure true) (hi : PI X tg iter (rdI X.K (evI c i))) (ok : BlkOk X.N X.env.scope scope own)
    (hg : ∀ (s : Shared) (H : Hp) (C : Addr) (cl : List (Str × Addr)) (fp : List Addr), PG (X.blk s H scope (compEnvC scope cl C X.env) fp) tg (rdG X.K g.slots (fun d e S => evG c g d e S))) (ht : ∀ (s : Shared) (H : Hp) (C : Addr) (cl : List (Str × Addr)) (fp : List Addr), PTs (X.blk s H scope (compEnvC scope cl C X.env) fp) ifs (rdB X.K (evT c cs)))
    (he : ∀ (s : Shared) (H : Hp) (C : Addr) (cl : List (Str × Addr)) (fp : List Addr), PE (X.blk s H scope (compEnvC scope cl C X.env) fp) elt (rdE X.K (evE c Elt))) (hs : setB iter = true) (hsl : ∀ j ∈ g.slots, j ∈ own.map (·.2)) :
    PS X (.Assign [.Name y py] (.ListComp elt [⟨tg, iter, ifs, 0⟩] scope pos) spos) (rdS X.K (evS c (.asg (.name k) (if keep then .own (.comp (own.map (·.2)) Elt g i cs) else .frz (.comp (own.map (·.2)) Elt g i cs))))) := by
  refine PS.imp (ps_setLc hc hN hy hyl hsw hi ok hg ht he (set_plain hs)) fun D σ H ⟨e, io, S, fl, S', hE, hW, hm, hf⟩ => lc_rd hsl ?_
  simp only [evS] at hm
  obtain ⟨x, S1, h1, h2⟩ := R.bind_eq_ok hm
  obtain ⟨e1, S2, h3, h4⟩ := R.bind_eq_ok h2
  cases h4
  simp only [evG] at h3
  split at h3
  · cases h3
    cases keep with
    | false =>
      simp only [Bool.false_eq_true, if_false, evE] at h1
      obtain ⟨ds, S3, h5, h6⟩ := R.bind_eq_ok h1
      cases h6
      refine ⟨e, io, S, ds, _, hE, hW, h5, fun io' H' p vs t w hp e' r => hf io' H' _ t w.unhide ((hE.mono t).set (.lst e' ⟨w.no, ?_⟩ r.unhide) k)⟩
      rw [t.hd]
      exact (hW.fresh hp).2
    | true =>
      simp only [if_true, evE] at h1
      obtain ⟨ds, S3, h5, h6⟩ := R.bind_eq_ok h1
      cases h6
      refine ⟨e, io, S, ds, _, hE, hW, h5, fun io' H' p vs t w hp e' r => ?_⟩
      have nh : p ∉ io'.hd := by
        rw [t.hd]
        exact (hW.fresh hp).2
      have t' : Tr io H ⟨io'.io ++ [p], io'.hd⟩ H' := by
        refine ⟨?_, t.hd, t.keep, fun b hb n => ?_⟩
        · obtain ⟨r0, h0⟩ := t.pre
          exact ⟨r0 ++ [p], by rw [h0, List.append_assoc]⟩
        · rcases List.mem_append.mp hb with hb | hb
          · exact t.new b hb n
          · rw [List.mem_singleton.mp hb]
            exact hp
      refine hf ⟨io'.io ++ [p], io'.hd⟩ H' _ t' (w.place nh e' r) ((hE.mono t').set (.own ?_) k)
      have hl : S3.length = io'.io.length := w.len.symm
      rw [hl, List.getElem?_append_right (Nat.le_refl _), Nat.sub_self]
      rfl
  · cases h3

/-! ### statements -/
variable {a b t : Expr} {A B T : E} {pos : Pos}
theorem r_sexpr (ha : PE X a (rdE X.K (evE c A))) (hs : compB a = true) : PS X (.Expr a pos) (rdS X.K (evS c (.expr A))) := by
  refine PS.imp (ps_expr ha (sw_plain hs)) fun D σ H ⟨e, io, S, fl, S', hE, hW, hm, hf⟩ => ?_
  simp only [evS] at hm
  obtain ⟨x, S1, h1, h2⟩ := R.bind_eq_ok hm
  cases h2
  exact rd1 hE hW h1 fun io1 H1 v t w r e1 => hf io1 H1 σ t w e1
theorem r_sret (ha : PE X a (rdE X.K (evE c A))) : PS X (.Return (some a) pos) (rdS X.K (evS c (.ret A))) := by
  refine PS.imp (ps_ret ha) fun D σ H ⟨e, io, S, fl, S', hE, hW, hm, hf⟩ => ?_
  simp only [evS] at hm
  obtain ⟨x, S1, h1, h2⟩ := R.bind_eq_ok hm
  cases h2
  exact rd1 hE hW h1 fun io1 H1 v t w r e1 => hf io1 H1 v t w r
theorem r_sretN : PS X (.Return none pos) (rdS X.K (evS c .retN)) := by
  refine PS.imp ps_retN fun D σ H ⟨e, io, S, fl, S', hE, hW, hm, hf⟩ => ?_
  simp only [evS] at hm
  cases hm
  exact hf io H _ Tr.refl hW .non
theorem r_spass : PS X (.Pass pos) (rdS X.K (evS c .pass)) := by
  refine PS.imp ps_pass fun D σ H ⟨e, io, S, fl, S', hE, hW, hm, hf⟩ => ?_
  simp only [evS] at hm
  cases hm
  exact hf io H _ Tr.refl hW hE
theorem r_sbrk : PS X (.Break pos) (rdS X.K (evS c .brk)) := by
  refine PS.imp ps_break fun D σ H ⟨e, io, S, fl, S', hE, hW, hm, hf⟩ => ?_
  simp only [evS] at hm
  cases hm
  exact hf io H _ Tr.refl hW hE
theorem r_scont : PS X (.Continue pos) (rdS X.K (evS c .cont)) := by
  refine PS.imp ps_continue fun D σ H ⟨e, io, S, fl, S', hE, hW, hm, hf⟩ => ?_
  simp only [evS] at hm
  cases hm
  exact hf io H _ Tr.refl hW hE
theorem r_snever {st : Stmt} : PS X st (rdS X.K (evS c .never)) := by
  refine PS.imp ps_never fun D σ H ⟨e, io, S, fl, S', hE, hW, hm, hf⟩ => ?_
  simp only [evS] at hm
  cases hm
theorem r_sdoc {x : Str} {j : Nat} {p2 : Pos} : PS X (.Expr (.Constant (.str x) j pos) p2) (rdS X.K (evS c .pass)) := by
  refine PS.imp ps_doc fun D σ H ⟨e, io, S, fl, S', hE, hW, hm, hf⟩ => ?_
  simp only [evS] at hm
  cases hm
  exact hf io H _ Tr.refl hW hE
theorem FlR.mono {K : PySem.W.Frag} {io io1 : Pl} {H H1 : Hp} {S' : Sto} {D : Ends} {fl : Fl} (t : Tr io H io1 H1) (h : FlR K io H S' D fl) : FlR K io1 H1 S' D fl := by
  cases fl with
  | nx e => exact fun io' H' σ' t2 w e => h io' H' σ' (t.trans t2) w e
  | rt d => exact fun io' H' v t2 w r => h io' H' v (t.trans t2) w r
  | bk e => exact fun io' H' σ' t2 w e => h io' H' σ' (t.trans t2) w e
  | ct e => exact fun io' H' σ' t2 w e => h io' H' σ' (t.trans t2) w e
theorem r_snil : PSs X [] (rdS X.K (evSs c .nil)) := by
  refine PSs.imp pss_nil fun D σ H ⟨e, io, S, fl, S', hE, hW, hm, hf⟩ => ?_
  simp only [evSs] at hm
  cases hm
  exact hf io H _ Tr.refl hW hE
theorem r_scons {st : Stmt} {rest : List Stmt} {s : Ev.S} {r : Ss} (h1 : PS X st (rdS X.K (evS c s))) (h2 : PSs X rest (rdS X.K (evSs c r))) : PSs X (st :: rest) (rdS X.K (evSs c (.cons s r))) := by
  refine PSs.imp (pss_cons h1 h2) fun D σ H ⟨e, io, S, fl, S', hE, hW, hm, hf⟩ => ?_
  simp only [evSs] at hm
  obtain ⟨f1, S1, h3, h4⟩ := R.bind_eq_ok hm
  refine ⟨e, io, S, f1, S1, hE, hW, h3, ?_⟩
  cases f1 with
  | nx e1 => exact fun io1 H1 σ1 t1 w1 g1 => ⟨e1, io1, S1, fl, S', g1, w1, h4, hf.mono t1⟩
  | rt d => cases h4; exact hf
  | bk e1 => cases h4; exact hf
  | ct e1 => cases h4; exact hf
theorem r_sif {sa sb : List Stmt} {Sa Sb : Ss} (ht : PT X t (rdT X.K (evE c T))) (ha : PSs X sa (rdS X.K (evSs c Sa))) (hb : PSs X sb (rdS X.K (evSs c Sb))) : PS X (.If t sa sb pos) (rdS X.K (evS c (.ifs T Sa Sb))) := by
  refine PS.imp (ps_if ht ha hb) fun D σ H ⟨e, io, S, fl, S', hE, hW, hm, hf⟩ => ?_
  simp only [evS] at hm
  obtain ⟨x, S1, h1, h2⟩ := R.bind_eq_ok hm
  split at h2
  · exact rt1 hE hW h1 fun io1 H1 t1 w1 e1 => ⟨e, io1, S1, fl, S', e1, w1, h2, hf.mono t1⟩
  · exact rt1 hE hW h1 fun io1 H1 t1 w1 e1 => ⟨e, io1, S1, fl, S', e1, w1, h2, hf.mono t1⟩
  · cases h2
theorem r_sasg {tg : Expr} {g : Tg} (ha : PE X a (rdE X.K (evE c A))) (hg : PG X tg (rdG X.K g.slots (fun d e S => evG c g d e S))) (hs : swapsWithSole [tg] a pos.line X.env = pure false) (hw : swappedStores [tg] a X.env = pure none) (hp : plainB tg = true) : PS X (.Assign [tg] a pos) (rdS X.K (evS c (.asg g A))) := by
  refine PS.imp (ps_asg ha hg hs hw (by rw [asg_plain hp]; rfl)) fun D σ H ⟨e, io, S, fl, S', hE, hW, hm, hf⟩ => ?_
  simp only [evS] at hm
  obtain ⟨x, S1, h1, h2⟩ := R.bind_eq_ok hm
  obtain ⟨e1, S2, h3, h4⟩ := R.bind_eq_ok h2
  cases h4
  refine rd1 hE hW h1 fun io1 H1 v t1 w1 r1 g1 => ?_
  exact ⟨e, io1, S1, x, e1, _, g1, w1, r1, h3, fun io2 H2 σ2 t2 w2 g2 _ => hf io2 H2 σ2 (t1.trans t2) w2 g2⟩
theorem r_spar {i j : Nat} {x y : Str} {px py pt : Pos} {kt k2 : Nat} {pt2 : Pos} (hc : X.calm = true) (hN : X.N.Nodup) (hi : X.N[i]? = some x) (hj : X.N[j]? = some y) (hij : i ≠ j) (hx : X.env.scope.names.lookup x = some .local) (hy : X.env.scope.names.lookup y = some .local)
    (ha : PE X a (rdE X.K (evE c A))) (hb : PE X b (rdE X.K (evE c B))) (hp : plainB a = true) (hp2 : plainB b = true) (hw : swappedStores [.Tuple [.Name x px, .Name y py] kt pt] (.Tuple [a, b] k2 pt2) X.env = pure (some [x, y])) :
    PS X (.Assign [.Tuple [.Name x px, .Name y py] kt pt] (.Tuple [a, b] k2 pt2) pos) (rdS X.K (evS c (.par i j A B))) := by
  refine PS.imp (ps_par hc hN hi hj hij hx hy (pa_cons ha (pa_cons hb pa_nil (star_plain hp2)) (star_plain hp)) hw rfl) fun D σ H ⟨e, io, S, fl, S', hE, hW, hm, hf⟩ => ?_
  simp only [evS] at hm
  obtain ⟨u, S1, h1, h2⟩ := R.bind_eq_ok hm
  obtain ⟨v, S2, h3, h4⟩ := R.bind_eq_ok h2
  split at h4
  · cases h4
    refine rd1 hE hW h1 fun io1 H1 v1 t1 w1 r1 e1 => rd1 e1 w1 h3 fun io2 H2 v2 t2 w2 r2 e2 => ⟨v1, v2, rfl, ?_⟩
    exact hf io2 H2 _ (t1.trans t2) w2 ((e2.set (r1.mono t2) i).set r2 j)
  · cases h4
/-! ### loops -/
theorem r_sfor {tg iter : Expr} {body : List Stmt} {g : Tg} {i : I} {b : Ss} (hx : X.xe = fun _ _ => False) (hc : X.calm = true) (hi : PI X tg iter (rdI X.K (evI c i))) (hg : PG X tg (rdG X.K g.slots (fun d e S => evG c g d e S))) (hb : PSs X body (rdS X.K (evSs c b))) (hs : setB iter = true) :
    PS X (.For tg iter body [] pos) (rdS X.K (evS c (.for_ g i b))) := by
  refine PS.imp (ps_for (by rw [hx]; exact PassesOwn.never) hc hi hg hb (set_plain hs)) fun D σ H ⟨e, io, S, fl, S', hE, hW, hm, hf⟩ => ?_
  simp only [evS] at hm
  obtain ⟨t, S1, h1, h2⟩ := R.bind_eq_ok hm
  refine ⟨e, io, S, t, S1, hE, hW, h1, fun io1 H1 J t1 w1 jok => ?_⟩
  refine ⟨fun k m σ2 H2 => m = t.xs.length - k ∧ k ≤ t.xs.length ∧ ∃ io2 S2 e2, Tr io H io2 H2 ∧ Tr io1 H1 io2 H2 ∧ Wd X.K io2 H2 S2 ∧ EnvR X.K io2 H2 σ2 e2 ∧ forL t (fun x e1 S2 => (evG c g x e1 S2).bind fun e2 S3 => evSs c b e2 S3) (t.xs.drop k) e2 S2 = .ok fl S', ⟨_, rfl, Nat.zero_le _, io1, S1, e, t1, Tr.refl, w1, hE.mono t1, h2⟩, ?_⟩
  intro k m σ2 H2 ⟨hmk, hk, io2, S2, e2, tr, tr1, w2, E2, hl⟩
  by_cases hlt : k < t.xs.length
  · rw [drop_cons hlt] at hl
    unfold forL at hl
    split at hl
    · rename_i okt
      obtain ⟨f1, S3, h3, h4⟩ := R.bind_eq_ok hl
      obtain ⟨e3, S4, h5, h6⟩ := R.bind_eq_ok h3
      obtain ⟨jgo, jyld⟩ := (jok k io2 H2 S2 tr1.toH w2 okt).1 t.xs[k] (List.getElem?_eq_getElem hlt)
      refine .inr ⟨jgo, fun σ3 H3 => ∃ io2 S2 e2, Tr io H io2 H3 ∧ Tr io1 H1 io2 H3 ∧ Wd X.K io2 H3 S2 ∧ EnvR X.K io2 H3 σ3 e2 ∧ forL t (fun x e1 S2 => (evG c g x e1 S2).bind fun e2 S3 => evSs c b e2 S3) (t.xs.drop (k + 1)) e2 S2 = .ok fl S', fun σ3 H3 hN => ⟨t.xs.length - (k + 1), by omega, rfl, hlt, hN⟩, fun x H3 hy => ?_⟩
      obtain ⟨t3, w3, r3⟩ := jyld x H3 hy
      refine ⟨e2, io2, S2, t.xs[k], e3, S4, E2.mono t3, w3, r3, h5, fun io4 H4 σ4 t4 w4 g4 _ => ⟨e3, io4, S4, f1, S3, g4, w4, h6, ?_⟩⟩
      cases f1 with
      | nx e5 => exact fun io5 H5 σ5 t5 w5 g5 => ⟨io5, S3, e5, tr.trans ((t3.trans t4).trans t5), tr1.trans ((t3.trans t4).trans t5), w5, g5, h4⟩
      | ct e5 => exact fun io5 H5 σ5 t5 w5 g5 => ⟨io5, S3, e5, tr.trans ((t3.trans t4).trans t5), tr1.trans ((t3.trans t4).trans t5), w5, g5, h4⟩
      | bk e5 =>
        cases h4
        exact fun io5 H5 σ5 t5 w5 g5 => hf io5 H5 σ5 (tr.trans ((t3.trans t4).trans t5)) w5 g5
      | rt d =>
        cases h4
        exact fun io5 H5 v t5 w5 r5 => hf io5 H5 v (tr.trans ((t3.trans t4).trans t5)) w5 r5
    · cases hl
  · have hk2 : k = t.xs.length := by omega
    rw [hk2, List.drop_length] at hl
    unfold forL at hl
    split at hl
    · rename_i okt
      cases hl
      exact .inl ⟨(jok k io2 H2 _ tr1.toH w2 okt).2 hk2, hf io2 H2 σ2 tr w2 E2⟩
    · cases hl
theorem r_swhile {body : List Stmt} {b : Ss} (hx : X.xe = fun _ _ => False) (ht : PT X t (rdT X.K (evE c T))) (hb : PSs X body (rdS X.K (evSs c b))) : PS X (.While t body [] pos) (rdS X.K (evS c (.while_ T b))) := by
  refine PS.imp (ps_while (by rw [hx]; exact PassesOwn.never) ht hb) fun D σ H ⟨e, io, S, fl, S', hE, hW, hm, hf⟩ => ?_
  simp only [evS] at hm
  refine ⟨fun m σ2 H2 => ∃ io2 S2 e2, Tr io H io2 H2 ∧ Wd X.K io2 H2 S2 ∧ EnvR X.K io2 H2 σ2 e2 ∧ whileL (fun e1 S1 => (evE c T e1 S1).bind fun x S2 => match x with
      | .bl v => .ok v S2
      | _ => .no) (fun e1 S1 => evSs c b e1 S1) m e2 S2 = .ok fl S', ⟨c.wf, io, S, e, Tr.refl, hW, hE, hm⟩, ?_⟩
  intro m σ2 H2 ⟨io2, S2, e2, tr, w2, E2, hl⟩
  cases m with
  | zero => cases hl
  | succ m =>
    unfold whileL at hl
    obtain ⟨v, S3, h3, h4⟩ := R.bind_eq_ok hl
    obtain ⟨x, S4, h5, h6⟩ := R.bind_eq_ok h3
    split at h6
    · cases h6
      refine rt1 E2 w2 h5 fun io3 H3 t3 w3 e3 => ?_
      cases v with
      | true =>
        simp only [if_true] at h4 ⊢
        obtain ⟨f1, S5, h7, h8⟩ := R.bind_eq_ok h4
        refine ⟨fun σ3 H3 => ∃ io2 S2 e2, Tr io H io2 H3 ∧ Wd X.K io2 H3 S2 ∧ EnvR X.K io2 H3 σ3 e2 ∧ whileL (fun e1 S1 => (evE c T e1 S1).bind fun x S2 => match x with
          | .bl v => .ok v S2
          | _ => .no) (fun e1 S1 => evSs c b e1 S1) m e2 S2 = .ok fl S', fun σ3 H3 hN => ⟨m, Nat.lt_succ_self _, hN⟩, e2, io3, _, f1, S5, e3, w3, h7, ?_⟩
        cases f1 with
        | nx e5 => exact fun io5 H5 σ5 t5 w5 g5 => ⟨io5, S5, e5, (tr.trans t3).trans t5, w5, g5, h8⟩
        | ct e5 => exact fun io5 H5 σ5 t5 w5 g5 => ⟨io5, S5, e5, (tr.trans t3).trans t5, w5, g5, h8⟩
        | bk e5 =>
          cases h8
          exact fun io5 H5 σ5 t5 w5 g5 => hf io5 H5 σ5 ((tr.trans t3).trans t5) w5 g5
        | rt d =>
          cases h8
          exact fun io5 H5 v t5 w5 r5 => hf io5 H5 v ((tr.trans t3).trans t5) w5 r5
      | false =>
        simp only [Bool.false_eq_true, if_false] at h4 ⊢
        cases h4
        exact hf io3 H3 σ2 (tr.trans t3) w3 e3
    · cases h6
/-- tests of a clause -/
theorem r_tnil : PTs X [] (rdB X.K (evT c .nil)) := by
  refine PTs.imp pts_nil fun σ H Q ⟨e, io, S, b, S', hE, hW, hm, q⟩ => ?_
  simp only [evT] at hm
  cases hm
  exact q io H Tr.refl hW
theorem r_tone (ht : PT X t (rdT X.K (evE c T))) : PTs X [t] (rdB X.K (evT c (.cons T .nil))) := by
  refine PTs.imp (pts_one ht) fun σ H Q ⟨e, io, S, b, S', hE, hW, hm, q⟩ => ?_
  simp only [evT] at hm
  obtain ⟨x, S1, h1, h2⟩ := R.bind_eq_ok hm
  split at h2
  · cases h2
    exact rt1 hE hW h1 fun io1 H1 t1 w1 _ => q io1 H1 t1 w1
  · cases h2
    exact rt1 hE hW h1 fun io1 H1 t1 w1 _ => q io1 H1 t1 w1
  · cases h2
end
end Ev

/-! EvTab: a written dict, asked at a key; its keys ints, texts, None -/
namespace Ev
open PySem PySem.Spec PyProof.Rows L2

def leafD : D → Option Leaf
  | .non => some .none
  | .int i => some (.num i)
  | .str x => some (.text x)
  | _ => none
theorem leaf_is {K : PySem.W.Frag} {io : Pl} {H : Hp} {v : V} {d : D} {u : Value} {l : Leaf} (r : Rep K io H v d) (rv : RelV v u) (h : leafD d = some l) : Leaf.isOf l u = true := by
  cases r with
  | non =>
    cases h
    obtain rfl : u = .none := rv
    rfl
  | int i =>
    cases h
    obtain ⟨t, rfl⟩ := rv
    exact decide_eq_true rfl
  | str x =>
    cases h
    obtain ⟨t, rfl⟩ := rv
    show (x == x) = true
    simp
  | _ => cases h
theorem leafD_inj {d e : D} {l : Leaf} (h : leafD d = some l) (h2 : leafD e = some l) : d = e := by
  cases d <;> cases e <;> simp only [leafD, Option.some.injEq, reduceCtorEq] at h h2 <;> subst h <;> cases h2 <;> rfl
/-- the entries tell these keys and values -/
def TabEs (K : PySem.W.Frag) (w : World) : List DictEntry → List D → List D → Prop
  | [], [], [] => True
  | e :: es, k :: ks, v :: vs => (∃ l vv, leafD k = some l ∧ Leaf.isOf l e.key = true ∧ e.hash = l.key.hash w ∧ RelV vv e.val ∧ ∀ io H, Rep K io H vv v) ∧ TabEs K w es ks vs
  | _, _, _ => False
def KTab (K : PySem.W.Frag) (w : World) (p : Addr) (ks vs : List D) : Prop := ∃ es n, K.lookup p = some ⟨.type "dict", none, .dict es n, #[]⟩ ∧ TabEs K w es.toList ks vs
section
variable {K : PySem.W.Frag} {P : Program} {w : World}
theorem TabEs.keys : ∀ {es : List DictEntry} {ks vs : List D}, TabEs K w es ks vs → ∀ e ∈ es, ∃ l, Leaf.isOf l e.key = true ∧ e.hash = l.key.hash w
  | [], _, _, _, _, h => by cases h
  | e :: es, [], _, h, _, _ => h.elim
  | e :: es, _ :: _, [], h, _, _ => h.elim
  | e :: es, k :: ks, v :: vs, h, e', he => by
    obtain ⟨⟨l, vv, h1, h2, h3, h4, h5⟩, hr⟩ := h
    rcases List.mem_cons.mp he with rfl | he
    · exact ⟨l, h2, h3⟩
    · exact hr.keys e' he
theorem TabEs.find (P : Program) : ∀ {es : List DictEntry} {ks vs : List D} {d r : D}, TabEs K w es ks vs → tabGet ks vs d = some r → ∃ l e vv, leafD d = some l ∧ es.find? (fun e => Leaf.isOf l e.key) = some e ∧ RelV vv e.val ∧ ∀ io H, Rep K io H vv r
  | [], [], [], _, _, _, h => by simp only [tabGet] at h; cases h
  | [], _ :: _, _, _, _, h, _ => h.elim
  | [], [], _ :: _, _, _, h, _ => h.elim
  | e :: es, [], _, _, _, h, _ => h.elim
  | e :: es, _ :: _, [], _, _, h, _ => h.elim
  | e :: es, k :: ks, v :: vs, d, r, h, g => by
    obtain ⟨⟨l, vv, h1, h2, h3, h4, h5⟩, hr⟩ := h
    simp only [tabGet] at g
    split at g
    · rename_i q
      cases g
      subst q
      exact ⟨l, e, vv, h1, by rw [List.find?_cons, h2], h4, h5⟩
    · rename_i q
      obtain ⟨l', e', vv', g1, g2, g3, g4⟩ := hr.find P g
      refine ⟨l', e', vv', g1, ?_, g3, g4⟩
      rw [List.find?_cons]
      have : Leaf.isOf l' e.key = false := by
        cases q2 : Leaf.isOf l' e.key with
        | false => rfl
        | true =>
          have := (leafKind P w).inj e.key l' l q2 h2
          subst this
          exact absurd (leafD_inj h1 g1) q
      rw [this]
      exact g2
theorem KTab.map {h : Heap} {p : Addr} {ks vs : List D} (X : K.In h) (t : KTab K w p ks vs) : ∃ es : Array DictEntry, h.MapOf (leafKind P w) p (fun k => findBy Leaf.isOf es k) ∧ TabEs K w es.toList ks vs := by
  obtain ⟨es, n, hl, ht⟩ := t
  exact ⟨es, ⟨_, es, n, X _ _ hl, ⟨rfl, rfl, rfl⟩, rfl, fun e he => ht.keys e (Array.mem_toList_iff.mpr he), fun _ => rfl⟩, ht⟩
end
section
variable {X : Cx} {c : Cf} {a b : Expr} {A B : E} {pos p2 : Pos}
/-- d[k] of a dict of the module -/
def tR (K : PySem.W.Frag) (w : World) : R2 := fun x y H Q => ∃ p ks vs d r io, x = .ref p ∧ KTab K w p ks vs ∧ Rep K io H y d ∧ tabGet ks vs d = some r ∧ ∀ v, (∀ io H, Rep K io H v r) → Q v H
theorem ix_tab : IxR X (tR X.K X.w) := by
  intro value slice pins s σ H x y v u Q I rx ry h hs
  obtain ⟨p, ks, vs, d, r, io, rfl, kt, rd, hg, q⟩ := h
  obtain rfl : v = Value.ref p := rx
  obtain ⟨es, hm, te⟩ := kt.map (P := X.prog) I.kIn
  obtain ⟨l, e, vv, h1, h2, h3, h4⟩ := te.find X.prog hg
  have hf : findBy Leaf.isOf es l = some e.val := by
    obtain ⟨L⟩ := es
    unfold findBy
    rw [List.find?_toArray]
    simp only at h2
    rw [h2]
    rfl
  exact tail_any hm.typeIs slot_dict_getitem.lookup (wpAny_getItem_of (knd := leafKind X.prog X.w) (leaf_is rd ry h1) hm hf ⟨vv, H, I.tok _, h3, q vv h4⟩) hs
theorem r_tabG {x : Str} {p : Addr} {ks vs : List D} (hg : Gl X x) (hm : X.mg x = some (.ref p)) (kt : KTab X.K X.w p ks vs) (hd : (x == ("__debug__" : Str)) = false) (hb : PE X b (rdE X.K (evE c B))) (hx : ixB b = true) :
    PE X (.Subscript (.Name x p2) b pos) (rdE X.K (evE c (.tab ks vs B))) := by
  refine PE.imp (pe_ix ix_tab (pe_glob (v := .ref p) hg hm rfl hd) hb (ix_plain hx)) fun σ H Q ⟨e, io, S, d, S', hE, hW, hm, q⟩ => ?_
  simp only [evE] at hm
  obtain ⟨y, S1, h1, h2⟩ := R.bind_eq_ok hm
  obtain ⟨h3, e3⟩ := R.of_eq_ok h2
  subst e3
  exact rd1 hE hW h1 fun io1 H1 v t w r _ => ⟨p, ks, vs, y, d, io1, rfl, kt, r, h3, fun v2 r2 => q io1 H1 v2 t w (r2 io1 H1)⟩

/-! ### {k: v, ..}[i], all written out -/
/-- a constant -/
def conE : Expr → Option D
  | .Constant (.int i) _ _ => some (.int i)
  | .Constant (.str x) _ _ => some (.str x)
  | .Constant .none _ _ => some .non
  | .UnaryOp .USub (.Constant (.int i) _ _) _ => some (.int (-i))
  | _ => none
theorem wp_con {M : Model} {Au : Around} {env : PySem.Env} {E : Value → Shared → Prop} {e : Expr} {d : D} (h : conE e = some d) {s : Shared} {Q : Value → Shared → Prop}
    (q : ∀ (u : Value) (t : Nat) (vv : V), RelV vv u → (∀ K io H, Rep K io H vv d) → Q u { s with toks := t }) (prog : Program) (w : World) (hM : M = model prog w) : wpAny M Au (eval e env) Q E s := by
  subst hM
  unfold conE at h
  split at h
  · cases h
    exact wpAny_Constant_int (q _ _ (.int _) ⟨_, rfl⟩ fun _ _ _ => .int _)
  · cases h
    exact Calls.Constant_str (q _ _ (.str _) ⟨_, rfl⟩ fun _ _ _ => .str _)
  · cases h
    exact Constant_none (q _ s.toks .non rfl fun _ _ _ => .non)
  · cases h
    exact UnaryOp_ (wpAny_Constant_int (neg_int (q _ _ (.int _) ⟨_, rfl⟩ fun _ _ _ => .int _)))
  · cases h
/-- the written pairs -/
def conPs : List (Option Expr) → List Expr → List D → List D → Bool
  | [], [], [], [] => true
  | some k :: ks, v :: vs, dk :: dks, dv :: dvs => decide (conE k = some dk) && decide (conE v = some dv) && (leafD dk).isSome && conPs ks vs dks dvs
  | _, _, _, _ => false
def PairsAre : List (Leaf × Value) → List D → List D → Prop
  | [], [], [] => True
  | p :: ps, k :: ks, v :: vs => (leafD k = some p.1 ∧ ∃ vv, RelV vv p.2 ∧ ∀ K io H, Rep K io H vv v) ∧ PairsAre ps ks vs
  | _, _, _ => False
theorem wp_pair1 {prog : Program} {w : World} {Au : Around} {env : PySem.Env} {E : Value → Shared → Prop} {ps : Pos} {k v : Expr} {keys : List (Option Expr)} {values : List Expr} {dk dv : D} {s : Shared} {Q : List (Value × Value) → Shared → Prop}
    (h1 : conE k = some dk) (h2 : conE v = some dv) (q : ∀ (u u2 : Value) (t : Nat) (vv vv2 : V), RelV vv u → (∀ K io H, Rep K io H vv dk) → RelV vv2 u2 → (∀ K io H, Rep K io H vv2 dv) → wpAny (model prog w) Au (evalPairs (pairTrees keys values env ps)) (fun r s₃ => Q ((u, u2) :: r) s₃) E { s with toks := t }) :
    wpAny (model prog w) Au (evalPairs (pairTrees (some k :: keys) (v :: values) env ps)) Q E s :=
  pairTrees_cons_walk (wp_con h1 (fun u _ vv ru rr => wp_con h2 (fun u2 t2 vv2 ru2 rr2 => q u u2 t2 vv vv2 ru rr ru2 rr2) prog w rfl) prog w rfl)
theorem wp_pairs {prog : Program} {w : World} {Au : Around} {env : PySem.Env} {E : Value → Shared → Prop} {ps : Pos} (keys : List (Option Expr)) : ∀ (values : List Expr) (dks dvs : List D) (s : Shared) (Q : List (Value × Value) → Shared → Prop),
    conPs keys values dks dvs = true → (∀ vs t kvs, Carries (leafKind prog w) vs kvs → PairsAre kvs dks dvs → Q vs { s with toks := t }) → wpAny (model prog w) Au (evalPairs (pairTrees keys values env ps)) Q E s := by
  induction keys with
  | nil =>
    intro values dks dvs s Q h q
    match values, dks, dvs, h with
    | [], [], [], _ => exact pairTrees_nil_walk (q [] s.toks [] True.intro True.intro)
  | cons k keys ih =>
    intro values dks dvs s Q h q
    match k, values, dks, dvs, h with
    | some k, v :: values, dk :: dks, dv :: dvs, h =>
      simp only [conPs, Bool.and_eq_true, decide_eq_true_eq] at h
      obtain ⟨⟨⟨h1, h2⟩, h3⟩, h4⟩ := h
      obtain ⟨l, hl⟩ := Option.isSome_iff_exists.mp h3
      refine wp_pair1 h1 h2 fun u u2 t vv vv2 ru rr ru2 rr2 => ih values dks dvs _ _ h4 fun vs t3 kvs hc hp => ?_
      have hi : Leaf.isOf l u = true := leaf_is (K := []) (io := ⟨[], []⟩) (H := fun _ => none) (rr _ _ _) ru hl
      exact q ((u, u2) :: vs) t3 ((l, u2) :: kvs) ⟨hi, rfl, hc⟩ ⟨⟨hl, vv2, ru2, rr2⟩, hp⟩
theorem merged_new : ∀ (more acc : List (Leaf × Value)), ((acc ++ more).map (·.1)).Nodup → merged acc more = acc ++ more
  | [], acc, _ => by rw [List.append_nil]; rfl
  | p :: more, acc, h => by
    have e : stored acc p.1 p.2 = acc ++ [p] := by
      unfold stored
      rw [if_neg]
      intro z
      obtain ⟨q, hq, e⟩ := List.any_eq_true.mp z
      have e : q.1 = p.1 := of_decide_eq_true e
      rw [List.map_append, List.nodup_append] at h
      exact h.2.2 q.1 (List.mem_map_of_mem hq) p.1 (by rw [List.map_cons]; exact List.mem_cons_self) e
    show merged (stored acc p.1 p.2) more = _
    rw [e, merged_new more (acc ++ [p]) (by rw [List.append_assoc]; exact h), List.append_assoc]
    rfl
theorem PairsAre.nodup : ∀ {kvs : List (Leaf × Value)} {ks vs : List D}, PairsAre kvs ks vs → ks.Nodup → (kvs.map (·.1)).Nodup
  | [], _, _, _, _ => List.nodup_nil
  | p :: ps, [], _, h, _ => h.elim
  | p :: ps, _ :: _, [], h, _ => h.elim
  | p :: ps, k :: ks, v :: vs, h, n => by
    rw [List.nodup_cons] at n
    rw [List.map_cons, List.nodup_cons]
    refine ⟨fun z => ?_, h.2.nodup n.2⟩
    obtain ⟨q, hq, e⟩ := List.mem_map.mp z
    refine n.1 ?_
    have : ∀ {ps : List (Leaf × Value)} {ks vs : List D}, PairsAre ps ks vs → q ∈ ps → ∃ k ∈ ks, leafD k = some q.1 := by
      intro ps
      induction ps with
      | nil => intro _ _ _ h; cases h
      | cons p ps ih =>
        intro ks vs h hq
        cases ks with
        | nil => exact h.elim
        | cons k ks =>
          cases vs with
          | nil => exact h.elim
          | cons v vs =>
            rcases List.mem_cons.mp hq with rfl | hq
            · exact ⟨k, List.mem_cons_self, h.1.1⟩
            · obtain ⟨k', m, e⟩ := ih h.2 hq
              exact ⟨k', List.mem_cons_of_mem _ m, e⟩
    obtain ⟨k', m, e'⟩ := this h.2 hq
    rw [e] at e'
    rw [leafD_inj h.1.1 e']
    exact m
theorem PairsAre.find : ∀ {kvs : List (Leaf × Value)} {ks vs : List D} {d r : D}, PairsAre kvs ks vs → tabGet ks vs d = some r → ∃ l u vv, leafD d = some l ∧ valueAt kvs l = some u ∧ RelV vv u ∧ ∀ K io H, Rep K io H vv r
  | [], [], [], _, _, _, h => by simp only [tabGet] at h; cases h
  | [], _ :: _, _, _, _, h, _ => h.elim
  | [], [], _ :: _, _, _, h, _ => h.elim
  | e :: es, [], _, _, _, h, _ => h.elim
  | e :: es, _ :: _, [], _, _, h, _ => h.elim
  | e :: es, k :: ks, v :: vs, d, r, h, g => by
    obtain ⟨⟨h1, vv, h4, h5⟩, hr⟩ := h
    simp only [tabGet] at g
    split at g
    · rename_i q
      cases g
      subst q
      exact ⟨e.1, e.2, vv, h1, by unfold valueAt; rw [List.find?_cons, decide_eq_true rfl]; rfl, h4, h5⟩
    · rename_i q
      obtain ⟨l', u, vv', g1, g2, g3, g4⟩ := hr.find g
      refine ⟨l', u, vv', g1, ?_, g3, g4⟩
      unfold valueAt at g2 ⊢
      rw [List.find?_cons, decide_eq_false fun z => q (leafD_inj h1 (by rw [z]; exact g1))]
      exact g2
theorem r_tabD {keys : List (Option Expr)} {values : List Expr} {ks vs : List D} (hk : conPs keys values ks vs = true) (hn : ks.Nodup) (hall : keys.all (·.isSome) = true) (hl : keys.length = values.length) (h0 : keys ≠ []) (h15 : keys.length ≤ 15) (hb : PE X b (rdE X.K (evE c B))) (hx : ixB b = true) :
    PE X (.Subscript (.Dict keys values p2) b pos) (rdE X.K (evE c (.tab ks vs B))) := by
  refine ⟨fun pins s σ H Q I ⟨e, io, S, d, S', hE, hW, hm, q⟩ => ?_⟩
  simp only [evE] at hm
  obtain ⟨y, S1, h1, h2⟩ := R.bind_eq_ok hm
  obtain ⟨h3, e3⟩ := R.of_eq_ok h2
  subst e3
  refine Subscript_ (wpAny_Dict_walk (knd := leafKind X.prog X.w) hall hl h0 h15 (wp_pairs _ _ _ _ _ _ hk fun ws t kvs hc hp => ⟨kvs, hc, Heap.DictOf.new s.heap, fun h' dd hs => ?_⟩))
  rw [merged_new kvs [] (hp.nodup hn), List.nil_append] at dd
  obtain ⟨l, u0, vv, g1, g2, g3, g4⟩ := hp.find h3
  have kept : ∀ b o, s.heap.get? b = some o → h'.get? b = some o := fun b o z => by
    have hb : b ≠ s.heap.objs.size := Nat.ne_of_lt (Heap.lt_size z)
    exact (hs.2 b hb).trans (Heap.get?_push_of_some _ z)
  have I1 : Inv X pins σ H { s with heap := h', toks := t + ws.length } := I.kept kept
  obtain ⟨ob, es, ep, ho, hex, hdat, hks, hprs, hnd⟩ := dd
  have fp := I.fpOk (H' := H) (Nat.le_refl s.heap.objs.size) (I.hok.fresh (Nat.le_refl _))
  have I2 : Inv X ((s.heap.objs.size, ob) :: pins) σ H { s with heap := h', toks := t + ws.length } := I1.pins_of fun p hp => by
    rcases List.mem_cons.mp hp with rfl | hp
    · exact ⟨ho, fp.1, fp.2.1, fp.2.2.1, fun v z => by rw [hdat] at z; cases z⟩
    · exact I1.pin p (List.mem_append_right _ hp)
  refine thn (hb.run _ _ σ H _ I2 (rd1 (Q := fun v H1 => ∃ io1, Tr io H io1 H1 ∧ Wd X.K io1 H1 _ ∧ Rep X.K io1 H1 v y) hE hW h1 fun io1 H1 v t w r _ => ⟨io1, t, w, r⟩)) fun u s1 ⟨x1, H1, I3, r1, io1, t1, w1, rx⟩ => ?_
  have hget := (I3.pin (s.heap.objs.size, ob) (List.mem_append_right _ List.mem_cons_self)).1
  have dd3 : s1.heap.DictOf (leafKind X.prog X.w) s.heap.objs.size kvs := ⟨ob, es, ep, hget, hex, hdat, hks, hprs, hnd⟩
  have hm := dd3.mapOf
  have I4 : Inv X pins σ H1 s1 := I3.pins_of fun p hp => I3.pin p (List.mem_append_right _ (List.mem_cons_of_mem _ hp))
  exact tail_any hm.typeIs slot_dict_getitem.lookup (wpAny_getItem_of (knd := leafKind X.prog X.w) (leaf_is rx r1 g1) hm g2 ⟨vv, H1, I4.tok _, g3, q io1 H1 vv t1 w1 (g4 _ _ _)⟩) (ix_plain hx _ _)
end
end Ev

/-! EvSound: «this tree is that piece of the language», decided; and that it is so: the machine does what the evaluator says -/
namespace Ev
open PySem PySem.Spec PyProof.Rows L2

structure Gs where
  fns : List (Str × List Str)
  consts : List Str
  bs : List BF
  ns : List Str
  kws : List (Nat × Nat × List Str × List Nat)
  tabs : List (Str × List D × List D)
structure Cs where
  N : List Str
  sc : Scope
  raw : Option Scope
def Cs.blk (c : Cs) (scope : Scope) : Cs := ⟨c.N, relS scope c.sc, some scope⟩
def visB (sc : Scope) (x : Str) : Bool := match sc.names.lookup x with
  | some .local => true
  | some .cell => true
  | some .free => true
  | _ => false
def locB (sc : Scope) (x : Str) : Bool := match sc.names.lookup x with
  | some .local => true
  | some .cell => true
  | _ => false
def isLoc (sc : Scope) (x : Str) : Bool := match sc.names.lookup x with
  | some .local => true
  | _ => false
def glB (sc : Scope) (x : Str) : Bool := match sc.names.lookup x with
  | some .globalImplicit => true
  | _ => false
def fnB (c : Cs) (x : Str) : Bool := match c.raw with
  | none => true
  | some s => s.names.lookup x == some .cell
def plainName (x : Str) : Bool := !(x == ("__debug__" : Str)) && !(x == ("__classdict__" : Str))
/-- a comprehension that is assigned to a name hands its list to the name itself -/
def swB (sc : Scope) (y : Str) (py : Pos) (scope : Scope) (pos : Pos) : Bool :=
  isLoc sc y && (py.line == pos.line) && !(scope.names.any fun (n, k) => n == y && (k == .local || k == .cell))
def funB (sc : Scope) : Bool := match sc.kind with
  | .function => true
  | _ => false
/-- two names stored at once from a written pair -/
def parB (sc : Scope) (x y : Str) (px py : Pos) (a b : Expr) : Bool :=
  isLoc sc x && isLoc sc y && (py.line == px.line) && !(x == y) && plainB a && plainB b && !([a, b].all (foldedForSure 8)) && !([a, b].all (constantsAlone 8))
/-- a store that is none of two or three local names from a written tuple of as many -/
def noSwap (sc : Scope) (tg v : Expr) : Bool := match v with
  | .Tuple vs _ _ => (match tg with
    | .Tuple ts _ _ => (match ts, vs with
      | [.Name x _, .Name y _], [a, b] => plainB a && plainB b && (!isLoc sc x || !isLoc sc y || [a, b].all (foldedForSure 8))
      | _, _ => false)
    | .List _ _ => false
    | _ => true)
  | _ => true
def conB (d : D) (k : Const) : Bool := match d, k with
  | .int i, .int j => decide (i = j)
  | .bl i, .bool j => i == j
  | .str i, .str j => decide (i = j)
  | .non, .none => true
  | _, _ => false
def ownOf (c : Cs) (vs : List Nat) : List (Str × Nat) := vs.map fun v => (c.N.getD v (Str.ofString ""), v)
def me1B (k : MF) : Bool := k == .join || k == .append || k == .extend || k == .popAt
def sizeB (Es_ : Es) (n : Nat) : Bool := decide (Es_.length = n)

mutual
def chkE (g : Gs) (c : Cs) (ir : E) (e : Expr) : Bool :=
  match ir with
  | .var i => match e with
    | .Name x _ => decide (c.N[i]? = some x) && visB c.sc x && plainName x
    | _ => false
  | .con d => match e with
    | .Constant k _ _ => conB d k
    | _ => false
  | .glob k => match e with
    | .Name x _ => decide (g.consts[k]? = some x) && glB c.sc x && plainName x
    | _ => false
  | .bin o a b => match e with
    | .BinOp l op r _ => decide (op = o.op) && chkE g c a l && chkE g c b r
    | _ => false
  | .neg a => match e with
    | .UnaryOp .USub x _ => chkE g c a x
    | _ => false
  | .not_ a => match e with
    | .UnaryOp .Not x _ => chkE g c a x
    | _ => false
  | .and_ a b => match e with
    | .BoolOp .And (x :: y :: []) _ => chkE g c a x && chkE g c b y
    | .BoolOp .And (x :: y :: z :: r) p => chkE g c a x && chkE g c b (.BoolOp .And (y :: z :: r) p)
    | _ => false
  | .or_ a b => match e with
    | .BoolOp .Or (x :: y :: []) _ => chkE g c a x && chkE g c b y
    | .BoolOp .Or (x :: y :: z :: r) p => chkE g c a x && chkE g c b (.BoolOp .Or (y :: z :: r) p)
    | _ => false
  | .ifx t a b => match e with
    | .IfExp t' a' b' _ => chkE g c t t' && chkE g c a a' && chkE g c b b'
    | _ => false
  | .cmp o a b => match e with
    | .Compare l [op] [r] _ => decide (op = o.op) && chkE g c a l && chkE g c b r && !behindInMarks op r
    | _ => false
  | .chn o p a b d => match e with
    | .Compare l [op, op'] [m, r] _ => decide (op = o.op) && decide (op' = p.op) && chkE g c a l && chkE g c b m && chkE g c d r && !lastMarks [op, op'] [m, r]
    | _ => false
  | .tup es => match e with
    | .Tuple xs _ _ => chkEs g c es xs
    | _ => false
  | .frz n => valB e && chkN g c n e
  | .own n => valB e && chkN g c n e
  | .sub a i => match e with
    | .Subscript x y _ => chkE g c a x && chkE g c i y && ixB y
    | _ => false
  | .slc a lo hi => match e with
    | .Subscript x (.Slice l h none _) _ => chkE g c a x && chkO g c lo l && chkO g c hi h
    | _ => false
  | .call f es => match e with
    | .Call (.Name x _) as [] _ => (match g.fns[f]? with
      | some (y, _) => decide (x = y) && glB c.sc x && plainName x && chkEs g c es as
      | none => false)
    | _ => false
  | .callk f es ks perm => match e with
    | .Call (.Name x _) as kws _ => (match g.fns[f]? with
      | some (y, _) => decide (x = y) && glB c.sc x && plainName x && chkEs g c es as && chkK g c ks kws && decide ((f, as.length, kws.filterMap (·.arg), perm) ∈ g.kws) && kws.all (·.arg.isSome) && sizeB es as.length && sizeB ks (kws.filterMap (·.arg)).length
      | none => false)
    | _ => false
  | .bi k es => match e with
    | .Call (.Name x _) (a :: as) [] _ => decide (x = k.name) && glB c.sc x && decide (k ∈ g.bs) && chkEs g c es (a :: as)
    | _ => false
  | .isi a ts => match e with
    | .Call (.Name x _) [y, .Name z _] [] _ => (match ts with
      | [t] => decide (x = "isinstance") && glB c.sc x && decide (x ∈ g.ns) && decide (z = t.name) && glB c.sc z && decide (z ∈ g.ns) && plainB y && chkE g c a y
      | _ => false)
    | .Call (.Name x _) [y, .Tuple [.Name z _, .Name z2 _] _ _] [] _ => (match ts with
      | [t, t2] => decide (x = "isinstance") && glB c.sc x && decide (x ∈ g.ns) && decide (z = t.name) && glB c.sc z && decide (z ∈ g.ns) && decide (z2 = t2.name) && glB c.sc z2 && decide (z2 ∈ g.ns) && plainB y && chkE g c a y
      | _ => false)
    | _ => false
  | .me k o es => match e with
    | .Call (.Attribute x m ap) [a] [] cp => me1B k && decide (m = k.name) && chkE g c o x && chkEs g c es [a] && baseB x && (ap.endLine == cp.line)
    | .Call (.Attribute x m ap) [] [] cp => decide (k = .popLast) && decide (m = "pop") && chkE g c o x && chkEs g c es [] && baseB x && (ap.endLine == cp.line)
    | _ => false
  | .tab ks vs i => match e with
    | .Subscript (.Name x _) y _ => decide ((x, ks, vs) ∈ g.tabs) && glB c.sc x && plainName x && chkE g c i y && ixB y
    | .Subscript (.Dict keys values _) y _ => conPs keys values ks vs && decide ks.Nodup && keys.all (·.isSome) && decide (keys.length = values.length) && !keys.isEmpty && decide (keys.length ≤ 15) && chkE g c i y && ixB y
    | _ => false
  | .tabIn _ _ _ => false
def chkO (g : Gs) (c : Cs) (ir : Oe) (e : Option Expr) : Bool :=
  match ir with
  | .no => e.isNone
  | .yes a => match e with
    | some x => chkE g c a x
    | none => false
def chkEs (g : Gs) (c : Cs) (ir : Es) (es : List Expr) : Bool :=
  match ir with
  | .nil => es.isEmpty
  | .cons a r => match es with
    | x :: xs => plainB x && chkE g c a x && chkEs g c r xs
    | [] => false
def chkK (g : Gs) (c : Cs) (ir : Es) (es : List Keyword) : Bool :=
  match ir with
  | .nil => es.isEmpty
  | .cons a r => match es with
    | ⟨_, x, _⟩ :: xs => chkE g c a x && chkK g c r xs
    | [] => false
def chkT (g : Gs) (c : Cs) (ir : Es) (es : List Expr) : Bool :=
  match ir with
  | .nil => es.isEmpty
  | .cons a .nil => match es with
    | [x] => chkE g c a x
    | _ => false
  | _ => false
def chkN (g : Gs) (c : Cs) (ir : N) (e : Expr) : Bool :=
  match ir with
  | .disp es => match e with
    | .List xs _ => chkEs g c es xs
    | _ => false
  | .comp vs elt t i cs => match e with
    | .ListComp el [⟨tg, iter, ifs, isa⟩] scope _ => decide (isa = 0) && blkC c.N c.sc scope (ownOf c vs) && chkI g c i tg iter && chkG g (c.blk scope) t tg && chkT g (c.blk scope) cs ifs && chkE g (c.blk scope) elt el && setB iter && t.slots.all (fun j => decide (j ∈ vs))
    | _ => false
  | .comp2 _ _ _ _ _ _ _ _ _ => false
  | .cat a b => match e with
    | .BinOp l .Add r _ => chkE g c a l && chkE g c b r
    | _ => false
  | .rep a b => match e with
    | .BinOp l .Mult r _ => chkE g c a l && chkE g c b r
    | _ => false
  | .slc a lo hi => match e with
    | .Subscript x (.Slice l h none _) _ => chkE g c a x && chkO g c lo l && chkO g c hi h
    | _ => false
  | .rev a => match e with
    | .Subscript x (.Slice none none (some (.UnaryOp .USub (.Constant (.int k) _ _) _)) _) _ => decide (k = 1) && chkE g c a x
    | _ => false
  | .nf _ _ => false
def chkI (g : Gs) (c : Cs) (ir : I) (tg e : Expr) : Bool :=
  match ir with
  | .val a => chkE g c a e
  | .rng es => match e with
    | .Call (.Name x _) as [] _ => decide (x = "range") && glB c.sc x && decide (x ∈ g.ns) && chkEs g c es as && sizeB es as.length && (as.length == 1 || as.length == 2 || as.length == 3)
    | _ => false
  | .enu a => match e with
    | .Call (.Name x _) [y] [] _ => (match tg with
      | .Tuple _ _ _ => decide (x = "enumerate") && glB c.sc x && decide (x ∈ g.ns) && plainB y && chkE g c a y
      | _ => false)
    | _ => false
  | .zip a b => match e with
    | .Call (.Name x _) [y, z] [] _ => (match tg with
      | .Tuple _ _ _ => decide (x = "zip") && glB c.sc x && decide (x ∈ g.ns) && plainB y && plainB z && chkE g c a y && chkE g c b z
      | _ => false)
    | _ => false
def chkG (g : Gs) (c : Cs) (ir : Tg) (e : Expr) : Bool :=
  match ir with
  | .name i => match e with
    | .Name x _ => decide (c.N[i]? = some x) && locB c.sc x && (fnB c x || isLoc c.sc x)
    | _ => false
  | .tup ts => match e with
    | .Tuple es _ _ => chkGs g c ts es && es.all plainB && decide (es.length = ts.length)
    | _ => false
  | .sub o i => match e with
    | .Subscript x y _ => chkE g c o x && chkE g c i y && ixB y
    | _ => false
def chkGs (g : Gs) (c : Cs) (ir : Tgs) (es : List Expr) : Bool :=
  match ir with
  | .nil => es.isEmpty
  | .cons t r => match es with
    | x :: xs => plainB x && chkG g c t x && chkGs g c r xs
    | [] => false
end
mutual
def chkS (g : Gs) (c : Cs) (ir : Ev.S) (s : Stmt) : Bool :=
  match ir with
  | .expr a => match s with
    | .Expr x _ => chkE g c a x && compB x
    | _ => false
  | .asg t a => match s with
    | .Assign [tg] v _ => chkG g c t tg && plainB tg && noSwap c.sc tg v && funB c.sc && (match v with
      | .ListComp _ _ scope pos => (match tg with
        | .Name y py => if swB c.sc y py scope pos then (match t, a with
            | .name _, .frz n => chkN g c n v
            | .name _, .own n => chkN g c n v
            | _, _ => false) else chkE g c a v
        | _ => chkE g c a v)
      | v => compB v && chkE g c a v)
    | _ => false
  | .par i j a b => match s with
    | .Assign [.Tuple [.Name x px, .Name y py] _ _] (.Tuple [u, v] _ _) _ => parB c.sc x y px py u v && funB c.sc && decide (c.N[i]? = some x) && decide (c.N[j]? = some y) && decide (i ≠ j) && chkE g c a u && chkE g c b v
    | _ => false
  | .aug _ _ _ => false
  | .ret a => match s with
    | .Return (some x) _ => chkE g c a x
    | _ => false
  | .retN => match s with
    | .Return none _ => true
    | _ => false
  | .ifs t a b => match s with
    | .If x sa sb _ => chkE g c t x && chkSs g c a sa && chkSs g c b sb
    | _ => false
  | .for_ t i b => match s with
    | .For tg iter body [] _ => chkI g c i tg iter && chkG g c t tg && chkSs g c b body && setB iter
    | _ => false
  | .while_ t b => match s with
    | .While x body [] _ => chkE g c t x && chkSs g c b body
    | _ => false
  | .brk => match s with
    | .Break _ => true
    | _ => false
  | .cont => match s with
    | .Continue _ => true
    | _ => false
  | .pass => match s with
    | .Pass _ => true
    | .Expr (.Constant (.str _) _ _) _ => true
    | _ => false
  | .never => true
def chkSs (g : Gs) (c : Cs) (ir : Ss) (ss : List Stmt) : Bool :=
  match ir with
  | .nil => ss.isEmpty
  | .cons a r => match ss with
    | x :: xs => chkS g c a x && chkSs g c r xs
    | [] => false
end
end Ev

/-! EvSound2: the side conditions of stores -/
namespace Ev
open PySem PySem.Spec PyProof.Rows L2

theorem isLoc_eq {sc : Scope} {x : Str} (h : isLoc sc x = true) : sc.names.lookup x = some .local := by
  unfold isLoc at h
  split at h
  · assumption
  · cases h
theorem funB_eq {sc : Scope} (h : funB sc = true) : sc.kind = .function := by
  unfold funB at h
  split at h
  · assumption
  · cases h
theorem block_fun {env : PySem.Env} (h : env.scope.kind = .function) : env.blockKind = .function := by
  unfold Env.blockKind
  rw [h]
  rfl
theorem sw_any {env : PySem.Env} {y : Str} {py pos : Pos} {scope : Scope} {elt : Expr} {gs : List Comprehension} {l : Nat} (hk : env.scope.kind = .function) : swapsWith (.ListComp elt gs scope pos) (some (.Name y py)) l env = pure (swB env.scope y py scope pos) := by
  unfold swapsWith swB
  have e : (env.kindOf y == some NameKind.local) = isLoc env.scope y := by
    unfold isLoc Env.kindOf
    cases h : env.scope.names.lookup y with
    | none => rfl
    | some k => cases k <;> rfl
  simp only [block_fun hk, e, Expr.pos]
  rfl
theorem kind_loc {env : PySem.Env} {y : Str} : (env.kindOf y == some NameKind.local) = isLoc env.scope y := by
  unfold isLoc Env.kindOf
  cases h : env.scope.names.lookup y with
  | none => rfl
  | some k => cases k <;> rfl
def isStar : Expr → Bool
  | .Starred .. => true
  | _ => false
theorem one_star {a : Expr} (h1 : plainB a = true) : isStar a = false := by
  cases a <;> first | (cases h1; done) | rfl
theorem par_star {a b : Expr} (h1 : plainB a = true) (h2 : plainB b = true) : ([a, b].any fun | .Starred .. => true | _ => false) = false := by
  rw [List.any_cons, List.any_cons, List.any_nil, Bool.or_false, Bool.or_eq_false_iff]
  exact ⟨one_star h1, one_star h2⟩
theorem noSwap_ok {env : PySem.Env} {tg v : Expr} (hk : env.scope.kind = .function) (h : noSwap env.scope tg v = true) : swappedStores [tg] v env = pure none := by
  cases v with
  | Tuple vs k2 p2 =>
    cases tg with
    | Tuple ts k p =>
      simp only [noSwap] at h
      split at h
      · rename_i x px y py a b
        rw [Bool.and_eq_true, Bool.and_eq_true] at h
        obtain ⟨⟨h1, h2⟩, h3⟩ := h
        have st := par_star h1 h2
        unfold swappedStores
        simp only [block_fun hk, st, List.filterMap_cons, List.filterMap_nil, kind_loc]
        cases hx : isLoc env.scope x <;> cases hy : isLoc env.scope y <;> cases hl : (py.line == px.line) <;> cases h4 : (x == y) <;> simp_all [List.eraseDups_cons, Expr.pos] <;> rfl
      · cases h
    | List _ _ => cases h
    | _ => rfl
  | _ => cases tg <;> rfl
theorem par_ok {env : PySem.Env} {x y : Str} {px py p p2 : Pos} {k k2 : Nat} {a b : Expr} (hk : env.scope.kind = .function) (h : parB env.scope x y px py a b = true) : swappedStores [.Tuple [.Name x px, .Name y py] k p] (.Tuple [a, b] k2 p2) env = pure (some [x, y]) := by
  unfold parB at h
  simp only [Bool.and_eq_true, Bool.not_eq_true'] at h
  obtain ⟨⟨⟨⟨⟨⟨⟨h1, h2⟩, h3⟩, h4⟩, h5⟩, h6⟩, h7⟩, h8⟩ := h
  have st := par_star h5 h6
  have ed : ([x, y] : List Str).eraseDups.length = 2 := by
    have h4' : ¬ y = x := fun z => by rw [z, beq_self_eq_true] at h4; cases h4
    simp [List.eraseDups_cons, List.filter_cons, h4']
  have e2 : (py.line == px.line) = true := h3
  unfold swappedStores
  simp only [block_fun hk, st, List.filterMap_cons, List.filterMap_nil, kind_loc, h1, h2, h7, h8, Expr.pos, List.head?_cons, Option.map_some, Option.getD_some, e2, beq_self_eq_true, Bool.and_self, if_true, ed]
  exact (if_neg Bool.false_ne_true).trans ((if_neg fun z => Bool.false_ne_true (st.symm.trans z)).trans rfl)
theorem visB_ok {sc : Scope} {x : Str} (h : visB sc x = true) : Vis sc x := by
  unfold visB at h
  split at h
  · exact .inl (by assumption)
  · exact .inr (.inl (by assumption))
  · exact .inr (.inr (by assumption))
  · cases h
theorem locB_ok {sc : Scope} {x : Str} (h : locB sc x = true) : Loc sc x := by
  unfold locB at h
  split at h
  · exact .inl (by assumption)
  · exact .inr (by assumption)
  · cases h
theorem glB_ok {X : Cx} {x : Str} (h : glB X.env.scope x = true) : Gl X x := by
  unfold glB at h
  split at h
  · assumption
  · cases h
theorem plain_ok {x : Str} (h : plainName x = true) : (x == ("__debug__" : Str)) = false ∧ (x == ("__classdict__" : Str)) = false := by
  unfold plainName at h
  rw [Bool.and_eq_true, Bool.not_eq_true', Bool.not_eq_true'] at h
  exact h
structure XOk (g : Gs) (cf : Cf) (n : Nat) (c : Cs) (X : Cx) : Prop where
  N : X.N = c.N
  nd : X.N.Nodup
  sc : X.env.scope = c.sc
  calm : X.calm = true
  room : Room n X.A
  hu : X.A.units + 65 < cLine
  xe : X.xe = fun _ _ => False
  fn : ∀ x, fnB c x = true → X.fn x = true
  bs : ∀ k ∈ g.bs, BiOk X k
  ns : ∀ x ∈ g.ns, X.mg x = none
  cs : ∀ (k : Nat) (x : Str), g.consts[k]? = some x → ∃ (u : Value) (v : V) (dd : D), X.mg x = some u ∧ RelV v u ∧ cf.G[k]? = some dd ∧ ∀ io H, Rep X.K io H v dd
  fs : ∀ (f : Nat) (x : Str) (ps : List Str), g.fns[f]? = some (x, ps) → ∃ fa fd, CallOk X n x ps (cf.call f) fa fd ∧ ∀ na ks perm, (f, na, ks, perm) ∈ g.kws → KwOk X.K fd ps na ks perm
  ts : ∀ x ks vs, (x, ks, vs) ∈ g.tabs → ∃ p, X.mg x = some (.ref p) ∧ KTab X.K X.w p ks vs
theorem XOk.blk {g : Gs} {cf : Cf} {n : Nat} {c : Cs} {X : Cx} (o : XOk g cf n c X) (scope : Scope) (s : Shared) (H : Hp) (C : Addr) (cl : List (Str × Addr)) (fp : List Addr) :
    XOk g cf n (c.blk scope) (X.blk s H scope (compEnvC scope cl C X.env) fp) where
  N := o.N
  nd := o.nd
  sc := by
    show relabel scope X.env = relS scope c.sc
    rw [← o.sc]
    rfl
  calm := o.calm
  room := o.room
  hu := o.hu
  xe := rfl
  fn := fun x h => h
  bs := fun k hk => by
    have := o.bs k hk
    cases k <;> exact this
  ns := o.ns
  cs := o.cs
  fs := fun f x ps h => let ⟨fa, fd, C, K⟩ := o.fs f x ps h; ⟨fa, fd, ⟨C.gl, C.kp, C.bd, C.ok⟩, K⟩
  ts := o.ts
end Ev

/-! EvSound3: what the check says yes to, the machine does as the evaluator says -/
namespace Ev
open PySem PySem.Spec PyProof.Rows L2

section
variable {g : Gs} {cf : Cf} {n : Nat}
theorem chkEs_plain {c : Cs} : ∀ (ir : Es) (es : List Expr), chkEs g c ir es = true → es.all plainB = true
  | .nil, es, h => by
    simp only [chkEs, List.isEmpty_iff] at h
    subst h
    rfl
  | .cons a r, es, h => by
    simp only [chkEs] at h
    split at h
    · simp only [Bool.and_eq_true] at h
      rw [List.all_cons, h.1.1, chkEs_plain r _ h.2]
      rfl
    · cases h
theorem chkEs_nil {c : Cs} {ir : Es} (h : chkEs g c ir [] = true) : ir = .nil := by
  cases ir with
  | nil => rfl
  | cons a r => simp only [chkEs] at h; cases h
theorem size_ok {ir : Es} {k : Nat} (h : sizeB ir k = true) : ir.length = k := of_decide_eq_true h
mutual
theorem sndE : ∀ (ir : E) (c : Cs) (X : Cx) (e : Expr), XOk g cf n c X → chkE g c ir e = true → Snd X cf ir e
  | .var i, c, X, e, o, h => by
    simp only [chkE] at h
    split at h
    · simp only [Bool.and_eq_true, decide_eq_true_eq] at h
      obtain ⟨⟨h1, h2⟩, h3⟩ := h
      obtain ⟨h4, h5⟩ := plain_ok h3
      exact snd_of (r_var (by rw [o.N]; exact h1) (by rw [o.sc]; exact visB_ok h2) h4 h5) rfl
    · cases h
  | .con d, c, X, e, o, h => by
    simp only [chkE] at h
    split at h
    · rename_i k j p
      cases d with
      | int i =>
        cases k <;> first | cases h | skip
        have := of_decide_eq_true h
        subst this
        exact snd_of r_con_int rfl
      | bl i =>
        cases k <;> first | cases h | skip
        rename_i j
        have : i = j := by simpa [conB] using h
        subst this
        exact snd_of r_con_bl rfl
      | str i =>
        cases k <;> first | cases h | skip
        have := of_decide_eq_true h
        subst this
        exact snd_of r_con_str rfl
      | non =>
        cases k <;> first | cases h | skip
        exact snd_of r_con_non rfl
      | _ => cases k <;> cases h
    · cases h
  | .glob k, c, X, e, o, h => by
    simp only [chkE] at h
    split at h
    · simp only [Bool.and_eq_true, decide_eq_true_eq] at h
      obtain ⟨⟨h1, h2⟩, h3⟩ := h
      obtain ⟨h4, h5⟩ := plain_ok h3
      obtain ⟨u, v, dd, m1, m2, m3, m4⟩ := o.cs _ _ h1
      exact snd_of (r_glob (glB_ok (by rw [o.sc]; exact h2)) m1 m2 h4 m3 m4) rfl
    · cases h
  | .bin op a b, c, X, e, o, h => by
    simp only [chkE] at h
    split at h
    · simp only [Bool.and_eq_true, decide_eq_true_eq] at h
      obtain ⟨⟨h1, h2⟩, h3⟩ := h
      subst h1
      exact snd_of (r_bin op (sndE a c X _ o h2).1 (sndE b c X _ o h3).1) rfl
    · cases h
  | .neg a, c, X, e, o, h => by
    simp only [chkE] at h
    split at h
    · exact snd_of (r_neg (sndE a c X _ o h).1) rfl
    · cases h
  | .not_ a, c, X, e, o, h => by
    simp only [chkE] at h
    split at h
    · exact ⟨r_not (sndE a c X _ o h).1, rt_not (sndE a c X _ o h).2⟩
    · cases h
  | .and_ a b, c, X, e, o, h => by
    simp only [chkE] at h
    split at h
    · simp only [Bool.and_eq_true] at h
      exact (and_more (sndE a c X _ o h.1) (and_last (sndE b c X _ o h.2))).snd
    · simp only [Bool.and_eq_true] at h
      exact (and_more (sndE a c X _ o h.1) (sndW b c X .And _ _ o h.2)).snd
    · cases h
  | .or_ a b, c, X, e, o, h => by
    simp only [chkE] at h
    split at h
    · simp only [Bool.and_eq_true] at h
      exact (or_more (sndE a c X _ o h.1) (or_last (sndE b c X _ o h.2))).snd
    · simp only [Bool.and_eq_true] at h
      exact (or_more (sndE a c X _ o h.1) (sndW b c X .Or _ _ o h.2)).snd
    · cases h
  | .ifx t a b, c, X, e, o, h => by
    simp only [chkE] at h
    split at h
    · simp only [Bool.and_eq_true] at h
      exact r_if (sndE t c X _ o h.1.1) (sndE a c X _ o h.1.2) (sndE b c X _ o h.2)
    · cases h
  | .cmp op a b, c, X, e, o, h => by
    simp only [chkE] at h
    split at h
    · simp only [Bool.and_eq_true, decide_eq_true_eq, Bool.not_eq_true'] at h
      obtain ⟨⟨⟨h1, h2⟩, h3⟩, h4⟩ := h
      subst h1
      exact r_cmp op o.hu (sndE a c X _ o h2).1 (sndE b c X _ o h3).1 h4
    · cases h
  | .chn op p a b d, c, X, e, o, h => by
    simp only [chkE] at h
    split at h
    · simp only [Bool.and_eq_true, decide_eq_true_eq, Bool.not_eq_true'] at h
      obtain ⟨⟨⟨⟨⟨h1, h2⟩, h3⟩, h4⟩, h5⟩, h6⟩ := h
      subst h1 h2
      exact r_chn op p o.hu (sndE a c X _ o h3).1 (sndE b c X _ o h4).1 (sndE d c X _ o h5).1 h6
    · cases h
  | .tup es, c, X, e, o, h => by
    simp only [chkE] at h
    split at h
    · exact snd_of (r_tup (sndEs es c X _ o h)) rfl
    · cases h
  | .frz m, c, X, e, o, h => by
    simp only [chkE, Bool.and_eq_true] at h
    exact snd_of (r_frz (sndN m c X _ o h.2)) h.1
  | .own m, c, X, e, o, h => by
    simp only [chkE, Bool.and_eq_true] at h
    exact snd_of (r_own (sndN m c X _ o h.2)) h.1
  | .sub a i, c, X, e, o, h => by
    simp only [chkE] at h
    split at h
    · simp only [Bool.and_eq_true] at h
      exact snd_of (r_sub (sndE a c X _ o h.1.1).1 (sndE i c X _ o h.1.2).1 h.2) rfl
    · cases h
  | .slc a lo hi, c, X, e, o, h => by
    simp only [chkE] at h
    split at h
    · simp only [Bool.and_eq_true] at h
      exact snd_of (r_slc (sndE a c X _ o h.1.1).1 (sndO lo c X _ o h.1.2) (sndO hi c X _ o h.2)) rfl
    · cases h
  | .call f es, c, X, e, o, h => by
    simp only [chkE] at h
    split at h
    · rename_i x p as pos
      split at h
      · rename_i y ps hf
        simp only [Bool.and_eq_true, decide_eq_true_eq] at h
        obtain ⟨⟨⟨h1, h2⟩, h3⟩, h4⟩ := h
        subst h1
        obtain ⟨fa, fd, C, _⟩ := o.fs _ _ _ hf
        obtain ⟨h5, _⟩ := plain_ok h3
        have hg : Gl X x := glB_ok (by rw [o.sc]; exact h2)
        cases as with
        | nil =>
          have := chkEs_nil h4
          subst this
          exact snd_of (r_call0 o.room hg C h5) rfl
        | cons a as =>
          have hp := chkEs_plain _ _ h4
          rw [List.all_cons, Bool.and_eq_true] at hp
          exact snd_of (r_call o.room hg C (sndEs es c X _ o h4) hp.1 hp.2 h5) rfl
      · cases h
    · cases h
  | .callk f es ks perm, c, X, e, o, h => by
    simp only [chkE] at h
    split at h
    · rename_i x p as kws pos
      split at h
      · rename_i y ps hf
        simp only [Bool.and_eq_true, decide_eq_true_eq] at h
        obtain ⟨⟨⟨⟨⟨⟨⟨⟨h1, h2⟩, h3⟩, h4⟩, h6⟩, h7⟩, h8⟩, h9⟩, h10⟩ := h
        subst h1
        obtain ⟨fa, fd, C, K⟩ := o.fs _ _ _ hf
        obtain ⟨h5, _⟩ := plain_ok h3
        have hg : Gl X x := glB_ok (by rw [o.sc]; exact h2)
        have hk := K _ _ _ h7
        cases as with
        | nil =>
          have := chkEs_nil h4
          subst this
          exact snd_of (r_callk0 o.room hg C hk h8 (size_ok h10) (sndK ks c X _ o h6) h5 (fun _ _ _ _ => evEs_len)) rfl
        | cons a as =>
          have hp := chkEs_plain _ _ h4
          rw [List.all_cons, Bool.and_eq_true] at hp
          exact snd_of (r_callk o.room hg C hk h8 (size_ok h9) (size_ok h10) (sndEs es c X _ o h4) (sndK ks c X _ o h6) hp.1 hp.2 h5 (fun _ _ _ _ => evEs_len) (fun _ _ _ _ => evEs_len)) rfl
      · cases h
    · cases h
  | .bi k es, c, X, e, o, h => by
    simp only [chkE] at h
    split at h
    · simp only [Bool.and_eq_true, decide_eq_true_eq] at h
      obtain ⟨⟨⟨h1, h2⟩, h3⟩, h4⟩ := h
      subst h1
      have hp := chkEs_plain _ _ h4
      rw [List.all_cons, Bool.and_eq_true] at hp
      exact snd_of (r_bi k o.calm (glB_ok (by rw [o.sc]; exact h2)) (o.bs _ h3) (sndEs es c X _ o h4) hp.1 hp.2) rfl
    · cases h
  | .isi a ts, c, X, e, o, h => by
    simp only [chkE] at h
    split at h
    · split at h
      · simp only [Bool.and_eq_true, decide_eq_true_eq] at h
        obtain ⟨⟨⟨⟨⟨⟨⟨h1, h2⟩, h3⟩, h4⟩, h5⟩, h6⟩, h7⟩, h8⟩ := h
        subst h1 h4
        exact snd_of (r_isi (glB_ok (by rw [o.sc]; exact h2)) (o.ns _ h3) (glB_ok (by rw [o.sc]; exact h5)) (o.ns _ h6) (sndE a c X _ o h8).1 h7) rfl
      · cases h
    · split at h
      · simp only [Bool.and_eq_true, decide_eq_true_eq] at h
        obtain ⟨⟨⟨⟨⟨⟨⟨⟨⟨⟨h1, h2⟩, h3⟩, h4⟩, h5⟩, h6⟩, g4⟩, g5⟩, g6⟩, h7⟩, h8⟩ := h
        subst h1 h4 g4
        exact snd_of (r_isi2 (glB_ok (by rw [o.sc]; exact h2)) (o.ns _ h3) (glB_ok (by rw [o.sc]; exact h5)) (o.ns _ h6) (glB_ok (by rw [o.sc]; exact g5)) (o.ns _ g6) (sndE a c X _ o h8).1 h7) rfl
      · cases h
    · cases h
  | .me k ob es, c, X, e, o, h => by
    simp only [chkE] at h
    split at h
    · simp only [Bool.and_eq_true, decide_eq_true_eq] at h
      obtain ⟨⟨⟨⟨⟨h1, h2⟩, h3⟩, h4⟩, h5⟩, h6⟩ := h
      subst h2
      have hp := chkEs_plain _ _ h4
      rw [List.all_cons, Bool.and_eq_true] at hp
      refine snd_of (r_me1 k ?_ (sndE ob c X _ o h3).1 (sndEs es c X _ o h4) hp.1 h5 h6) rfl
      simp only [me1B, Bool.or_eq_true, beq_iff_eq] at h1
      rcases h1 with ((h1 | h1) | h1) | h1
      · exact .inl h1
      · exact .inr (.inl h1)
      · exact .inr (.inr (.inl h1))
      · exact .inr (.inr (.inr h1))
    · simp only [Bool.and_eq_true, decide_eq_true_eq] at h
      obtain ⟨⟨⟨⟨⟨h1, h2⟩, h3⟩, h4⟩, h5⟩, h6⟩ := h
      subst h1 h2
      have := chkEs_nil h4
      subst this
      exact snd_of (r_popLast (sndE ob c X _ o h3).1 h5 h6) rfl
    · cases h
  | .tab ks vs i, c, X, e, o, h => by
    simp only [chkE] at h
    split at h
    · simp only [Bool.and_eq_true, decide_eq_true_eq] at h
      obtain ⟨⟨⟨⟨h1, h2⟩, h3⟩, h4⟩, h5⟩ := h
      obtain ⟨p, m1, m2⟩ := o.ts _ _ _ h1
      exact snd_of (r_tabG (glB_ok (by rw [o.sc]; exact h2)) m1 m2 (plain_ok h3).1 (sndE i c X _ o h4).1 h5) rfl
    · simp only [Bool.and_eq_true, decide_eq_true_eq, Bool.not_eq_true', List.isEmpty_eq_false_iff] at h
      obtain ⟨⟨⟨⟨⟨⟨⟨h1, h2⟩, h3⟩, h4⟩, h5⟩, h6⟩, h7⟩, h8⟩ := h
      exact snd_of (r_tabD h1 h2 h3 h4 h5 h6 (sndE i c X _ o h7).1 h8) rfl
    · cases h
  | .tabIn _ _ _, c, X, e, o, h => by
    simp only [chkE] at h
    cases h
theorem sndW : ∀ (ir : E) (c : Cs) (X : Cx) (op : BoolOp) (xs : List Expr) (p : Pos), XOk g cf n c X → chkE g c ir (.BoolOp op xs p) = true → SndR X cf ir (.BoolOp op xs p)
  | .and_ a b, c, X, op, xs, p, o, h => by
    simp only [chkE] at h
    split at h
    · rename_i q
      cases q
      simp only [Bool.and_eq_true] at h
      exact and_more (sndE a c X _ o h.1) (and_last (sndE b c X _ o h.2))
    · rename_i q
      cases q
      simp only [Bool.and_eq_true] at h
      exact and_more (sndE a c X _ o h.1) (sndW b c X .And _ _ o h.2)
    · cases h
  | .or_ a b, c, X, op, xs, p, o, h => by
    simp only [chkE] at h
    split at h
    · rename_i q
      cases q
      simp only [Bool.and_eq_true] at h
      exact or_more (sndE a c X _ o h.1) (or_last (sndE b c X _ o h.2))
    · rename_i q
      cases q
      simp only [Bool.and_eq_true] at h
      exact or_more (sndE a c X _ o h.1) (sndW b c X .Or _ _ o h.2)
    · cases h
  | .var _, c, X, op, xs, p, o, h => by simp only [chkE] at h; cases h
  | .con _, c, X, op, xs, p, o, h => by simp only [chkE] at h; cases h
  | .glob _, c, X, op, xs, p, o, h => by simp only [chkE] at h; cases h
  | .bin _ _ _, c, X, op, xs, p, o, h => by simp only [chkE] at h; cases h
  | .neg _, c, X, op, xs, p, o, h => by simp only [chkE] at h; cases h
  | .not_ _, c, X, op, xs, p, o, h => by simp only [chkE] at h; cases h
  | .ifx _ _ _, c, X, op, xs, p, o, h => by simp only [chkE] at h; cases h
  | .cmp _ _ _, c, X, op, xs, p, o, h => by simp only [chkE] at h; cases h
  | .chn _ _ _ _ _, c, X, op, xs, p, o, h => by simp only [chkE] at h; cases h
  | .tup _, c, X, op, xs, p, o, h => by simp only [chkE] at h; cases h
  | .frz _, c, X, op, xs, p, o, h => by simp only [chkE, valB, Bool.false_and] at h; cases h
  | .own _, c, X, op, xs, p, o, h => by simp only [chkE, valB, Bool.false_and] at h; cases h
  | .sub _ _, c, X, op, xs, p, o, h => by simp only [chkE] at h; cases h
  | .slc _ _ _, c, X, op, xs, p, o, h => by simp only [chkE] at h; cases h
  | .call _ _, c, X, op, xs, p, o, h => by simp only [chkE] at h; cases h
  | .callk _ _ _ _, c, X, op, xs, p, o, h => by simp only [chkE] at h; cases h
  | .bi _ _, c, X, op, xs, p, o, h => by simp only [chkE] at h; cases h
  | .isi _ _, c, X, op, xs, p, o, h => by simp only [chkE] at h; cases h
  | .me _ _ _, c, X, op, xs, p, o, h => by simp only [chkE] at h; cases h
  | .tab _ _ _, c, X, op, xs, p, o, h => by simp only [chkE] at h; cases h
  | .tabIn _ _ _, c, X, op, xs, p, o, h => by simp only [chkE] at h; cases h
theorem sndO : ∀ (ir : Oe) (c : Cs) (X : Cx) (e : Option Expr), XOk g cf n c X → chkO g c ir e = true → PO X e (rdO X.K (evO cf ir))
  | .no, c, X, e, o, h => by
    simp only [chkO, Option.isNone_iff_eq_none] at h
    subst h
    exact r_pno
  | .yes a, c, X, e, o, h => by
    simp only [chkO] at h
    split at h
    · exact r_pyes (sndE a c X _ o h).1
    · cases h
theorem sndEs : ∀ (ir : Es) (c : Cs) (X : Cx) (es : List Expr), XOk g cf n c X → chkEs g c ir es = true → PA X es (rdA X.K (evEs cf ir))
  | .nil, c, X, es, o, h => by
    simp only [chkEs, List.isEmpty_iff] at h
    subst h
    exact r_nil
  | .cons a r, c, X, es, o, h => by
    simp only [chkEs] at h
    split at h
    · simp only [Bool.and_eq_true] at h
      exact r_cons (sndE a c X _ o h.1.2).1 (sndEs r c X _ o h.2) h.1.1
    · cases h
theorem sndK : ∀ (ir : Es) (c : Cs) (X : Cx) (es : List Keyword), XOk g cf n c X → chkK g c ir es = true → PK X es (rdA X.K (evEs cf ir))
  | .nil, c, X, es, o, h => by
    simp only [chkK, List.isEmpty_iff] at h
    subst h
    exact r_knil
  | .cons a r, c, X, es, o, h => by
    simp only [chkK] at h
    split at h
    · simp only [Bool.and_eq_true] at h
      exact r_kcons (sndE a c X _ o h.1).1 (sndK r c X _ o h.2)
    · cases h
theorem sndT : ∀ (ir : Es) (c : Cs) (X : Cx) (es : List Expr), XOk g cf n c X → chkT g c ir es = true → PTs X es (rdB X.K (evT cf ir))
  | .nil, c, X, es, o, h => by
    simp only [chkT, List.isEmpty_iff] at h
    subst h
    exact r_tnil
  | .cons a .nil, c, X, es, o, h => by
    simp only [chkT] at h
    split at h
    · exact r_tone (sndE a c X _ o h).2
    · cases h
  | .cons a (.cons _ _), c, X, es, o, h => by
    simp only [chkT] at h
    cases h
theorem sndN : ∀ (ir : N) (c : Cs) (X : Cx) (e : Expr), XOk g cf n c X → chkN g c ir e = true → PE X e (rdN X.K (evN cf ir))
  | .disp es, c, X, e, o, h => by
    simp only [chkN] at h
    split at h
    · exact r_disp (sndEs es c X _ o h)
    · cases h
  | .comp vs elt t i cs, c, X, e, o, h => by
    simp only [chkN] at h
    split at h
    · rename_i el tg iter ifs isa scope pos
      simp only [Bool.and_eq_true, decide_eq_true_eq] at h
      obtain ⟨⟨⟨⟨⟨⟨⟨h1, h2⟩, h3⟩, h4⟩, h5⟩, h6⟩, h7⟩, h8⟩ := h
      subst h1
      have ev : (ownOf c vs).map (·.2) = vs := by
        unfold ownOf
        rw [List.map_map]
        exact List.map_id vs
      have hb := blkOk_by h2
      rw [← o.N, ← o.sc] at hb
      have := r_comp (X := X) (c := cf) (cs := cs) (g := t) (pos := pos) o.calm o.nd (sndI i c X tg iter o h3) hb (fun s H C cl fp => sndG t _ _ tg (o.blk scope s H C cl fp) h4) (fun s H C cl fp => sndT cs _ _ ifs (o.blk scope s H C cl fp) h5) (fun s H C cl fp => (sndE elt _ _ el (o.blk scope s H C cl fp) h6).1) h7 (fun j hj => by rw [ev]; exact of_decide_eq_true (List.all_eq_true.mp h8 j hj))
      rw [ev] at this
      exact this
    · cases h
  | .comp2 _ _ _ _ _ _ _ _ _, c, X, e, o, h => by
    simp only [chkN] at h
    cases h
  | .cat a b, c, X, e, o, h => by
    simp only [chkN] at h
    split at h
    · simp only [Bool.and_eq_true] at h
      exact r_cat (sndE a c X _ o h.1).1 (sndE b c X _ o h.2).1
    · cases h
  | .rep a b, c, X, e, o, h => by
    simp only [chkN] at h
    split at h
    · simp only [Bool.and_eq_true] at h
      exact r_rep (sndE a c X _ o h.1).1 (sndE b c X _ o h.2).1
    · cases h
  | .slc a lo hi, c, X, e, o, h => by
    simp only [chkN] at h
    split at h
    · simp only [Bool.and_eq_true] at h
      exact r_lslc (sndE a c X _ o h.1.1).1 (sndO lo c X _ o h.1.2) (sndO hi c X _ o h.2)
    · cases h
  | .rev a, c, X, e, o, h => by
    simp only [chkN] at h
    split at h
    · simp only [Bool.and_eq_true, decide_eq_true_eq] at h
      obtain ⟨h1, h2⟩ := h
      subst h1
      exact r_rev (sndE a c X _ o h2).1
    · cases h
  | .nf _ _, c, X, e, o, h => by
    simp only [chkN] at h
    cases h
theorem sndI : ∀ (ir : I) (c : Cs) (X : Cx) (tg e : Expr), XOk g cf n c X → chkI g c ir tg e = true → PI X tg e (rdI X.K (evI cf ir))
  | .val a, c, X, tg, e, o, h => by
    simp only [chkI] at h
    exact r_ival (sndE a c X _ o h).1
  | .rng es, c, X, tg, e, o, h => by
    simp only [chkI] at h
    split at h
    · rename_i x p as pos
      simp only [Bool.and_eq_true, decide_eq_true_eq] at h
      obtain ⟨⟨⟨⟨⟨h1, h2⟩, h3⟩, h4⟩, h5⟩, h6⟩ := h
      subst h1
      have hg : Gl X "range" := glB_ok (by rw [o.sc]; exact h2)
      have hp := chkEs_plain _ _ h4
      have ha := sndEs es c X _ o h4
      match as, h6, h5, hp, ha with
      | [a], _, h5, hp, ha =>
        simp only [List.all_cons, List.all_nil, Bool.and_eq_true] at hp
        exact r_rng1 hg (o.ns _ h3) ha hp.1 (size_ok h5)
      | [a, b], _, h5, hp, ha =>
        simp only [List.all_cons, List.all_nil, Bool.and_eq_true] at hp
        exact r_rng2 hg (o.ns _ h3) ha hp.1 hp.2.1 (size_ok h5)
      | [a, b, d], _, h5, hp, ha =>
        simp only [List.all_cons, List.all_nil, Bool.and_eq_true] at hp
        exact r_rng3 hg (o.ns _ h3) ha hp.1 hp.2.1 hp.2.2.1 (size_ok h5)
      | [], h6, _, _, _ => cases h6
      | _ :: _ :: _ :: _ :: _, h6, _, _, _ => simp at h6
    · cases h
  | .enu a, c, X, tg, e, o, h => by
    simp only [chkI] at h
    split at h
    · split at h
      · simp only [Bool.and_eq_true, decide_eq_true_eq] at h
        obtain ⟨⟨⟨⟨h1, h2⟩, h3⟩, h4⟩, h5⟩ := h
        subst h1
        exact r_enu (glB_ok (by rw [o.sc]; exact h2)) (o.ns _ h3) (sndE a c X _ o h5).1 h4
      · cases h
    · cases h
  | .zip a b, c, X, tg, e, o, h => by
    simp only [chkI] at h
    split at h
    · split at h
      · simp only [Bool.and_eq_true, decide_eq_true_eq] at h
        obtain ⟨⟨⟨⟨⟨⟨h1, h2⟩, h3⟩, h4⟩, h5⟩, h6⟩, h7⟩ := h
        subst h1
        exact r_zip (glB_ok (by rw [o.sc]; exact h2)) (o.ns _ h3) (sndE a c X _ o h6).1 (sndE b c X _ o h7).1 h4 h5
      · cases h
    · cases h
theorem sndG : ∀ (ir : Tg) (c : Cs) (X : Cx) (e : Expr), XOk g cf n c X → chkG g c ir e = true → PG X e (rdG X.K ir.slots (fun d e S => evG cf ir d e S))
  | .name i, c, X, e, o, h => by
    simp only [chkG] at h
    split at h
    · simp only [Bool.and_eq_true, decide_eq_true_eq, Bool.or_eq_true] at h
      obtain ⟨⟨h1, h2⟩, h3⟩ := h
      refine r_gname o.nd (by rw [o.N]; exact h1) (by rw [o.sc]; exact locB_ok h2) ?_
      rcases h3 with h3 | h3
      · exact .inl (o.fn _ h3)
      · exact .inr (by rw [o.sc]; exact isLoc_eq h3)
    · cases h
  | .tup ts, c, X, e, o, h => by
    simp only [chkG] at h
    split at h
    · simp only [Bool.and_eq_true, decide_eq_true_eq] at h
      exact r_gtup o.calm (sndGs ts c X _ o h.1.1) h.1.2 h.2
    · cases h
  | .sub ob i, c, X, e, o, h => by
    simp only [chkG] at h
    split at h
    · simp only [Bool.and_eq_true] at h
      exact r_gsub (sndE ob c X _ o h.1.1).1 (sndE i c X _ o h.1.2).1 h.2
    · cases h
theorem sndGs : ∀ (ir : Tgs) (c : Cs) (X : Cx) (es : List Expr), XOk g cf n c X → chkGs g c ir es = true → PGs X es (rdGs X.K ir.slots (fun ds e S => evGs cf ir ds e S))
  | .nil, c, X, es, o, h => by
    simp only [chkGs, List.isEmpty_iff] at h
    subst h
    exact r_gnil
  | .cons t r, c, X, es, o, h => by
    simp only [chkGs] at h
    split at h
    · simp only [Bool.and_eq_true] at h
      exact r_gcons (sndG t c X _ o h.1.2) (sndGs r c X _ o h.2) h.1.1
    · cases h
end
end
end Ev

/-! EvSound4: statements -/
namespace Ev
open PySem PySem.Spec PyProof.Rows L2

section
variable {g : Gs} {cf : Cf} {n : Nat}
theorem swB_eq {X : Cx} {c : Cs} {y : Str} {py pos : Pos} {l : Nat} {scope : Scope} {elt : Expr} {gs : List Comprehension} (o : XOk g cf n c X) (hk : funB c.sc = true) : swapsWith (.ListComp elt gs scope pos) (some (.Name y py)) l X.env = pure (swB c.sc y py scope pos) := by
  rw [sw_any (by rw [o.sc]; exact funB_eq hk), o.sc]
theorem sole_name {y : Str} {py : Pos} {v : Expr} {l : Nat} {env : PySem.Env} : swapsWithSole [.Name y py] v l env = swapsWith v (some (.Name y py)) l env := rfl
theorem swB_loc {sc : Scope} {y : Str} {py pos : Pos} {scope : Scope} (h : swB sc y py scope pos = true) : isLoc sc y = true := by
  unfold swB at h
  simp only [Bool.and_eq_true] at h
  exact h.1.1
/-- a comprehension's list, stored in its name -/
theorem snd_setcomp {c : Cs} {X : Cx} {y : Str} {py pos spos : Pos} {elt : Expr} {gens : List Comprehension} {scope : Scope} {k : Nat} {m : N} (keep : Bool) (o : XOk g cf n c X) (hk : funB c.sc = true) (hG : chkG g c (.name k) (.Name y py) = true) (hs : swB c.sc y py scope pos = true) (hN : chkN g c m (.ListComp elt gens scope pos) = true) :
    PS X (.Assign [.Name y py] (.ListComp elt gens scope pos) spos) (rdS X.K (evS cf (.asg (.name k) (if keep then .own m else .frz m)))) := by
  simp only [chkG, Bool.and_eq_true, decide_eq_true_eq] at hG
  cases m with
  | comp vs el t i cs =>
    simp only [chkN] at hN
    split at hN
    · rename_i el2 tg iter ifs isa scope pos q
      cases q
      simp only [Bool.and_eq_true, decide_eq_true_eq] at hN
      obtain ⟨⟨⟨⟨⟨⟨⟨h1, h2⟩, h3⟩, h4⟩, h5⟩, h6⟩, h7⟩, h8⟩ := hN
      subst h1
      have ev : (ownOf c vs).map (·.2) = vs := by
        unfold ownOf
        rw [List.map_map]
        exact List.map_id vs
      have hb := blkOk_by h2
      rw [← o.N, ← o.sc] at hb
      have hsw : swapsWith (.ListComp elt [⟨tg, iter, ifs, 0⟩] scope pos) (some (.Name y py)) spos.line X.env = pure true := by rw [swB_eq o hk, hs]
      have := r_setcomp (X := X) (c := cf) (cs := cs) (g := t) (pos := pos) (spos := spos) (keep := keep) o.calm o.nd (by rw [o.N]; exact hG.1.1) (by rw [o.sc]; exact isLoc_eq (swB_loc hs)) hsw (sndI i c X tg iter o h3) hb (fun s H C cl fp => sndG t _ _ tg (o.blk scope s H C cl fp) h4) (fun s H C cl fp => sndT cs _ _ ifs (o.blk scope s H C cl fp) h5) (fun s H C cl fp => (sndE el _ _ elt (o.blk scope s H C cl fp) h6).1) h7 (fun j hj => by rw [ev]; exact of_decide_eq_true (List.all_eq_true.mp h8 j hj))
      rw [ev] at this
      exact this
    · cases hN
  | _ => simp only [chkN] at hN; cases hN
mutual
theorem sndS : ∀ (ir : Ev.S) (c : Cs) (X : Cx) (s : Stmt), XOk g cf n c X → chkS g c ir s = true → PS X s (rdS X.K (evS cf ir))
  | .expr a, c, X, s, o, h => by
    simp only [chkS] at h
    split at h
    · simp only [Bool.and_eq_true] at h
      exact r_sexpr (sndE a c X _ o h.1).1 h.2
    · cases h
  | .asg t a, c, X, s, o, h => by
    simp only [chkS] at h
    split at h
    · rename_i tg v pos
      simp only [Bool.and_eq_true] at h
      obtain ⟨⟨⟨⟨h1, h2⟩, h3⟩, h4⟩, h5⟩ := h
      have hw : swappedStores [tg] v X.env = pure none := noSwap_ok (by rw [o.sc]; exact funB_eq h4) (by rw [o.sc]; exact h3)
      split at h5
      · split at h5
        · rename_i y py
          split at h5
          · rename_i hs
            split at h5
            · exact snd_setcomp false o h4 h1 hs h5
            · exact snd_setcomp true o h4 h1 hs h5
            · cases h5
          · rename_i hs
            refine r_sasg (sndE a c X _ o h5).1 (sndG t c X _ o h1) ?_ hw h2
            rw [sole_name, swB_eq o h4, Bool.eq_false_iff.mpr hs]
        · rename_i hn
          refine r_sasg (sndE a c X _ o h5).1 (sndG t c X _ o h1) ?_ hw h2
          cases tg <;> first | exact absurd rfl (hn _ _) | rfl
      · rename_i hn
        simp only [Bool.and_eq_true] at h5
        exact r_sasg (sndE a c X _ o h5.2).1 (sndG t c X _ o h1) (sw_plain h5.1) hw h2
    · cases h
  | .par i j a b, c, X, s, o, h => by
    simp only [chkS] at h
    split at h
    · simp only [Bool.and_eq_true, decide_eq_true_eq] at h
      obtain ⟨⟨⟨⟨⟨⟨h1, h2⟩, h3⟩, h4⟩, h5⟩, h6⟩, h7⟩ := h
      have hp := h1
      unfold parB at hp
      simp only [Bool.and_eq_true] at hp
      exact r_spar o.calm o.nd (by rw [o.N]; exact h3) (by rw [o.N]; exact h4) h5 (by rw [o.sc]; exact isLoc_eq hp.1.1.1.1.1.1.1) (by rw [o.sc]; exact isLoc_eq hp.1.1.1.1.1.1.2) (sndE a c X _ o h6).1 (sndE b c X _ o h7).1 hp.1.1.1.2 hp.1.1.2 (par_ok (by rw [o.sc]; exact funB_eq h2) (by rw [o.sc]; exact h1))
    · cases h
  | .aug _ _ _, c, X, s, o, h => by
    simp only [chkS] at h
    cases h
  | .ret a, c, X, s, o, h => by
    simp only [chkS] at h
    split at h
    · exact r_sret (sndE a c X _ o h).1
    · cases h
  | .retN, c, X, s, o, h => by
    simp only [chkS] at h
    split at h
    · exact r_sretN
    · cases h
  | .ifs t a b, c, X, s, o, h => by
    simp only [chkS] at h
    split at h
    · simp only [Bool.and_eq_true] at h
      exact r_sif (sndE t c X _ o h.1.1).2 (sndSs a c X _ o h.1.2) (sndSs b c X _ o h.2)
    · cases h
  | .for_ t i b, c, X, s, o, h => by
    simp only [chkS] at h
    split at h
    · simp only [Bool.and_eq_true] at h
      exact r_sfor o.xe o.calm (sndI i c X _ _ o h.1.1.1) (sndG t c X _ o h.1.1.2) (sndSs b c X _ o h.1.2) h.2
    · cases h
  | .while_ t b, c, X, s, o, h => by
    simp only [chkS] at h
    split at h
    · simp only [Bool.and_eq_true] at h
      exact r_swhile o.xe (sndE t c X _ o h.1).2 (sndSs b c X _ o h.2)
    · cases h
  | .brk, c, X, s, o, h => by
    simp only [chkS] at h
    split at h
    · exact r_sbrk
    · cases h
  | .cont, c, X, s, o, h => by
    simp only [chkS] at h
    split at h
    · exact r_scont
    · cases h
  | .pass, c, X, s, o, h => by
    simp only [chkS] at h
    split at h
    · exact r_spass
    · exact r_sdoc
    · cases h
  | .never, c, X, s, o, h => r_snever
theorem sndSs : ∀ (ir : Ss) (c : Cs) (X : Cx) (ss : List Stmt), XOk g cf n c X → chkSs g c ir ss = true → PSs X ss (rdS X.K (evSs cf ir))
  | .nil, c, X, ss, o, h => by
    simp only [chkSs, List.isEmpty_iff] at h
    subst h
    exact r_snil
  | .cons a r, c, X, ss, o, h => by
    simp only [chkSs] at h
    split at h
    · simp only [Bool.and_eq_true] at h
      exact r_scons (sndS a c X _ o h.1) (sndSs r c X _ o h.2)
    · cases h
end
end
end Ev

/-! EvFn: the end of a call; all functions of a text at once -/
namespace Ev
open PySem PySem.Spec PyProof.Rows L2

section
variable {K : PySem.W.Frag} {io io1 io2 : Pl} {H H1 : Hp} {S S1 : Sto}
theorem lowL_ints {b : Nat} : ∀ is : List Int, D.lowL b (is.map D.int) = true
  | [] => rfl
  | i :: is => by simp only [List.map_cons, D.lowL, D.low, Bool.true_and]; exact lowL_ints is
mutual
theorem Rep.isLow : ∀ {v : V} {d : D}, Rep K io H v d → D.low io.io.length d = true
  | _, _, .non => rfl
  | _, _, .bl b => rfl
  | _, _, .int i => rfl
  | _, _, .str x => rfl
  | _, _, .tup h r => by simp only [D.low]; exact RepL.isLow r
  | _, _, .lst h n r => by simp only [D.low]; exact RepL.isLow r
  | _, _, .sq (is := is) h => by
    simp only [D.low]
    exact lowL_ints is
  | _, _, .own h => by
    simp only [D.low, decide_eq_true_eq]
    exact (List.getElem?_eq_some_iff.mp h).1
theorem RepL.isLow : ∀ {v : List V} {d : List D}, RepL K io H v d → D.lowL io.io.length d = true
  | _, _, .nil => rfl
  | _, _, .cons h r => by simp only [D.lowL, Rep.isLow h, RepL.isLow r, Bool.and_self]
end
mutual
/-- fewer places, but all that are named -/
theorem Rep.fewer {b : Nat} (hg : ∀ n, n < b → io2.io[n]? = io1.io[n]?) (hn : ∀ x, io1.No x → io2.No x) : ∀ {v : V} {d : D}, Rep K io1 H v d → D.low b d = true → Rep K io2 H v d
  | _, _, .non, _ => .non
  | _, _, .bl b, _ => .bl b
  | _, _, .int i, _ => .int i
  | _, _, .str x, _ => .str x
  | _, _, .tup h r, l => .tup h (RepL.fewer hg hn r (by simpa only [D.low] using l))
  | _, _, .lst h n r, l => .lst h (hn _ n) (RepL.fewer hg hn r (by simpa only [D.low] using l))
  | _, _, .sq h, _ => .sq h
  | _, _, .own h, l => .own (by rw [hg _ (of_decide_eq_true l)]; exact h)
theorem RepL.fewer {b : Nat} (hg : ∀ n, n < b → io2.io[n]? = io1.io[n]?) (hn : ∀ x, io1.No x → io2.No x) : ∀ {v : List V} {d : List D}, RepL K io1 H v d → D.lowL b d = true → RepL K io2 H v d
  | _, _, .nil, _ => .nil
  | _, _, .cons h r, l => by
    simp only [D.lowL, Bool.and_eq_true] at l
    exact .cons (Rep.fewer hg hn h l.1) (RepL.fewer hg hn r l.2)
end
theorem outer_at {b : Nat} : ∀ {S S1 : Sto} {n : Nat} {o : Ob}, outerOk b S S1 = true → S[n]? = some o → ∃ o', S1[n]? = some o' ∧ (o' = o ∨ o'.low b = true)
  | [], _, _, _, _, h => by simp at h
  | _ :: _, [], _, _, h, _ => by simp only [outerOk] at h; cases h
  | x :: r, y :: r', 0, o, h, e => by
    simp only [outerOk, Bool.and_eq_true, Bool.or_eq_true, decide_eq_true_eq] at h
    have e : x = o := by simpa using e
    subst e
    exact ⟨y, rfl, h.1⟩
  | x :: r, y :: r', n + 1, o, h, e => by
    simp only [outerOk, Bool.and_eq_true] at h
    obtain ⟨o', e1, e2⟩ := outer_at h.2 (by simpa using e)
    exact ⟨o', by simpa using e1, e2⟩
theorem outer_len {b : Nat} : ∀ {S S1 : Sto}, outerOk b S S1 = true → S.length ≤ S1.length
  | [], _, _ => Nat.zero_le _
  | _ :: _, [], h => by simp only [outerOk] at h; cases h
  | x :: r, y :: r', h => by
    simp only [outerOk, Bool.and_eq_true] at h
    exact Nat.succ_le_succ (outer_len h.2)
theorem ObR.isLow {a : Addr} {o : Ob} (h : ObR K io H a o) : o.low io.io.length = true := by
  cases o with
  | lst ds => obtain ⟨vs, _, r⟩ := h; exact r.isLow
  | dic _ _ => exact h.elim
theorem ObR.fewer {b : Nat} (hg : ∀ n, n < b → io2.io[n]? = io1.io[n]?) (hn : ∀ x, io1.No x → io2.No x) {a : Addr} {o : Ob} (h : ObR K io1 H a o) (l : o.low b = true) : ObR K io2 H a o := by
  cases o with
  | lst ds => obtain ⟨vs, e, r⟩ := h; exact ⟨vs, e, r.fewer hg hn l⟩
  | dic _ _ => exact h.elim
theorem mapM_rep {f : D → Option D} (ih : ∀ {v : V} {d d' : D}, f d = some d' → Rep K io1 H v d → Rep K io2 H v d') : ∀ {xs ys : List D} {vs : List V}, xs.mapM f = some ys → RepL K io1 H vs xs → RepL K io2 H vs ys
  | [], ys, vs, h, r => by
    cases r
    rw [List.mapM_nil] at h
    cases h
    exact .nil
  | x :: xs, ys, vs, h, r => by
    cases r with
    | cons r rr =>
      rw [List.mapM_cons] at h
      obtain ⟨y, h1, h2⟩ := Option.bind_eq_some_iff.mp h
      obtain ⟨ys', h3, h4⟩ := Option.bind_eq_some_iff.mp h2
      cases h4
      exact .cons (ih h1 r) (mapM_rep ih h3 rr)
/-- what was made within a call, by value -/
theorem frz_rep (w1 : Wd K io1 H S1) (t : ∃ r, io1.io = io.io ++ r) (hh : io1.hd = io.hd) : ∀ (k : Nat) {v : V} {d d' : D}, frz S1 io.io.length k d = some d' → Rep K io1 H v d → Rep K io H v d'
  | 0, _, _, _, h, _ => by simp only [frz] at h; cases h
  | k + 1, v, d, d', h, r => by
    have hg : ∀ n, n < io.io.length → io.io[n]? = io1.io[n]? := fun n hn => by
      obtain ⟨r, e⟩ := t
      rw [e, List.getElem?_append_left hn]
    have hn : ∀ x, io1.No x → io.No x := fun x hx => ⟨fun z => hx.1 (by obtain ⟨r, e⟩ := t; rw [e]; exact List.mem_append_left _ z), by rw [← hh]; exact hx.2⟩
    have ih : ∀ {v : V} {d d' : D}, frz S1 io.io.length k d = some d' → Rep K io1 H v d → Rep K io H v d' := fun {v d d'} => frz_rep w1 t hh k
    simp only [frz] at h
    split at h
    · rename_i l
      cases h
      exact r.fewer hg hn l
    · rename_i l
      split at h
      · rename_i n
        split at h
        · rename_i xs e
          obtain ⟨ys, h1, h2⟩ := Option.map_eq_some_iff.mp h
          subst h2
          cases r with
          | own ea =>
            rename_i a
            obtain ⟨ob, e1, q⟩ := w1.at ea
            rw [e] at e1
            cases e1
            obtain ⟨vs, e2, rs⟩ := q
            have hge : io.io.length ≤ n := by
              simp only [D.low, decide_eq_true_eq] at l
              omega
            refine .lst e2 ⟨fun z => ?_, fun z => (w1.hid a (by rw [hh]; exact z)).1 (List.mem_of_getElem? ea)⟩ (mapM_rep ih h1 rs)
            obtain ⟨m, hm⟩ := List.getElem?_of_mem z
            have hlt := (List.getElem?_eq_some_iff.mp hm).1
            rw [hg m hlt] at hm
            have := (List.getElem?_inj (List.getElem?_eq_some_iff.mp hm).1 w1.nd).mp (hm.trans ea.symm)
            omega
        · cases h
      · rename_i xs
        obtain ⟨ys, h1, h2⟩ := Option.map_eq_some_iff.mp h
        subst h2
        cases r with
        | tup hs rs => exact .tup hs (mapM_rep ih h1 rs)
      · rename_i xs
        obtain ⟨ys, h1, h2⟩ := Option.map_eq_some_iff.mp h
        subst h2
        cases r with
        | lst hs n rs => exact .lst hs (hn _ n) (mapM_rep ih h1 rs)
      · cases h
/-- behind a call, the callee's places forgotten -/
theorem Wd.fewer (w : Wd K io H S) (t : Tr io H io1 H1) (w1 : Wd K io1 H1 S1) (ho : outerOk S.length S S1 = true) : Wd K io H1 (S1.take S.length) := by
  have hl := outer_len ho
  have hg : ∀ n, n < io.io.length → io.io[n]? = io1.io[n]? := fun n hn => by
    obtain ⟨r, e⟩ := t.pre
    rw [e, List.getElem?_append_left hn]
  have hn : ∀ x, io1.No x → io.No x := fun x hx => ⟨fun z => hx.1 (t.sub z), by rw [← t.hd]; exact hx.2⟩
  refine ⟨by rw [List.length_take, w.len]; omega, w.nd, fun n a o e1 e2 => ?_, fun a ha => ⟨fun z => (w1.hid a (by rw [t.hd]; exact ha)).1 (t.sub z), (w1.hid a (by rw [t.hd]; exact ha)).2⟩⟩
  have hlt := (List.getElem?_eq_some_iff.mp e1).1
  obtain ⟨ob, e3, q⟩ := w.at e1
  obtain ⟨o', e4, e5⟩ := outer_at ho e3
  have e6 : S1[n]? = some o := by
    rw [List.getElem?_take] at e2
    split at e2
    · exact e2
    · cases e2
  rw [e4] at e6
  cases e6
  have q1 := w1.ob n a o (t.get e1) e4
  refine q1.fewer hg hn ?_
  rcases e5 with e5 | e5
  · subst e5
    exact q.isLow
  · rw [w.len]
    exact e5
theorem Tr.fewer (t : Tr io H io1 H1) : Tr io H io H1 := ⟨⟨[], by simp⟩, rfl, t.keep, fun a h n => absurd h n⟩
theorem finish_rep {keep : Bool} {d r : D} {v : V} {S' : Sto} (w : Wd K io H S) (t : Tr io H io1 H1) (w1 : Wd K io1 H1 S1) (rv : Rep K io1 H1 v d) (h : finish keep S d S1 = .ok r S') :
    ∃ io2, Tr io H io2 H1 ∧ Wd K io2 H1 S' ∧ Rep K io2 H1 v r := by
  have hl := w.len
  unfold finish at h
  split at h
  · rename_i ho
    have wf := w.fewer t w1 ho
    have hlen := outer_len ho
    split at h
    · rename_i n
      split at h
      · rename_i hn
        cases h
        refine ⟨io, t.fewer, wf, ?_⟩
        cases rv with
        | own e =>
          refine .own ?_
          obtain ⟨r, e2⟩ := t.pre
          rw [e2, List.getElem?_append_left (by omega)] at e
          exact e
      · rename_i hn
        split at h
        · rename_i o eo
          split at h
          · rename_i lo
            cases h
            cases rv with
            | own e =>
              rename_i a
              have am : a ∈ io1.io := List.mem_of_getElem? e
              have an : a ∉ io.io := fun z => by
                obtain ⟨m, hm⟩ := List.getElem?_of_mem z
                have hlt := (List.getElem?_eq_some_iff.mp hm).1
                have := (List.getElem?_inj (List.getElem?_eq_some_iff.mp e).1 w1.nd).mp (e.trans (t.get hm).symm)
                omega
              have hg : ∀ n, n < io.io.length → (io.io ++ [a])[n]? = io1.io[n]? := fun n hn => by
                obtain ⟨r, e⟩ := t.pre
                rw [e, List.getElem?_append_left hn, List.getElem?_append_left hn]
              have hno : ∀ x, io1.No x → (⟨io.io ++ [a], io.hd⟩ : Pl).No x := fun x hx => ⟨fun z => by
                rcases List.mem_append.mp z with z | z
                · exact hx.1 (t.sub z)
                · rw [List.mem_singleton.mp z] at hx
                  exact hx.1 am, by rw [← t.hd]; exact hx.2⟩
              have ea : (io.io ++ [a])[S.length]? = some a := by
                rw [← hl, List.getElem?_append_right (Nat.le_refl _), Nat.sub_self]
                rfl
              refine ⟨⟨io.io ++ [a], io.hd⟩, ⟨⟨[a], rfl⟩, rfl, t.keep, fun x hx nx => ?_⟩, ⟨?_, ?_, fun m b ob e1 e2 => ?_, fun b hb => ⟨fun z => ?_, (wf.hid b hb).2⟩⟩, .own ea⟩
              · rcases List.mem_append.mp hx with hx | hx
                · exact absurd hx nx
                · rw [List.mem_singleton.mp hx]
                  exact t.new a am an
              · rw [List.length_append, List.length_append, List.length_take]
                show io.io.length + 1 = min S.length S1.length + 1
                omega
              · refine List.nodup_append.mpr ⟨w.nd, by simp, fun x hx y hy z => ?_⟩
                rw [List.mem_singleton.mp hy] at z
                rw [z] at hx
                exact an hx
              · by_cases hm : m < io.io.length
                · have e1' : io.io[m]? = some b := by
                    rw [List.getElem?_append_left hm] at e1
                    exact e1
                  obtain ⟨o0, e3, q⟩ := w.at e1'
                  obtain ⟨o', e4, e5⟩ := outer_at ho e3
                  rw [List.getElem?_append_left (by rw [List.length_take]; omega), List.getElem?_take, if_pos (by omega), e4] at e2
                  cases e2
                  refine (w1.ob m b ob (t.get e1') e4).fewer hg hno ?_
                  rcases e5 with e5 | e5
                  · subst e5
                    exact q.isLow
                  · rw [hl]
                    exact e5
                · have hm2 : m = S.length := by
                    have := (List.getElem?_eq_some_iff.mp e1).1
                    rw [List.length_append, List.length_singleton] at this
                    omega
                  subst hm2
                  rw [ea] at e1
                  cases e1
                  rw [List.getElem?_append_right (by rw [List.length_take]; omega), List.length_take, Nat.min_eq_left hlen, Nat.sub_self] at e2
                  cases e2
                  exact (w1.ob _ _ _ e eo).fewer hg hno (by rw [hl]; exact lo)
              · rcases List.mem_append.mp z with z | z
                · exact (wf.hid b hb).1 z
                · rw [List.mem_singleton.mp z] at hb
                  exact (w1.hid a (by rw [t.hd]; exact hb)).1 am
          · cases h
        · cases h
    · split at h
      · rename_i d' e
        cases h
        rw [← hl] at e
        exact ⟨io, t.fewer, wf, frz_rep w1 t.pre t.hd 30 e rv⟩
      · cases h
  · cases h
end
end Ev

/-! EvMod: all functions of a text keep what the evaluator says, at any depth -/
namespace Ev
open PySem PySem.Spec PyProof.Rows L2

/-- a def of the text -/
structure FnS where
  name : Str
  ps : List Str
  N : List Str
  st : Stmt
def fnsOf (ds : List FnS) : List (Str × List Str) := ds.map fun d => (d.name, d.ps)
def scB (N P : List Str) (sc : Scope) : Bool :=
  funB sc && !sc.isCoroutine && !sc.isGenerator && decide N.Nodup && decide (N.take P.length = P) && P.all (locB sc) && sc.names.all (fun y => !decide (y.2 = .free))
theorem scB_ok {N P : List Str} {sc : Scope} (h : scB N P sc = true) : FnScope N P sc := by
  unfold scB at h
  simp only [Bool.and_eq_true, Bool.not_eq_true', decide_eq_true_eq, List.all_eq_true, decide_eq_false_iff_not] at h
  obtain ⟨⟨⟨⟨⟨⟨h1, h2⟩, h3⟩, h4⟩, h5⟩, h6⟩, h7⟩ := h
  exact ⟨funB_eq h1, h2, h3, h4, h5, fun x hx => locB_ok (h6 x hx), h7⟩
def fnChk (g : Gs) (d : FnS) (fn : Fn) : Bool :=
  decide (d.ps.length = fn.np) && decide (d.N.length = fn.nl) && scB d.N d.ps (defScope d.st) && chkSs g ⟨d.N, defScope d.st, none⟩ fn.body (defBody d.st)
def BiMg (mg : Str → Option Value) (k : BF) : Prop := match k with
  | .gcd => mg "gcd" = some (.builtin "math.gcd")
  | k => mg k.name = none
/-- what the top has made -/
structure MOk (w : World) (K : PySem.W.Frag) (mg : Str → Option Value) (g : Gs) (G : List D) (ds : List FnS) (tab : List Fn) : Prop where
  fns : g.fns = fnsOf ds
  bs : ∀ k ∈ g.bs, BiMg mg k
  ns : ∀ x ∈ g.ns, mg x = none
  cs : ∀ (k : Nat) (x : Str), g.consts[k]? = some x → ∃ (u : Value) (v : V) (dd : D), mg x = some u ∧ RelV v u ∧ G[k]? = some dd ∧ ∀ io H, Rep K io H v dd
  fs : ∀ (f : Nat) (d : FnS), ds[f]? = some d → ∃ fa fd, mg d.name = some (.ref fa) ∧ Fun K d.name d.name d.st fa fd ∧ Binds K fd d.ps [] ∧ ∀ na ks perm, (f, na, ks, perm) ∈ g.kws → KwOk K fd d.ps na ks perm
  chk : ∀ (f : Nat) (d : FnS) (fn : Fn), ds[f]? = some d → tab[f]? = some fn → fnChk g d fn = true
  ts : ∀ x ks vs, (x, ks, vs) ∈ g.tabs → ∃ p, mg x = some (.ref p) ∧ KTab K w p ks vs
theorem fns_at {ds : List FnS} {f : Nat} {x : Str} {ps : List Str} (h : (fnsOf ds)[f]? = some (x, ps)) : ∃ d, ds[f]? = some d ∧ d.name = x ∧ d.ps = ps := by
  unfold fnsOf at h
  rw [List.getElem?_map] at h
  obtain ⟨d, e, q⟩ := Option.map_eq_some_iff.mp h
  cases q
  exact ⟨d, e, rfl, rfl⟩
theorem start_env {K : PySem.W.Frag} {io : Pl} {H : Hp} {N : List Str} {vs : List V} {ds : List D} {nl np : Nat} (r : RepL K io H vs ds) (h1 : ds.length = np) (h2 : N.length = nl) : EnvR K io H (L2.start N vs) (ds.map some ++ List.replicate (nl - np) none) := by
  have hl := r.length
  unfold L2.start
  refine ⟨?_, fun i d h => ?_⟩
  · rw [List.length_append, List.length_append, List.length_map, List.length_map, List.length_replicate, List.length_replicate, hl, h1, h2]
  · by_cases hi : i < ds.length
    · rw [List.getElem?_append_left (by rw [List.length_map]; exact hi), List.getElem?_map] at h
      obtain ⟨d', e, q⟩ := Option.map_eq_some_iff.mp h
      cases q
      obtain ⟨v, e2, rv⟩ := r.get e
      refine ⟨v, ?_, rv⟩
      rw [List.getElem?_append_left (by rw [List.length_map, hl]; exact hi), List.getElem?_map, e2]
      rfl
    · rw [List.getElem?_append_right (by rw [List.length_map]; omega)] at h
      have := List.mem_of_getElem? h
      rw [List.mem_replicate] at this
      cases this.2
section
variable {P : Program} {w : World} {K : PySem.W.Frag} {mg : Str → Option Value} {base : Heap} {g : Gs} {G : List D} {ds : List FnS} {tab : List Fn} {wf : Nat}
theorem all_ok (M : MOk w K mg g G ds tab) : ∀ (n f : Nat) (d : FnS) (fa : Addr) (fd : FuncData), ds[f]? = some d → Fun K d.name d.name d.st fa fd → FnOk P w K mg base CX0 n fa fd d.ps (spF K (callF tab G wf n f))
  | 0, f, d, fa, fd, hd, F => by
    refine ⟨fun vs H Q E h => ?_, fun A outer s H args us vs Q E _ _ _ _ h => ?_⟩
    · obtain ⟨io, S, ds', r, S', _, _, h, _⟩ := h
      simp only [callF] at h
      cases h
    · obtain ⟨io, S, ds', r, S', _, _, h, _⟩ := h
      simp only [callF] at h
      cases h
  | n + 1, f, d, fa, fd, hd, F => by
    have key : ∀ vs H Q E, spF K (callF tab G wf (n + 1) f) vs H Q E → ∃ fn, tab[f]? = some fn ∧ ∃ io S ds' r S' fl S1, RepL K io H vs ds' ∧ Wd K io H S ∧ ds'.length = fn.np ∧ evSs ⟨callF tab G wf n, G, wf⟩ fn.body (ds'.map some ++ List.replicate (fn.nl - fn.np) none) S = .ok fl S1 ∧
        (match fl with
          | .rt x => finish fn.keep S x S1
          | .nx _ => finish fn.keep S .non S1
          | _ => .no) = .ok r S' ∧ Aft K io H S' r Q := by
      intro vs H Q E ⟨io, S, ds', r, S', hr, hW, h, q⟩
      simp only [callF] at h
      split at h
      · cases h
      · rename_i fn e
        split at h
        · rename_i hl
          obtain ⟨fl, S1, h1, h2⟩ := R.bind_eq_ok h
          exact ⟨fn, e, io, S, ds', r, S', fl, S1, hr, hW, hl, h1, h2, q⟩
        · cases h
    have len : ∀ vs H Q E, spF K (callF tab G wf (n + 1) f) vs H Q E → vs.length = d.ps.length := by
      intro vs H Q E h
      obtain ⟨fn, e, io, S, ds', r, S', fl, S1, hr, hW, hl, h1, h2, q⟩ := key vs H Q E h
      have hc := M.chk f d fn hd e
      unfold fnChk at hc
      simp only [Bool.and_eq_true, decide_eq_true_eq] at hc
      rw [hr.length, hl, hc.1.1.1]
    by_cases ht : ∃ fn, tab[f]? = some fn
    · obtain ⟨fn, e⟩ := ht
      have hc := M.chk f d fn hd e
      unfold fnChk at hc
      simp only [Bool.and_eq_true, decide_eq_true_eq] at hc
      obtain ⟨⟨⟨c1, c2⟩, c3⟩, c4⟩ := hc
      have S := scB_ok c3
      refine F.ok S len fun cdv A outer s H vs Q E room h => ?_
      obtain ⟨fn', e', io, S0, ds', r, S', fl, S1, hr, hW, hl, h1, h2, q⟩ := key vs H Q E h
      rw [e] at e'
      cases e'
      have o : XOk g ⟨callF tab G wf n, G, wf⟩ n ⟨d.N, defScope d.st, none⟩ (cxOf CX0 P w K mg base d.N d.name (defScope d.st) fa cdv A outer s H E).nox := {
        N := rfl
        nd := S.nd
        sc := rfl
        calm := rfl
        room := room
        hu := by
          have := room.un
          show (A.deeper (envOfC d.name (defScope d.st) s.heap.objs.size fa cdv)).units + 65 < cLine
          omega
        xe := rfl
        fn := fun x _ => rfl
        bs := fun k hk => by
          have := M.bs k hk
          cases k <;> exact this
        ns := M.ns
        cs := M.cs
        fs := fun f' x ps hf => by
          rw [M.fns] at hf
          obtain ⟨d', hd', rfl, rfl⟩ := fns_at hf
          obtain ⟨fa', fd', m1, m2, m3, m4⟩ := M.fs f' d' hd'
          exact ⟨fa', fd', ⟨m1, m2.kp, m3, all_ok M n f' d' fa' fd' hd' m2⟩, m4⟩
        ts := M.ts }
      refine ⟨_, sndSs fn.body _ _ _ o c4, ?_⟩
      refine ⟨_, io, S0, fl, S1, start_env hr hl c2, hW, h1, ?_⟩
      cases fl with
      | nx e1 =>
        intro io1 H1 σ1 t1 w1 _
        obtain ⟨io2, t2, w2, r2⟩ := finish_rep hW t1 w1 .non h2
        exact q io2 H1 _ t2 w2 r2
      | rt x =>
        intro io1 H1 v t1 w1 rv
        obtain ⟨io2, t2, w2, r2⟩ := finish_rep hW t1 w1 rv h2
        exact q io2 H1 v t2 w2 r2
      | bk _ => cases h2
      | ct _ => cases h2
    · refine ⟨len, fun A outer s H args us vs Q E _ _ _ _ h => ?_⟩
      obtain ⟨fn, e, _⟩ := key vs H Q E h
      exact absurd ⟨fn, e⟩ ht
end
end Ev

/-! EvHead: what the top has made, in short; the law's promise -/
namespace Ev
open PySem PySem.Spec PyProof.Rows L2

def FsOk (K : PySem.W.Frag) (mg : Str → Option Value) (kws : List (Nat × Nat × List Str × List Nat)) (f : Nat) (d : FnS) : Prop :=
  ∃ fa fd, mg d.name = some (.ref fa) ∧ Fun K d.name d.name d.st fa fd ∧ Binds K fd d.ps [] ∧ ∀ na ks perm, (f, na, ks, perm) ∈ kws → KwOk K fd d.ps na ks perm
def AllFs (K : PySem.W.Frag) (mg : Str → Option Value) (kws : List (Nat × Nat × List Str × List Nat)) : Nat → List FnS → Prop
  | _, [] => True
  | i, d :: ds => FsOk K mg kws i d ∧ AllFs K mg kws (i + 1) ds
def AllChk (g : Gs) : List FnS → List Fn → Prop
  | d :: ds, f :: fs => fnChk g d f = true ∧ AllChk g ds fs
  | [], [] => True
  | _, _ => False
theorem AllFs.at {K : PySem.W.Frag} {mg : Str → Option Value} {kws : List (Nat × Nat × List Str × List Nat)} : ∀ {ds : List FnS} {i f : Nat} {d : FnS}, AllFs K mg kws i ds → ds[f]? = some d → FsOk K mg kws (i + f) d
  | [], _, _, _, _, h => by simp at h
  | x :: ds, i, 0, d, a, h => by
    have : x = d := by simpa using h
    subst this
    exact a.1
  | x :: ds, i, f + 1, d, a, h => by
    have := AllFs.at a.2 (show ds[f]? = some d by simpa using h)
    rw [show i + (f + 1) = i + 1 + f by omega]
    exact this
theorem AllChk.at {g : Gs} : ∀ {ds : List FnS} {tab : List Fn} {f : Nat} {d : FnS} {fn : Fn}, AllChk g ds tab → ds[f]? = some d → tab[f]? = some fn → fnChk g d fn = true
  | [], _, _, _, _, _, h, _ => by simp at h
  | _ :: _, [], _, _, _, h, _, _ => h.elim
  | x :: ds, y :: tab, 0, d, fn, a, h, h2 => by
    have : x = d := by simpa using h
    subst this
    have : y = fn := by simpa using h2
    subst this
    exact a.1
  | x :: ds, y :: tab, f + 1, d, fn, a, h, h2 => AllChk.at a.2 (by simpa using h) (by simpa using h2)
mutual
/-- a written constant -/
def CRep (K : PySem.W.Frag) (u : Value) : D → Prop
  | .non => u = .none
  | .bl b => u = .bool b
  | .int i => ∃ t, u = .int i t
  | .str x => ∃ t, u = .str x t
  | .tup ds => ∃ p its n, u = .ref p ∧ K.lookup p = some ⟨.type "tuple", none, .seq its n, #[]⟩ ∧ its.size ≤ sizeLine ∧ CRepL K its.toList ds
  | _ => False
def CRepL (K : PySem.W.Frag) (us : List Value) : List D → Prop
  | [] => us = []
  | d :: ds => ∃ u r, us = u :: r ∧ CRep K u d ∧ CRepL K r ds
end
mutual
theorem CRep.rep {K : PySem.W.Frag} : ∀ {d : D} {u : Value}, CRep K u d → ∃ v, RelV v u ∧ ∀ io H, Rep K io H v d
  | .non, _, h => ⟨.non, h, fun _ _ => .non⟩
  | .bl b, _, h => ⟨.bl b, h, fun _ _ => .bl b⟩
  | .int i, _, h => ⟨.int i, h, fun _ _ => .int i⟩
  | .str x, _, h => ⟨.str x, h, fun _ _ => .str x⟩
  | .tup ds, u, h => by
    simp only [CRep] at h
    obtain ⟨p, its, n, e, l, z, r⟩ := h
    obtain ⟨vs, rv, rr⟩ := CRepL.rep r
    exact ⟨.ref p, e, fun io H => .tup (.inr ⟨_, its, n, l, rfl, rfl, z, rv⟩) (rr io H)⟩
  | .lst _, _, h => by simp only [CRep] at h
  | .sq _, _, h => by simp only [CRep] at h
  | .dic _ _, _, h => by simp only [CRep] at h
  | .own _, _, h => by simp only [CRep] at h
theorem CRepL.rep {K : PySem.W.Frag} : ∀ {ds : List D} {us : List Value}, CRepL K us ds → ∃ vs, Vals vs us ∧ ∀ io H, RepL K io H vs ds
  | [], _, h => by
    simp only [CRepL] at h
    subst h
    exact ⟨[], .nil, fun _ _ => .nil⟩
  | d :: ds, _, h => by
    simp only [CRepL] at h
    obtain ⟨u, r, e, h1, h2⟩ := h
    subst e
    obtain ⟨v, rv, rr⟩ := CRep.rep h1
    obtain ⟨vs, rvs, rrs⟩ := CRepL.rep h2
    exact ⟨v :: vs, .cons rv rvs, fun io H => .cons (rr io H) (rrs io H)⟩
end
/-- the module's constants -/
def AllCs (K : PySem.W.Frag) (mg : Str → Option Value) : List Str → List D → Prop
  | [], [] => True
  | x :: xs, d :: ds => (∃ u, mg x = some u ∧ CRep K u d) ∧ AllCs K mg xs ds
  | _, _ => False
theorem AllCs.at {K : PySem.W.Frag} {mg : Str → Option Value} : ∀ {xs : List Str} {ds : List D} {k : Nat} {x : Str}, AllCs K mg xs ds → xs[k]? = some x → ∃ (u : Value) (v : V) (dd : D), mg x = some u ∧ RelV v u ∧ ds[k]? = some dd ∧ ∀ io H, Rep K io H v dd
  | [], _, _, _, _, h => by simp at h
  | _ :: _, [], _, _, h, _ => h.elim
  | y :: xs, d :: ds, 0, x, a, h => by
    have : y = x := by simpa using h
    subst this
    obtain ⟨⟨u, e, c⟩, _⟩ := a
    obtain ⟨v, rv, rr⟩ := c.rep
    exact ⟨u, v, d, e, rv, rfl, rr⟩
  | y :: xs, d :: ds, k + 1, x, a, h => by
    obtain ⟨u, v, dd, e, r, g, q⟩ := AllCs.at a.2 (show xs[k]? = some x by simpa using h)
    exact ⟨u, v, dd, e, r, by simpa using g, q⟩
def AllTs (w : World) (K : PySem.W.Frag) (mg : Str → Option Value) : List (Str × List D × List D) → Prop
  | [] => True
  | t :: ts => (∃ p, mg t.1 = some (.ref p) ∧ KTab K w p t.2.1 t.2.2) ∧ AllTs w K mg ts
theorem AllTs.at {w : World} {K : PySem.W.Frag} {mg : Str → Option Value} {x : Str} {ks vs : List D} : ∀ {ts : List (Str × List D × List D)}, AllTs w K mg ts → (x, ks, vs) ∈ ts → ∃ p, mg x = some (.ref p) ∧ KTab K w p ks vs
  | t :: ts, a, h => by
    rcases List.mem_cons.mp h with rfl | h
    · exact a.1
    · exact AllTs.at a.2 h
def AllBs (mg : Str → Option Value) : List BF → Prop
  | [] => True
  | k :: ks => BiMg mg k ∧ AllBs mg ks
theorem AllBs.at {mg : Str → Option Value} : ∀ {ks : List BF}, AllBs mg ks → ∀ k ∈ ks, BiMg mg k
  | k :: ks, a, k', h => by
    rcases List.mem_cons.mp h with rfl | h
    · exact a.1
    · exact AllBs.at a.2 k' h
def AllNs (mg : Str → Option Value) : List Str → Prop
  | [] => True
  | k :: ks => mg k = none ∧ AllNs mg ks
theorem AllNs.at {mg : Str → Option Value} : ∀ {ks : List Str}, AllNs mg ks → ∀ k ∈ ks, mg k = none
  | k :: ks, a, k', h => by
    rcases List.mem_cons.mp h with rfl | h
    · exact a.1
    · exact AllNs.at a.2 k' h
theorem mok {w : World} {K : PySem.W.Frag} {mg : Str → Option Value} {g : Gs} {G : List D} {ds : List FnS} {tab : List Fn} (h1 : g.fns = fnsOf ds) (h2 : AllBs mg g.bs) (h3 : AllNs mg g.ns) (h4 : AllCs K mg g.consts G) (h5 : AllFs K mg g.kws 0 ds) (h6 : AllChk g ds tab) (h7 : AllTs w K mg g.tabs) : MOk w K mg g G ds tab :=
  ⟨h1, h2.at, h3.at, fun k x h => h4.at h, fun f d h => by have := h5.at h; rw [Nat.zero_add] at this; exact this, fun f d fn a b => h6.at a b, fun x ks vs h => h7.at h⟩
/-- the law's promise, of what the evaluator says -/
theorem sp_of {K : PySem.W.Frag} {F : List D → Sto → R D} {H : Hp} {a : Addr} {ns : List Int} {E : XK} (hO : Only H) (hS : SqL K H a (ns.map V.int)) (h : ∃ S', F [.sq (ns.map D.int)] [] = .ok (.bl true) S') : spF K F [.ref a] H (fun v _ => v = .bl true) E := by
  obtain ⟨S', h⟩ := h
  refine ⟨⟨[], []⟩, [], [.sq (ns.map D.int)], .bl true, S', .cons (.sq ?_) .nil, ⟨rfl, List.nodup_nil, fun n a o h => by simp at h, fun a h => by cases h⟩, h, fun io' H' v t w r => by cases r; rfl⟩
  rcases hS with (e | ⟨o, e⟩) | k
  · rcases hO a with z | ⟨o, xs, z⟩
    · rw [z] at e; cases e
    · rw [z] at e; cases e
  · exact .inl ⟨o, e⟩
  · exact .inr k
end Ev

/-! EvWp: what an evaluation comes to, by its end -/
namespace Ev
open PySem

def R.Is {α : Type} (r : R α) (P : α → Sto → Prop) : Prop := ∃ a S, r = .ok a S ∧ P a S
section
variable {α β : Type} {P : α → Sto → Prop} {Q : β → Sto → Prop} {S : Sto}
theorem is_ok (a : α) : (R.ok a S).Is P ↔ P a S := ⟨fun ⟨_, _, h, p⟩ => by cases h; exact p, fun h => ⟨_, _, rfl, h⟩⟩
theorem is_no : (R.no : R α).Is P ↔ False := by simp [R.Is]
theorem is_ex (c : Nat) (v : D) : (R.ex c v S : R α).Is P ↔ False := by simp [R.Is]
theorem is_bind (r : R β) (k : β → Sto → R α) : (r.bind k).Is P ↔ r.Is fun b S1 => (k b S1).Is P := by
  constructor
  · intro ⟨a, S, h, p⟩
    obtain ⟨b, S1, h1, h2⟩ := R.bind_eq_ok h
    exact ⟨b, S1, h1, a, S, h2, p⟩
  · intro ⟨b, S1, h1, a, S, h2, p⟩
    refine ⟨a, S, ?_, p⟩
    rw [h1]
    exact h2
theorem is_of (o : Option α) : (R.of o S).Is P ↔ ∃ a, o = some a ∧ P a S := by
  cases o with
  | none => simp [R.of, is_no]
  | some a => simp [R.of, is_ok]
theorem is_ite {c : Prop} [Decidable c] (a b : R α) : (if c then a else b).Is P ↔ if c then a.Is P else b.Is P := by
  split <;> rfl
theorem is_guard {c : Prop} [Decidable c] (a : R α) : (if c then a else .no).Is P ↔ c ∧ a.Is P := by
  by_cases h : c
  · rw [if_pos h]; exact ⟨fun x => ⟨h, x⟩, fun x => x.2⟩
  · rw [if_neg h, is_no]; exact ⟨False.elim, fun x => h x.1⟩
theorem is_guard2 {c : Prop} [Decidable c] (a : R α) : (if c then .no else a).Is P ↔ ¬ c ∧ a.Is P := by
  by_cases h : c
  · rw [if_pos h, is_no]; exact ⟨False.elim, fun x => x.1 h⟩
  · rw [if_neg h]; exact ⟨fun x => ⟨h, x⟩, fun x => x.2⟩
theorem R.Is.mono {r : R α} {P' : α → Sto → Prop} (h : r.Is P) (f : ∀ a S, P a S → P' a S) : r.Is P' := let ⟨a, S, e, p⟩ := h; ⟨a, S, e, f a S p⟩
theorem is_eq {r : R α} {a : α} (h : r = .ok a S) : r.Is P ↔ P a S := by rw [h]; exact is_ok a
end
section
variable {c : Cf} {P : D → Sto → Prop} {e : Env} {S : Sto}
theorem w_var (i : Nat) : (evE c (.var i) e S).Is P ↔ ∃ d, e[i]? = some (some d) ∧ P d S := by
  simp only [evE]
  split
  · rename_i d h
    rw [is_ok, h]
    simp
  · rename_i h
    rw [is_no]
    simp
    intro d hd
    exact absurd hd (h d)
theorem w_con (d : D) : (evE c (.con d) e S).Is P ↔ P d S := by simp only [evE, is_ok]
theorem w_glob (k : Nat) : (evE c (.glob k) e S).Is P ↔ ∃ d, c.G[k]? = some d ∧ P d S := by simp only [evE, is_of]
theorem w_bin (o : BO) (a b : E) : (evE c (.bin o a b) e S).Is P ↔ (evE c a e S).Is fun x S1 => (evE c b e S1).Is fun y S2 => ∃ z, binD o x y = some z ∧ P z S2 := by simp only [evE, is_bind, is_of]
theorem w_neg (a : E) : (evE c (.neg a) e S).Is P ↔ (evE c a e S).Is fun x S1 => ∃ i, x = .int i ∧ P (.int (-i)) S1 := by
  simp only [evE, is_bind]
  constructor <;> (refine fun h => h.mono fun x S1 h => ?_; cases x <;> simp_all [is_ok, is_no])
theorem w_not (a : E) : (evE c (.not_ a) e S).Is P ↔ (evE c a e S).Is fun x S1 => ∃ b, x = .bl b ∧ P (.bl (!b)) S1 := by
  simp only [evE, is_bind]
  constructor <;> (refine fun h => h.mono fun x S1 h => ?_; cases x <;> simp_all [is_ok, is_no])
theorem bl_match {α : Type} {P : α → Sto → Prop} (x : D) (A B : R α) : (match x with
    | .bl true => A
    | .bl false => B
    | _ => .no).Is P ↔ ∃ b, x = .bl b ∧ if b = true then A.Is P else B.Is P := by
  cases x with
  | bl b => cases b <;> simp
  | _ => simp [is_no]
theorem w_and (a b : E) : (evE c (.and_ a b) e S).Is P ↔ (evE c a e S).Is fun x S1 => ∃ t, x = .bl t ∧ if t = true then (evE c b e S1).Is P else P (.bl false) S1 := by
  simp only [evE, is_bind]
  constructor <;> (refine fun h => h.mono fun x S1 h => ?_; have := (bl_match (P := P) x (evE c b e S1) (.ok (.bl false) S1)); simp only [is_ok] at this; first | exact this.mp h | exact this.mpr h)
theorem w_or (a b : E) : (evE c (.or_ a b) e S).Is P ↔ (evE c a e S).Is fun x S1 => ∃ t, x = .bl t ∧ if t = true then P (.bl true) S1 else (evE c b e S1).Is P := by
  simp only [evE, is_bind]
  constructor <;> (refine fun h => h.mono fun x S1 h => ?_; have := (bl_match (P := P) x (.ok (.bl true) S1) (evE c b e S1)); simp only [is_ok] at this; first | exact this.mp h | exact this.mpr h)
theorem w_ifx (t a b : E) : (evE c (.ifx t a b) e S).Is P ↔ (evE c t e S).Is fun x S1 => ∃ t, x = .bl t ∧ if t = true then (evE c a e S1).Is P else (evE c b e S1).Is P := by
  simp only [evE, is_bind]
  constructor <;> (refine fun h => h.mono fun x S1 h => ?_; have := (bl_match (P := P) x (evE c a e S1) (evE c b e S1)); first | exact this.mp h | exact this.mpr h)
theorem w_cmp (o : CO) (a b : E) : (evE c (.cmp o a b) e S).Is P ↔ (evE c a e S).Is fun x S1 => (evE c b e S1).Is fun y S2 => ∃ z, cmpD o S2 x y = some z ∧ P (.bl z) S2 := by
  simp only [evE, is_bind, is_of, Option.map_eq_some_iff]
  constructor
  · refine fun h => h.mono fun x S1 h => h.mono fun y S2 ⟨_, ⟨z, h1, h2⟩, h3⟩ => ⟨z, h1, by rw [h2]; exact h3⟩
  · refine fun h => h.mono fun x S1 h => h.mono fun y S2 ⟨z, h1, h2⟩ => ⟨_, ⟨z, h1, rfl⟩, h2⟩
theorem w_tup (es : Es) : (evE c (.tup es) e S).Is P ↔ (evEs c es e S).Is fun ds S1 => ds.length ≤ LIM ∧ P (.tup ds) S1 := by
  simp only [evE, is_bind, is_guard, is_ok]
theorem w_frz (n : N) : (evE c (.frz n) e S).Is P ↔ (evN c n e S).Is fun ds S1 => P (.lst ds) S1 := by simp only [evE, is_bind, is_ok]
theorem w_own (n : N) : (evE c (.own n) e S).Is P ↔ (evN c n e S).Is fun ds S1 => P (.own S1.length) (S1 ++ [.lst ds]) := by simp only [evE, is_bind, is_ok]
theorem w_sub (a i : E) : (evE c (.sub a i) e S).Is P ↔ (evE c a e S).Is fun x S1 => (evE c i e S1).Is fun y S2 => ∃ z, subD S2 x y = some z ∧ P z S2 := by simp only [evE, is_bind, is_of]
theorem w_slc (a : E) (lo hi : Oe) : (evE c (.slc a lo hi) e S).Is P ↔ (evE c a e S).Is fun x S1 => (evO c lo e S1).Is fun l S2 => (evO c hi e S2).Is fun h S3 => ∃ l' h', optInt l = some l' ∧ optInt h = some h' ∧ ∃ z, slcD x l' h' = some z ∧ P z S3 := by
  simp only [evE, is_bind]
  constructor <;> (refine fun h => h.mono fun x S1 h => h.mono fun y S2 h => h.mono fun z S3 h => ?_; revert h; split <;> simp_all [is_of, is_no])
theorem w_call (f : Nat) (es : Es) : (evE c (.call f es) e S).Is P ↔ (evEs c es e S).Is fun ds S1 => (c.call f ds S1).Is P := by simp only [evE, is_bind]
theorem w_callk (f : Nat) (es ks : Es) (perm : List Nat) : (evE c (.callk f es ks perm) e S).Is P ↔ (evEs c es e S).Is fun ds S1 => (evEs c ks e S1).Is fun ws S2 => ∃ ds', pick (ds ++ ws) perm = some ds' ∧ (c.call f ds' S2).Is P := by
  simp only [evE, is_bind]
  constructor <;> (refine fun h => h.mono fun x S1 h => h.mono fun y S2 h => ?_; revert h; split <;> simp_all [is_no])
theorem w_bi (k : BF) (es : Es) : (evE c (.bi k es) e S).Is P ↔ (evEs c es e S).Is fun ds S1 => ∃ z, biD k S1 ds = some z ∧ P z S1 := by simp only [evE, is_bind, is_of]
theorem w_isi (a : E) (ts : List Ty) : (evE c (.isi a ts) e S).Is P ↔ (evE c a e S).Is fun x S1 => P (.bl (typed S1 x ts)) S1 := by simp only [evE, is_bind, is_ok]
theorem w_me (k : MF) (o : E) (es : Es) : (evE c (.me k o es) e S).Is P ↔ (evE c o e S).Is fun x S1 => (evEs c es e S1).Is fun ds S2 => (meD k x ds S2).Is P := by simp only [evE, is_bind]
theorem w_tab (ks vs : List D) (i : E) : (evE c (.tab ks vs i) e S).Is P ↔ (evE c i e S).Is fun x S1 => ∃ z, tabGet ks vs x = some z ∧ P z S1 := by simp only [evE, is_bind, is_of]
end
section
variable {c : Cf} {e : Env} {S : Sto}
theorem w_ono {P : Option D → Sto → Prop} : (evO c .no e S).Is P ↔ P none S := by simp only [evO, is_ok]
theorem w_oyes {P : Option D → Sto → Prop} (a : E) : (evO c (.yes a) e S).Is P ↔ (evE c a e S).Is fun x S1 => P (some x) S1 := by simp only [evO, is_bind, is_ok]
theorem w_nil {P : List D → Sto → Prop} : (evEs c .nil e S).Is P ↔ P [] S := by simp only [evEs, is_ok]
theorem w_cons {P : List D → Sto → Prop} (a : E) (r : Es) : (evEs c (.cons a r) e S).Is P ↔ (evE c a e S).Is fun x S1 => (evEs c r e S1).Is fun xs S2 => P (x :: xs) S2 := by simp only [evEs, is_bind, is_ok]
theorem w_tnil {P : Bool → Sto → Prop} : (evT c .nil e S).Is P ↔ P true S := by simp only [evT, is_ok]
theorem w_tcons {P : Bool → Sto → Prop} (a : E) (r : Es) : (evT c (.cons a r) e S).Is P ↔ (evE c a e S).Is fun x S1 => ∃ b, x = .bl b ∧ if b = true then (evT c r e S1).Is P else P false S1 := by
  simp only [evT, is_bind]
  constructor <;> (refine fun h => h.mono fun x S1 h => ?_; have := (bl_match (P := P) x (evT c r e S1) (.ok false S1)); simp only [is_ok] at this; first | exact this.mp h | exact this.mpr h)
theorem w_disp {P : List D → Sto → Prop} (es : Es) : (evN c (.disp es) e S).Is P ↔ (evEs c es e S).Is fun ds S1 => ds.length ≤ LIM ∧ P ds S1 := by
  simp only [evN, is_bind, is_guard, is_ok]
theorem w_comp {P : List D → Sto → Prop} (vs : List Nat) (elt : E) (g : Tg) (i : I) (cs : Es) : (evN c (.comp vs elt g i cs) e S).Is P ↔ (evI c i e S).Is fun t S1 => t.xs.length ≤ LIM ∧ (compL t (fun x S2 => (evG c g x (wipeE e vs) S2).bind fun e1 S3 => (evT c cs e1 S3).bind fun b S4 =>
      if b then (evE c elt e1 S4).bind fun d S5 => .ok (some d) S5 else .ok none S4) t.xs S1).Is P := by
  simp only [evN, is_bind, is_guard2, Nat.not_lt]
theorem w_cat {P : List D → Sto → Prop} (a b : E) : (evN c (.cat a b) e S).Is P ↔ (evE c a e S).Is fun x S1 => (evE c b e S1).Is fun y S2 => ∃ xs ys, look S2 x = .lst xs ∧ look S2 y = .lst ys ∧ xs.length + ys.length ≤ LIM ∧ P (xs ++ ys) S2 := by
  simp only [evN, is_bind]
  constructor <;> (refine fun h => h.mono fun x S1 h => h.mono fun y S2 h => ?_; revert h; split <;> simp_all [is_ite, is_ok, is_no])
theorem w_rep {P : List D → Sto → Prop} (a b : E) : (evN c (.rep a b) e S).Is P ↔ (evE c a e S).Is fun x S1 => (evE c b e S1).Is fun y S2 => ∃ xs n, look S2 x = .lst xs ∧ y = .int n ∧ (xs.length * n.toNat ≤ LIM ∧ n.natAbs ≤ LIM) ∧ P (repL xs n.toNat) S2 := by
  simp only [evN, is_bind]
  constructor <;> (refine fun h => h.mono fun x S1 h => h.mono fun y S2 h => ?_; revert h; split <;> simp_all [is_ite, is_ok, is_no])
theorem w_nslc {P : List D → Sto → Prop} (a : E) (lo hi : Oe) : (evN c (.slc a lo hi) e S).Is P ↔ (evE c a e S).Is fun x S1 => (evO c lo e S1).Is fun l S2 => (evO c hi e S2).Is fun h S3 => ∃ xs l' h', look S3 x = .lst xs ∧ optInt l = some l' ∧ optInt h = some h' ∧ P (cutL xs l' h') S3 := by
  simp only [evN, is_bind]
  constructor <;> (refine fun h => h.mono fun x S1 h => h.mono fun y S2 h => h.mono fun z S3 h => ?_; revert h; split <;> simp_all [is_ok, is_no])
theorem w_rev {P : List D → Sto → Prop} (a : E) : (evN c (.rev a) e S).Is P ↔ (evE c a e S).Is fun x S1 => ∃ xs, look S1 x = .lst xs ∧ P xs.reverse S1 := by
  simp only [evN, is_bind]
  constructor <;> (refine fun h => h.mono fun x S1 h => ?_; revert h; split <;> simp_all [is_ok, is_no])
theorem w_ival {P : It → Sto → Prop} (a : E) : (evI c (.val a) e S).Is P ↔ (evE c a e S).Is fun x S1 => ∃ t, iterOf S1 x = some t ∧ P t S1 := by simp only [evI, is_bind, is_of]
theorem w_irng {P : It → Sto → Prop} (es : Es) : (evI c (.rng es) e S).Is P ↔ (evEs c es e S).Is fun ds S1 => ∃ xs, rngD ds = some xs ∧ P ⟨xs, []⟩ S1 := by
  simp only [evI, is_bind, is_of, Option.map_eq_some_iff]
  constructor
  · refine fun h => h.mono fun x S1 ⟨t, ⟨xs, h1, h2⟩, h3⟩ => ⟨xs, h1, by rw [h2]; exact h3⟩
  · refine fun h => h.mono fun x S1 ⟨xs, h1, h2⟩ => ⟨_, ⟨xs, h1, rfl⟩, h2⟩
theorem w_gname {P : Env → Sto → Prop} (i : Nat) (v : D) : (evG c (.name i) v e S).Is P ↔ i < e.length ∧ P (e.set i (some v)) S := by
  simp only [evG, is_guard, is_ok]
theorem w_gtup {P : Env → Sto → Prop} (ts : Tgs) (v : D) : (evG c (.tup ts) v e S).Is P ↔ ∃ xs, itemsOf S v = some xs ∧ (evGs c ts xs e S).Is P := by
  simp only [evG]
  split <;> simp_all [is_no]
theorem w_gsub {P : Env → Sto → Prop} (o i : E) (v : D) : (evG c (.sub o i) v e S).Is P ↔ (evE c o e S).Is fun x S1 => (evE c i e S1).Is fun y S2 => (putD x y v S2).Is fun _ S3 => P e S3 := by
  simp only [evG, is_bind, is_ok]
theorem w_gsnil {P : Env → Sto → Prop} : (evGs c .nil [] e S).Is P ↔ P e S := by simp only [evGs, is_ok]
theorem w_gscons {P : Env → Sto → Prop} (t : Tg) (r : Tgs) (x : D) (xs : List D) : (evGs c (.cons t r) (x :: xs) e S).Is P ↔ (evG c t x e S).Is fun e1 S1 => (evGs c r xs e1 S1).Is P := by simp only [evGs, is_bind]
variable {P : Fl → Sto → Prop}
theorem w_sexpr (a : E) : (evS c (.expr a) e S).Is P ↔ (evE c a e S).Is fun _ S1 => P (.nx e) S1 := by simp only [evS, is_bind, is_ok]
theorem w_asg (t : Tg) (a : E) : (evS c (.asg t a) e S).Is P ↔ (evE c a e S).Is fun x S1 => (evG c t x e S1).Is fun e1 S2 => P (.nx e1) S2 := by simp only [evS, is_bind, is_ok]
theorem w_par (i j : Nat) (a b : E) : (evS c (.par i j a b) e S).Is P ↔ (evE c a e S).Is fun x S1 => (evE c b e S1).Is fun y S2 => (i < e.length ∧ j < e.length) ∧ P (.nx ((e.set i (some x)).set j (some y))) S2 := by
  simp only [evS, is_bind, is_guard, is_ok]
theorem w_ret (a : E) : (evS c (.ret a) e S).Is P ↔ (evE c a e S).Is fun x S1 => P (.rt x) S1 := by simp only [evS, is_bind, is_ok]
theorem w_retN : (evS c .retN e S).Is P ↔ P (.rt .non) S := by simp only [evS, is_ok]
theorem w_ifs (t : E) (a b : Ss) : (evS c (.ifs t a b) e S).Is P ↔ (evE c t e S).Is fun x S1 => ∃ t, x = .bl t ∧ if t = true then (evSs c a e S1).Is P else (evSs c b e S1).Is P := by
  simp only [evS, is_bind]
  constructor <;> (refine fun h => h.mono fun x S1 h => ?_; have := (bl_match (P := P) x (evSs c a e S1) (evSs c b e S1)); first | exact this.mp h | exact this.mpr h)
theorem w_for (t : Tg) (i : I) (b : Ss) : (evS c (.for_ t i b) e S).Is P ↔ (evI c i e S).Is fun it S1 => (forL it (fun x e1 S2 => (evG c t x e1 S2).bind fun e2 S3 => evSs c b e2 S3) it.xs e S1).Is P := by simp only [evS, is_bind]
theorem w_pass : (evS c .pass e S).Is P ↔ P (.nx e) S := by simp only [evS, is_ok]
theorem w_brk : (evS c .brk e S).Is P ↔ P (.bk e) S := by simp only [evS, is_ok]
theorem w_cont : (evS c .cont e S).Is P ↔ P (.ct e) S := by simp only [evS, is_ok]
theorem w_snil : (evSs c .nil e S).Is P ↔ P (.nx e) S := by simp only [evSs, is_ok]
/-- behind a statement: the next ones, or the end -/
def Nxt (c : Cf) (r : Ss) (P : Fl → Sto → Prop) (fl : Fl) (S : Sto) : Prop := match fl with
  | .nx e => (evSs c r e S).Is P
  | fl => P fl S
theorem w_scons (s : Ev.S) (r : Ss) : (evSs c (.cons s r) e S).Is P ↔ (evS c s e S).Is (Nxt c r P) := by
  simp only [evSs, is_bind]
  constructor <;> (refine fun h => h.mono fun x S1 h => ?_; cases x <;> simp_all [Nxt, is_ok])
theorem nxt_nx (r : Ss) (e1 : Env) : Nxt c r P (.nx e1) S ↔ (evSs c r e1 S).Is P := Iff.rfl
theorem nxt_rt (r : Ss) (d : D) : Nxt c r P (.rt d) S ↔ P (.rt d) S := Iff.rfl
theorem nxt_bk (r : Ss) (e1 : Env) : Nxt c r P (.bk e1) S ↔ P (.bk e1) S := Iff.rfl
theorem nxt_ct (r : Ss) (e1 : Env) : Nxt c r P (.ct e1) S ↔ P (.ct e1) S := Iff.rfl
/-- a loop by its invariant -/
theorem w_forL {t : It} {f : D → Env → Sto → R Fl} (I : Nat → Env → Sto → Prop) {e : Env} {S : Sto} (h0 : I 0 e S) (ok : ∀ k e S, k ≤ t.xs.length → I k e S → t.ok S = true)
    (hs : ∀ k x e S, t.xs[k]? = some x → I k e S → (f x e S).Is fun fl S' => match fl with
      | .nx e' => I (k + 1) e' S'
      | .ct e' => I (k + 1) e' S'
      | .bk e' => P (.nx e') S'
      | .rt d => P (.rt d) S') (he : ∀ e S, I t.xs.length e S → P (.nx e) S) : (forL t f t.xs e S).Is P := by
  have go : ∀ (xs : List D) (k : Nat) (e : Env) (S : Sto), t.xs.drop k = xs → k ≤ t.xs.length → I k e S → (forL t f xs e S).Is P := by
    intro xs
    induction xs with
    | nil =>
      intro k e S hd hk h
      unfold forL
      rw [if_pos (ok k e S hk h), is_ok]
      have : k = t.xs.length := by
        have := congrArg List.length hd
        rw [List.length_drop, List.length_nil] at this
        omega
      subst this
      exact he e S h
    | cons x r ih =>
      intro k e S hd hk h
      unfold forL
      rw [if_pos (ok k e S hk h), is_bind]
      have hx : t.xs[k]? = some x := by
        have := congrArg (·[0]?) hd
        simp only [List.getElem?_drop, Nat.add_zero, List.getElem?_cons_zero] at this
        exact this
      have hr : t.xs.drop (k + 1) = r := by
        rw [← List.drop_drop, hd]
        rfl
      have hk1 : k + 1 ≤ t.xs.length := by
        have := (List.getElem?_eq_some_iff.mp hx).1
        omega
      refine (hs k x e S hx h).mono fun fl S' h' => ?_
      cases fl with
      | nx e' => exact ih (k + 1) e' S' hr hk1 h'
      | ct e' => exact ih (k + 1) e' S' hr hk1 h'
      | bk e' => exact (is_ok _).mpr h'
      | rt d => exact (is_ok _).mpr h'
  exact go t.xs 0 e S rfl (Nat.zero_le _) h0
/-- a comprehension by its invariant: what is told so far -/
theorem w_compL {t : It} {f : D → Sto → R (Option D)} {P : List D → Sto → Prop} (I : Nat → List D → Sto → Prop) {S : Sto} (h0 : I 0 [] S) (ok : ∀ k ds S, k ≤ t.xs.length → I k ds S → t.ok S = true)
    (hs : ∀ k x ds S, t.xs[k]? = some x → I k ds S → (f x S).Is fun y S' => I (k + 1) (match y with
      | some d => ds ++ [d]
      | none => ds) S') (he : ∀ ds S, I t.xs.length ds S → P ds S) : (compL t f t.xs S).Is P := by
  have go : ∀ (xs : List D) (k : Nat) (ds : List D) (S : Sto), t.xs.drop k = xs → k ≤ t.xs.length → I k ds S → (compL t f xs S).Is fun ys S' => P (ds ++ ys) S' := by
    intro xs
    induction xs with
    | nil =>
      intro k ds S hd hk h
      unfold compL
      rw [if_pos (ok k ds S hk h), is_ok]
      have : k = t.xs.length := by
        have := congrArg List.length hd
        rw [List.length_drop, List.length_nil] at this
        omega
      subst this
      rw [List.append_nil]
      exact he ds S h
    | cons x r ih =>
      intro k ds S hd hk h
      unfold compL
      rw [if_pos (ok k ds S hk h), is_bind]
      have hx : t.xs[k]? = some x := by
        have := congrArg (·[0]?) hd
        simp only [List.getElem?_drop, Nat.add_zero, List.getElem?_cons_zero] at this
        exact this
      have hr : t.xs.drop (k + 1) = r := by
        rw [← List.drop_drop, hd]
        rfl
      have hk1 : k + 1 ≤ t.xs.length := by
        have := (List.getElem?_eq_some_iff.mp hx).1
        omega
      refine (hs k x ds S hx h).mono fun y S' h' => ?_
      rw [is_bind]
      refine (ih (k + 1) _ S' hr hk1 h').mono fun ys S2 h2 => ?_
      rw [is_ok]
      cases y with
      | none => exact h2
      | some d =>
        rw [List.append_assoc] at h2
        exact h2
  have := go t.xs 0 [] S rfl (Nat.zero_le _) h0
  exact this.mono fun _ _ h => h
end
/-! ### calls -/
theorem outer_refl : ∀ (b : Nat) (S : Sto) , outerOk b S S = true
  | _, [] => rfl
  | b, o :: r => by simp [outerOk, outer_refl b r]
theorem outer_ext (b : Nat) : ∀ (S X : Sto), outerOk b S (S ++ X) = true
  | [], _ => rfl
  | o :: r, X => by simp [outerOk, outer_ext b r X]
theorem finish_same {keep : Bool} {S : Sto} {d : D} (h : d.low S.length = true) : finish keep S d S = .ok d S := by
  unfold finish
  rw [if_pos (outer_refl _ S)]
  split
  · rename_i n
    have : n < S.length := by simpa [D.low] using h
    rw [if_pos this, List.take_length]
  · simp [frz, h]
theorem finish_ext {S X : Sto} {d : D} (h : d.low S.length = true) : finish false S d (S ++ X) = .ok d S := by
  unfold finish
  rw [if_pos (outer_ext _ S X)]
  simp [frz, h]
/-- the end of a call -/
def Fin (fn : Fn) (S : Sto) (P : D → Sto → Prop) (fl : Fl) (S1 : Sto) : Prop := match fl with
  | .rt d => (finish fn.keep S d S1).Is P
  | .nx _ => (finish fn.keep S .non S1).Is P
  | _ => False
theorem w_fn {tab : List Fn} {G : List D} {wf n f : Nat} {ds : List D} {S : Sto} {fn : Fn} {P : D → Sto → Prop} (h : tab[f]? = some fn) (hl : ds.length = fn.np) :
    (callF tab G wf (n + 1) f ds S).Is P ↔ (evSs ⟨callF tab G wf n, G, wf⟩ fn.body (ds.map some ++ List.replicate (fn.nl - fn.np) none) S).Is (Fin fn S P) := by
  simp only [callF, h, if_pos hl, is_bind]
  constructor <;> (refine fun h => h.mono fun fl S1 h => ?_; cases fl <;> simp_all [Fin, is_no])
theorem fin_rt (fn : Fn) (S : Sto) (P : D → Sto → Prop) (d : D) (S1 : Sto) : Fin fn S P (.rt d) S1 ↔ (finish fn.keep S d S1).Is P := Iff.rfl
theorem fin_nx (fn : Fn) (S : Sto) (P : D → Sto → Prop) (e : Env) (S1 : Sto) : Fin fn S P (.nx e) S1 ↔ (finish fn.keep S .non S1).Is P := Iff.rfl
theorem R.eq_of {α : Type} {r : R α} {a : α} {S : Sto} (h : r.Is fun a' S' => a' = a ∧ S' = S) : r = .ok a S := by
  obtain ⟨a', S', e, rfl, rfl⟩ := h
  exact e
theorem ex_if {α : Type} {c : Prop} [Decidable c] {u : α} {P : α → Prop} : (∃ z, (if c then some u else none) = some z ∧ P z) ↔ c ∧ P u := by
  by_cases h : c
  · simp [h]
  · simp [h]
theorem ex_some {α : Type} {u : α} {P : α → Prop} : (∃ z, some u = some z ∧ P z) ↔ P u := by simp
theorem ex_map {α β : Type} {o : Option α} {f : α → β} {P : β → Prop} : (∃ z, o.map f = some z ∧ P z) ↔ ∃ a, o = some a ∧ P (f a) := by
  cases o <;> simp
/-- a while by its measure -/
theorem w_while {c : Cf} {t : E} {b : Ss} {e : Env} {S : Sto} {P : Fl → Sto → Prop} (I : Nat → Env → Sto → Prop) {m0 : Nat} (h0 : I m0 e S) (hm : m0 < c.wf)
    (hs : ∀ m e S, I m e S → (evE c t e S).Is fun x S1 => ∃ v, x = .bl v ∧ if v = true then (evSs c b e S1).Is fun fl S2 => match fl with
      | .nx e' => ∃ m', m' < m ∧ I m' e' S2
      | .ct e' => ∃ m', m' < m ∧ I m' e' S2
      | .bk e' => P (.nx e') S2
      | .rt d => P (.rt d) S2 else P (.nx e) S1) : (evS c (.while_ t b) e S).Is P := by
  simp only [evS]
  have go : ∀ (k m : Nat) (e : Env) (S : Sto), m < k → I m e S → (whileL (fun e1 S1 => (evE c t e1 S1).bind fun x S2 => match x with
      | .bl v => .ok v S2
      | _ => .no) (fun e1 S1 => evSs c b e1 S1) k e S).Is P := by
    intro k
    induction k with
    | zero => intro m e S h; omega
    | succ k ih =>
      intro m e S hk h
      unfold whileL
      rw [is_bind, is_bind]
      refine (hs m e S h).mono fun x S1 ⟨v, hx, hv⟩ => ?_
      subst hx
      rw [is_ok]
      cases v with
      | false => exact (is_ok _).mpr hv
      | true =>
        rw [if_pos rfl, is_bind]
        refine R.Is.mono hv fun fl S2 h2 => ?_
        cases fl with
        | nx e' => obtain ⟨m', h3, h4⟩ := h2; exact ih m' e' S2 (by omega) h4
        | ct e' => obtain ⟨m', h3, h4⟩ := h2; exact ih m' e' S2 (by omega) h4
        | bk e' => exact (is_ok _).mpr h2
        | rt d => exact (is_ok _).mpr h2
  exact go c.wf m0 e S hm h0
end Ev

/-! EvNum: ints as texts, joined texts: how long; comprehensions over lists by value -/
namespace Ev
open PySem

theorem len_ofString (s : String) : (Str.ofString s).length = s.length := by
  rw [Str.ofString_eq_toList]
  show (s.toList.map Char.toNat).toArray.size = _
  rw [List.size_toArray, List.length_map, String.length_toList]
theorem len_app (a b : Str) : (a ++ b).length = a.length + b.length := by
  show (a.cps ++ b.cps).size = _
  rw [Array.size_append]; rfl
theorem strOfInt_len {i : Int} {k : Nat} (hk : 0 < k) (h : i.natAbs < 10 ^ k) : (strOfInt i).length ≤ k + 1 := by
  unfold strOfInt
  rw [show ((toString i : String) : Str) = Str.ofString (toString i) from rfl, len_ofString]
  cases i with
  | ofNat m =>
    show (Nat.repr m).length ≤ _
    unfold Nat.repr
    rw [String.length_ofList]
    have := (Nat.length_toDigits_le_iff (b := 10) (n := m) (by decide) hk).mpr h
    omega
  | negSucc m =>
    show ("-" ++ Nat.repr (m + 1)).length ≤ _
    have e : (Nat.repr (m + 1)).length = (Nat.toDigits 10 (m + 1)).length := by
      unfold Nat.repr
      exact String.length_ofList
    rw [String.length_append, e]
    have h' : m + 1 < 10 ^ k := h
    have := (Nat.length_toDigits_le_iff (b := 10) (n := m + 1) (by decide) hk).mpr h'
    show 1 + _ ≤ _
    omega
/-- an int of at most 301 digits -/
def Sm (i : Int) : Prop := i.natAbs < 10 ^ 301
theorem Sm.l {i : Int} (h : Sm i) : (strOfInt i).length ≤ 302 := strOfInt_len (by decide) h
theorem log_lt {n k : Nat} (h : n < 2 ^ k) (hk : 0 < k) : n.log2 < k := by
  by_cases h0 : n = 0
  · subst h0; simpa using hk
  · exact (Nat.log2_lt h0).mpr h
theorem Sm.b {i : Int} (h : Sm i) : bits i < 1920 := by
  refine log_lt (Nat.lt_of_lt_of_le h ?_) (by decide)
  decide +kernel
theorem Sm.of {i : Int} {k : Nat} (h : i.natAbs < 10 ^ k) (hk : k ≤ 301) : Sm i := Nat.lt_of_lt_of_le h (Nat.pow_le_pow_right (by decide) hk)
theorem bits_lt {i : Int} {k : Nat} (h : i.natAbs < 2 ^ k) (hk : 0 < k) : bits i < k := log_lt h hk

theorem low_str (b : Nat) (x : Str) : D.low b (.str x) = true := rfl
theorem low_int (b : Nat) (x : Int) : D.low b (.int x) = true := rfl
theorem low_bl (b : Nat) (x : Bool) : D.low b (.bl x) = true := rfl
theorem len_join (sep : Str) : ∀ xs : List Str, (Str.join sep xs).length ≤ (xs.map strLen).sum + xs.length * sep.length
  | [] => by
    show (0 : Nat) ≤ _
    omega
  | [x] => by
    show x.length ≤ _
    simp only [List.map_cons, List.map_nil, List.sum_cons, List.sum_nil, strLen]
    omega
  | x :: y :: r => by
    show (x ++ sep ++ Str.join sep (y :: r)).length ≤ _
    have ih := len_join sep (y :: r)
    rw [len_app, len_app]
    simp only [List.map_cons, List.sum_cons, List.length_cons, strLen] at ih ⊢
    have : (r.length + 1 + 1) * sep.length = (r.length + 1) * sep.length + sep.length := by rw [Nat.add_mul]; omega
    omega
theorem sum_le {xs : List Str} {b : Nat} (h : ∀ x ∈ xs, x.length ≤ b) : (xs.map strLen).sum ≤ xs.length * b := by
  induction xs with
  | nil => simp
  | cons x r ih =>
    have h1 := h x List.mem_cons_self
    have h2 := ih fun y hy => h y (List.mem_cons_of_mem _ hy)
    simp only [List.map_cons, List.sum_cons, List.length_cons, strLen]
    rw [Nat.add_mul]
    omega
theorem strsOf_map : ∀ xs : List Str, strsOf (xs.map .str) = some xs
  | [] => rfl
  | x :: r => by simp only [List.map_cons, strsOf, strsOf_map r, Option.map_some]
theorem strsOf_mapf {α : Type} (f : α → Str) (as : List α) : strsOf (as.map fun a => .str (f a)) = some (as.map f) := by
  have := strsOf_map (as.map f)
  rw [List.map_map] at this
  exact this
theorem intsOf_map : ∀ xs : List Int, intsOf (xs.map .int) = some xs
  | [] => rfl
  | x :: r => by simp only [List.map_cons, intsOf, intsOf_map r, Option.map_some]
theorem boolsOf_map : ∀ xs : List Bool, boolsOf (xs.map .bl) = some xs
  | [] => rfl
  | x :: r => by simp only [List.map_cons, boolsOf, boolsOf_map r, Option.map_some]
section
variable {P : List D → Sto → Prop} {S : Sto}
/-- each item by itself -/
theorem comp_map {α : Type} {t : It} {f : D → Sto → R (Option D)} (as : List α) (toD g : α → D) (hat : t.at_ = []) (hx : t.xs = as.map toD) (h : ∀ a ∈ as, (f (toD a) S).Is fun y S' => y = some (g a) ∧ S' = S) (hp : P (as.map g) S) : (compL t f t.xs S).Is P := by
  refine w_compL (fun k ds S' => S' = S ∧ ds = (as.take k).map g) ⟨rfl, rfl⟩ (fun k ds S' _ _ => by unfold It.ok; rw [hat]; rfl) (fun k x ds S' hk ⟨e1, e2⟩ => ?_) (fun ds S' ⟨e1, e2⟩ => ?_)
  · subst e1 e2
    rw [hx, List.getElem?_map] at hk
    obtain ⟨a, ha, rfl⟩ := Option.map_eq_some_iff.mp hk
    refine (h a (List.mem_of_getElem? ha)).mono fun y S2 ⟨e3, e4⟩ => ?_
    subst e3 e4
    refine ⟨rfl, ?_⟩
    rw [List.take_add_one, ha, List.map_append]
    rfl
  · subst e1 e2
    rw [hx, List.length_map, List.take_length]
    exact hp
/-- .. and some left out -/
theorem comp_filter {α : Type} {t : It} {f : D → Sto → R (Option D)} (as : List α) (toD g : α → D) (c : α → Bool) (hat : t.at_ = []) (hx : t.xs = as.map toD) (h : ∀ a ∈ as, (f (toD a) S).Is fun y S' => y = (if c a then some (g a) else none) ∧ S' = S) (hp : P ((as.filter c).map g) S) : (compL t f t.xs S).Is P := by
  refine w_compL (fun k ds S' => S' = S ∧ ds = ((as.take k).filter c).map g) ⟨rfl, rfl⟩ (fun k ds S' _ _ => by unfold It.ok; rw [hat]; rfl) (fun k x ds S' hk ⟨e1, e2⟩ => ?_) (fun ds S' ⟨e1, e2⟩ => ?_)
  · subst e1 e2
    rw [hx, List.getElem?_map] at hk
    obtain ⟨a, ha, rfl⟩ := Option.map_eq_some_iff.mp hk
    refine (h a (List.mem_of_getElem? ha)).mono fun y S2 ⟨e3, e4⟩ => ?_
    subst e3 e4
    refine ⟨rfl, ?_⟩
    rw [List.take_add_one, ha, List.filter_append, List.map_append]
    cases hc : c a <;> simp [List.filter_cons, hc]
  · subst e1 e2
    rw [hx, List.length_map, List.take_length]
    exact hp
end
theorem okEL_map {α : Type} {f : α → D} {k : Nat} : ∀ {as : List α}, (∀ a ∈ as, D.okE k (f a) = true) → D.okEL k (as.map f) = true
  | [], _ => rfl
  | a :: r, h => by
    simp only [List.map_cons, D.okEL, h a List.mem_cons_self, Bool.true_and]
    exact okEL_map fun b hb => h b (List.mem_cons_of_mem _ hb)
theorem eq_tnil {S : Sto} {xs : List D} (h : D.okE DEEP (.tup xs) = true) : eqD S (.tup xs) (.tup []) = some xs.isEmpty := by
  have h2 : D.okE DEEP (.tup []) = true := rfl
  simp only [eqD, look, h, h2, Bool.and_self, if_true]
  cases xs <;> rfl
end Ev

/-! EvEq: the operations at data whose kind is seen -/
namespace Ev
open PySem
section
variable (S : Sto) (i j : Int) (a b : Str) (xs ys : List D) (x y : D) (p q : Bool)
theorem bin_addI : binD .add (.int i) (.int j) = some (.int (i + j)) := rfl
theorem bin_addS : binD .add (.str a) (.str b) = if a.length + b.length ≤ LIM then some (.str (a ++ b)) else none := rfl
theorem bin_addT : binD .add (.tup xs) (.tup ys) = if xs.length + ys.length ≤ LIM then some (.tup (xs ++ ys)) else none := rfl
theorem bin_sub : binD .sub (.int i) (.int j) = some (.int (i - j)) := rfl
theorem bin_mul : binD .mul (.int i) (.int j) = if mulOk i j then some (.int (i * j)) else none := rfl
theorem bin_mulT : binD .mul (.tup xs) (.int j) = if xs.length ≤ 1000 ∧ j.natAbs ≤ 1000 then some (.tup (repL xs j.toNat)) else none := rfl
theorem bin_fdiv : binD .fdiv (.int i) (.int j) = if divOk j then some (.int (i.fdiv j)) else none := rfl
theorem bin_mod : binD .mod (.int i) (.int j) = if modOk j then some (.int (i.fmod j)) else none := rfl
theorem bin_pow : binD .pow (.int i) (.int j) = if powOk i j then some (.int (i ^ j.toNat)) else none := rfl
theorem look_int : look S (.int i) = .int i := rfl
theorem look_str : look S (.str a) = .str a := rfl
theorem look_bl : look S (.bl p) = .bl p := rfl
theorem look_non : look S .non = .non := rfl
theorem look_tup : look S (.tup xs) = .tup xs := rfl
theorem look_lst : look S (.lst xs) = .lst xs := rfl
theorem look_sq : look S (.sq xs) = .sq xs := rfl
theorem items_tup : itemsOf S (.tup xs) = some xs := rfl
theorem items_lst : itemsOf S (.lst xs) = some xs := rfl
theorem items_sq : itemsOf S (.sq xs) = some xs := rfl
theorem items_own {n : Nat} (h : S[n]? = some (.lst xs)) : itemsOf S (.own n) = some xs := by simp [itemsOf, h]
theorem look_own {n : Nat} (h : S[n]? = some (.lst xs)) : look S (.own n) = .lst xs := by simp [look, h]
theorem list_lst : listOf S (.lst xs) = some xs := rfl
theorem list_sq : listOf S (.sq xs) = some xs := rfl
theorem cmp_lt : cmpD .lt S (.int i) (.int j) = some (decide (i < j)) := rfl
theorem cmp_le : cmpD .le S (.int i) (.int j) = some (decide (i ≤ j)) := rfl
theorem cmp_gt : cmpD .gt S (.int i) (.int j) = some (decide (i > j)) := rfl
theorem cmp_ge : cmpD .ge S (.int i) (.int j) = some (decide (i ≥ j)) := rfl
theorem cmp_eq : cmpD .eq S x y = eqD S x y := rfl
theorem cmp_ne : cmpD .ne S x y = (eqD S x y).map (!·) := rfl
theorem eq_int : eqD S (.int i) (.int j) = some (decide (i = j)) := by
  simp only [eqD, look, D.okE, DEEP, D.peq, Bool.and_self, if_true]
  congr 1
theorem eq_str : eqD S (.str a) (.str b) = some (decide (a = b)) := rfl
theorem eq_bl : eqD S (.bl p) (.bl q) = some (p == q) := by
  simp only [eqD, look, D.okE, DEEP, D.peq, Bool.and_self, if_true]
theorem cmp_isN : cmpD .is_ S x .non = some (decide (x = .non)) := rfl
theorem cmp_isB : cmpD .is_ S (.bl p) (.bl q) = some (decide (p = q)) := rfl
theorem cmp_isnot : cmpD .isnot S x .non = some (!decide (x = .non)) := rfl
theorem cmp_inT : cmpD .in_ S x (.tup ys) = if D.okE DEEP x && D.okEL DEEP ys then some (inAny x ys) else none := by cases x <;> rfl
theorem cmp_inL : cmpD .in_ S x (.lst ys) = if D.okE DEEP x && D.okEL DEEP ys then some (inAny x ys) else none := by cases x <;> rfl
theorem cmp_ninL : cmpD .notin S x (.lst ys) = if D.okE DEEP x && D.okEL DEEP ys then some (!inAny x ys) else none := by cases x <;> rfl
theorem cmp_ninO {n : Nat} (h : S[n]? = some (.lst ys)) : cmpD .notin S x (.own n) = if D.okE DEEP x && D.okEL DEEP ys then some (!inAny x ys) else none := by cases x <;> simp [cmpD, itemsOf, h]
/-- an item by its place -/
def atP (xs : List D) (k : Int) : Option D := match place xs.length k with
  | some p => xs[p]?
  | none => none
theorem sub_tup : subD S (.tup xs) (.int i) = atP xs i := rfl
theorem sub_lst : subD S (.lst xs) (.int i) = atP xs i := rfl
theorem sub_sq : subD S (.sq xs) (.int i) = atP xs i := rfl
theorem sub_own {n : Nat} (h : S[n]? = some (.lst xs)) : subD S (.own n) (.int i) = atP xs i := by
  simp only [subD, itemsOf, h, atP] <;> rfl
theorem atP_nat (k : Nat) : atP xs (k : Nat) = xs[k]? := by
  unfold atP place
  by_cases h : k < xs.length
  · rw [if_pos (by omega), if_pos (by omega), Int.toNat_natCast]
  · rw [if_pos (by omega), if_neg (by omega), List.getElem?_eq_none (by omega)]
theorem atP0 : atP xs 0 = xs[0]? := atP_nat xs 0
theorem atP1 : atP xs 1 = xs[1]? := atP_nat xs 1
theorem atP2 : atP xs 2 = xs[2]? := atP_nat xs 2
theorem atP3 : atP xs 3 = xs[3]? := atP_nat xs 3
theorem atP4 : atP xs 4 = xs[4]? := atP_nat xs 4
theorem atP5 : atP xs 5 = xs[5]? := atP_nat xs 5
theorem atP_pos (h : 0 ≤ i) : atP xs i = xs[i.toNat]? := by
  obtain ⟨k, rfl⟩ := Int.eq_ofNat_of_zero_le h
  exact atP_nat xs k
theorem len_tup : biD .len S [.tup xs] = some (.int xs.length) := rfl
theorem len_lst : biD .len S [.lst xs] = some (.int xs.length) := rfl
theorem len_sq : biD .len S [.sq xs] = some (.int xs.length) := rfl
theorem len_own {n : Nat} (h : S[n]? = some (.lst xs)) : biD .len S [.own n] = some (.int xs.length) := by simp [biD, one, bi1, lenD, h]
theorem len_str : biD .len S [.str a] = if a.length ≤ LIM then some (.int a.length) else none := by
  simp only [biD, one, bi1, lenD]
  split <;> rfl
theorem bi_abs : biD .abs S [.int i] = some (.int (if i < 0 then -i else i)) := rfl
theorem bi_int : biD .int1 S [.int i] = some (.int i) := rfl
theorem bi_strI : biD .str1 S [.int i] = if bits i < 1920 then some (.str (strOfInt i)) else none := rfl
theorem bi_strS : biD .str1 S [.str a] = some (.str a) := rfl
theorem bi_tupL : biD .tuple1 S [.lst xs] = some (.tup xs) := rfl
theorem bi_tupT : biD .tuple1 S [.tup xs] = some (.tup xs) := rfl
theorem bi_tupS : biD .tuple1 S [.sq xs] = some (.tup xs) := rfl
theorem bi_tupO {n : Nat} (h : S[n]? = some (.lst xs)) : biD .tuple1 S [.own n] = some (.tup xs) := by simp [biD, one, bi1, itemsOf, h]
theorem bi_max2 : biD .max2 S [.int i, .int j] = some (.int (if j > i then j else i)) := rfl
theorem bi_min2 : biD .min2 S [.int i, .int j] = some (.int (if j < i then j else i)) := rfl
theorem bi_all : biD .all1 S [.lst xs] = (boolsOf xs).map fun bs => .bl (bs.all id) := rfl
theorem bi_any : biD .any1 S [.lst xs] = (boolsOf xs).map fun bs => .bl (bs.any id) := rfl
theorem bi_sum : biD .sum1 S [.lst xs] = (intsOf xs).map fun is => .int is.sum := rfl
theorem me_join : meD .join (.str a) [.lst xs] S = R.of ((strsOf xs).bind fun ys => if (ys.map strLen).sum + ys.length * a.length ≤ LIM then some (.str (Str.join a ys)) else none) S := rfl
theorem me_append {n : Nat} (h : S[n]? = some (.lst xs)) : meD .append (.own n) [x] S = if xs.length < LIM then .ok .non (S.set n (.lst (xs ++ [x]))) else .no := by simp [meD, oneR, atL, h]
theorem put_own {n : Nat} (h : S[n]? = some (.lst xs)) : putD (.own n) (.int i) x S = match place xs.length i with
    | some p => .ok () (S.set n (.lst (xs.set p x)))
    | none => .no := by
  simp only [putD, atL, h] <;> (cases place xs.length i <;> rfl)
theorem it_tup : iterOf S (.tup xs) = some ⟨xs, []⟩ := rfl
theorem it_lst : iterOf S (.lst xs) = some ⟨xs, []⟩ := rfl
theorem it_sq : iterOf S (.sq xs) = some ⟨xs, []⟩ := rfl
theorem slc_tup (lo hi : Option Int) : slcD (.tup xs) lo hi = some (.tup (cutL xs lo hi)) := rfl
theorem opt_none : optInt none = some none := rfl
theorem opt_some : optInt (some (.int i)) = some (some i) := rfl
theorem cut1 {α : Type} (l : List α) : cutL l (some 1) none = l.drop 1 := by
  show List.take (l.length - (if (1 : Int) < 0 then (1 + (l.length : Int)).toNat else min (1 : Int).toNat l.length)) (List.drop (if (1 : Int) < 0 then (1 + (l.length : Int)).toNat else min (1 : Int).toNat l.length) l) = _
  rw [if_neg (by decide)]
  show List.take (l.length - min 1 l.length) (List.drop (min 1 l.length) l) = _
  cases l with
  | nil => rfl
  | cons x r =>
    rw [show min 1 (x :: r).length = 1 by rw [List.length_cons]; omega]
    show List.take (r.length + 1 - 1) r = r
    rw [Nat.add_sub_cancel]
    exact List.take_length
end
end Ev

/-! EvWell: stores that change at one place; wells -/
namespace Ev
open PySem

/-- the store as it was but at w; it may be longer -/
structure Up (w : Nat) (S S' : Sto) : Prop where
  len : S.length ≤ S'.length
  at_ : ∀ j, j < S.length → j ≠ w → S'[j]? = S[j]?
section
variable {w : Nat} {S S' S2 : Sto}
theorem Up.refl : Up w S S := ⟨Nat.le_refl _, fun _ _ _ => rfl⟩
theorem Up.trans (a : Up w S S') (b : Up w S' S2) : Up w S S2 := ⟨Nat.le_trans a.len b.len, fun j h n => (b.at_ j (Nat.lt_of_lt_of_le h a.len) n).trans (a.at_ j h n)⟩
theorem Up.set (o : Ob) : Up w S (S.set w o) := ⟨by rw [List.length_set]; exact Nat.le_refl _, fun j _ n => List.getElem?_set_ne (Ne.symm n)⟩
theorem Up.take (a : Up w S S') : Up w S (S'.take S.length) := ⟨by rw [List.length_take]; have := a.len; omega, fun j h n => by rw [List.getElem?_take, if_pos h]; exact a.at_ j h n⟩
theorem Up.ext (X : Sto) : Up w S (S ++ X) := ⟨by rw [List.length_append]; omega, fun j h n => List.getElem?_append_left h⟩
theorem outer_of {b : Nat} : ∀ {S S' : Sto}, S.length ≤ S'.length → (∀ (j : Nat) (o o' : Ob), S[j]? = some o → S'[j]? = some o' → o' = o ∨ o'.low b = true) → outerOk b S S' = true
  | [], _, _, _ => rfl
  | _ :: _, [], h, _ => by simp at h
  | o :: r, o' :: r', h, q => by
    have h1 := q 0 o o' rfl rfl
    have h2 := outer_of (b := b) (S := r) (S' := r') (by simpa using h) fun j u u' e e' => q (j + 1) u u' (by simpa using e) (by simpa using e')
    simp only [outerOk, h2, Bool.and_true, Bool.or_eq_true, decide_eq_true_eq]
    exact h1
/-- the end of a call that changed the list at w -/
theorem finish_up {d : D} {o : Ob} (u : Up w S S') (hd : d.low S.length = true) (ho : S'[w]? = some o) (lo : o.low S.length = true) : finish false S d S' = .ok d (S'.take S.length) := by
  unfold finish
  rw [if_pos (outer_of u.len fun j a b h1 h2 => ?_)]
  · simp [frz, hd]
  · by_cases hj : j = w
    · subst hj
      rw [ho] at h2
      cases h2
      exact .inr lo
    · have hl := (List.getElem?_eq_some_iff.mp h1).1
      rw [u.at_ j hl hj, h1] at h2
      cases h2
      exact .inl rfl
end
theorem put_at {S : Sto} {n p : Nat} {xs : List D} {i : Int} (h : S[n]? = some (.lst xs)) (hp : place xs.length i = some p) (x : D) : putD (.own n) (.int i) x S = .ok () (S.set n (.lst (xs.set p x))) := by
  rw [put_own (h := h), hp]
def wellO (x y c : Int) : Ob := .lst [.int x, .int y, .int c]
/-- a well with at least k draws left -/
def Well (w k : Nat) (S : Sto) : Prop := ∃ x y c : Int, S[w]? = some (wellO x y c) ∧ 0 ≤ x ∧ 0 ≤ y ∧ y < 10 ^ 26 ∧ 0 ≤ c ∧ c + k ≤ 2 ^ 60
theorem Well.lt {w k : Nat} {S : Sto} (h : Well w k S) : w < S.length := by
  obtain ⟨x, y, c, h, _⟩ := h
  exact (List.getElem?_eq_some_iff.mp h).1
theorem Well.less {w k j : Nat} {S : Sto} (h : Well w k S) (hj : j ≤ k) : Well w j S := by
  obtain ⟨x, y, c, h1, h2, h3, h4, h5, h6⟩ := h
  exact ⟨x, y, c, h1, h2, h3, h4, h5, by omega⟩
theorem Well.same {w k : Nat} {S S' : Sto} (h : Well w k S) (e : S'[w]? = S[w]?) : Well w k S' := by
  obtain ⟨x, y, c, h1, r⟩ := h
  exact ⟨x, y, c, e.trans h1, r⟩
theorem low_well (b : Nat) (x y c : Int) : (wellO x y c).low b = true := rfl
theorem Well.obj {w k : Nat} {S : Sto} (h : Well w k S) : ∃ o, S[w]? = some o ∧ ∀ b, o.low b = true := by
  obtain ⟨x, y, c, h1, _⟩ := h
  exact ⟨_, h1, fun b => low_well b x y c⟩
/-- the end of a call that drew -/
theorem finish_well {w k : Nat} {S S' : Sto} {d : D} (u : Up w S S') (h : Well w k S') (hd : d.low S.length = true) : finish false S d S' = .ok d (S'.take S.length) :=
  let ⟨o, ho, lo⟩ := h.obj
  finish_up u hd ho (lo _)
theorem Well.take {w k : Nat} {S S' : Sto} (h : Well w k S') (hw : w < S.length) : Well w k (S'.take S.length) := h.same (by rw [List.getElem?_take, if_pos hw])
/-- what drawing leaves -/
structure Dr (w k : Nat) (S S' : Sto) : Prop where
  up : Up w S S'
  len : S'.length = S.length
  well : Well w k S'
theorem Dr.trans {w k j : Nat} {S S' S2 : Sto} (a : Dr w k S S') (b : Dr w j S' S2) : Dr w j S S2 := ⟨a.up.trans b.up, b.len.trans a.len, b.well⟩
theorem fmod_pos (a : Int) {m : Int} (h : 0 < m) : 0 ≤ a.fmod m := Int.fmod_nonneg_of_pos a h
theorem fmod_lt (a : Int) {m : Int} (h : 0 < m) : a.fmod m < m := Int.fmod_lt_of_pos a h
theorem bits_of {i : Int} {k : Nat} (h0 : 0 ≤ i) (h : i < 2 ^ k) (hk : 0 < k) : bits i < k := by
  refine bits_lt ?_ hk
  have : (i.natAbs : Int) < (2 ^ k : Nat) := by
    rw [Int.natAbs_of_nonneg h0]
    rw [Int.natCast_pow]
    exact h
  omega
theorem bits_le {i : Int} {k : Nat} (h : -(2 ^ k : Nat) < i) (h2 : i < (2 ^ k : Nat)) (hk : 0 < k) : bits i < k := bits_lt (by omega) hk
theorem mul_ok {i j : Int} (h1 : bits i < BIG) (h2 : bits j < BIG) : mulOk i j = true := by
  simp only [mulOk, h1, h2, decide_true, Bool.and_self]
theorem pow_ok {i j : Int} (h0 : 0 ≤ j) (h1 : j ≤ 1000) (h2 : bits i < 100000) : powOk i j = true := by
  simp only [powOk, h0, h1, h2, decide_true, Bool.and_self]
theorem mod_ok {j : Int} (h : j ≠ 0) : modOk j = true := by simp only [modOk, decide_eq_true_eq]; exact h
theorem div_ok {j : Int} (h : j ≠ 0) (hb : bits j < 9000) : divOk j = true := by simp only [divOk, Bool.and_eq_true, decide_eq_true_eq]; exact ⟨h, hb⟩
theorem rangeL_nat (k : Nat) : rangeL 0 (k : Int) = (List.range k).map fun (j : Nat) => .int (j : Int) := by
  unfold rangeL
  rw [Int.sub_zero, Int.toNat_natCast]
  refine List.map_congr_left fun j _ => ?_
  rw [Int.zero_add]
theorem rangeL_len (k : Nat) : (rangeL 0 (k : Int)).length = k := by rw [rangeL_nat, List.length_map, List.length_range]
theorem rng_nat {k : Nat} (h : k ≤ LIM) : rngD [.int (k : Int)] = some (rangeL 0 (k : Int)) := by
  show (if (k : Int) ≤ (LIM : Nat) ∧ -(2 ^ 60) ≤ (k : Int) then some (rangeL 0 (k : Int)) else none) = _
  exact if_pos ⟨by omega, by omega⟩
theorem rangeL_get {k i : Nat} {x : D} (h : (rangeL 0 (k : Int))[i]? = some x) : x = .int (i : Int) ∧ i < k := by
  rw [rangeL_nat, List.getElem?_map] at h
  obtain ⟨j, hj, rfl⟩ := Option.map_eq_some_iff.mp h
  obtain ⟨h1, h2⟩ := List.getElem?_eq_some_iff.mp hj
  rw [List.getElem_range] at h2
  rw [List.length_range] at h1
  exact ⟨by rw [h2], h1⟩
theorem ok_nil {xs : List D} {S : Sto} : (⟨xs, []⟩ : It).ok S = true := rfl
theorem pow10_bits {k : Nat} (h : k ≤ 301) : bits ((10 : Int) ^ k) < 1010 := by
  refine bits_lt ?_ (by decide)
  rw [Int.natAbs_pow]
  refine Nat.lt_of_le_of_lt (Nat.pow_le_pow_right (by decide) h) ?_
  decide +kernel
theorem finish_dr {w k : Nat} {S S' : Sto} {d : D} (a : Dr w k S S') (hd : d.low S.length = true) : finish false S d S' = .ok d S' := by
  rw [finish_well a.up a.well hd, ← a.len, List.take_length]
theorem Dr.refl {w k : Nat} {S : Sto} (h : Well w k S) : Dr w k S S := ⟨.refl, rfl, h⟩
theorem abs_bits {v : Int} {m : Nat} (hm : m ≤ 300) (h : v.natAbs ≤ 10 ^ m) : bits v < 1010 := by
  refine bits_lt ?_ (by decide)
  have h1 : 10 ^ m ≤ 10 ^ 300 := Nat.pow_le_pow_right (by decide) hm
  have h2 : (10 : Nat) ^ 300 < 2 ^ 1010 := by decide +kernel
  omega
theorem pow10_le {a b : Nat} (h : a ≤ b) : (10 : Int) ^ a ≤ 10 ^ b := by
  have h1 : 10 ^ a ≤ 10 ^ b := Nat.pow_le_pow_right (by decide) h
  have e1 : ((10 ^ a : Nat) : Int) = 10 ^ a := by simp
  have e2 : ((10 ^ b : Nat) : Int) = 10 ^ b := by simp
  omega
theorem Up.setAbove {w m : Nat} {S T : Sto} (u : Up w S T) (hm : S.length ≤ m) (o : Ob) : Up w S (T.set m o) :=
  ⟨by rw [List.length_set]; exact u.len, fun j h n => by rw [List.getElem?_set_ne (by omega)]; exact u.at_ j h n⟩
theorem Well.setAbove {w k m : Nat} {T : Sto} (h : Well w k T) (hm : m ≠ w) (o : Ob) : Well w k (T.set m o) := h.same (List.getElem?_set_ne hm)
theorem Up.push {w : Nat} {S T : Sto} (u : Up w S T) (X : Sto) : Up w S (T ++ X) := u.trans (Up.ext X)
theorem Well.push {w k : Nat} {T : Sto} (h : Well w k T) (X : Sto) : Well w k (T ++ X) := h.same (List.getElem?_append_left h.lt)
theorem get_push (T : Sto) (o : Ob) : (T ++ [o])[T.length]? = some o := by
  rw [List.getElem?_append_right (Nat.le_refl _), Nat.sub_self]
  rfl
theorem eq_own {T : Sto} {m : Nat} {xs ys : List D} (h : T[m]? = some (.lst xs)) (h1 : D.okE DEEP (.lst xs) = true) (h2 : D.okE DEEP (.lst ys) = true) : eqD T (.own m) (.lst ys) = some (D.peq (.lst xs) (.lst ys)) := by
  have : look T (.own m) = .lst xs := look_own T _ h
  simp only [eqD, this, look_lst, h1, h2, Bool.and_self, if_true]
theorem okL_ints (xs : List Int) : D.okE DEEP (.lst (xs.map D.int)) = true := okEL_map fun _ _ => rfl
theorem place_nat {n v : Nat} (h : v < n) : place n (v : Int) = some v := by
  unfold place
  rw [if_pos (by omega), if_pos (by omega), Int.toNat_natCast]
theorem low_ints (b : Nat) : ∀ is : List Int, D.lowL b (is.map D.int) = true
  | [] => rfl
  | i :: is => by simp only [List.map_cons, D.lowL, D.low, Bool.true_and]; exact low_ints b is
theorem repL_one {α : Type} (x : α) : ∀ n : Nat, repL [x] n = List.replicate n x
  | 0 => rfl
  | n + 1 => by
    have ih := repL_one x n
    unfold repL at ih ⊢
    rw [List.replicate_succ, List.flatten_cons, ih, List.replicate_succ]
    rfl
theorem eq_lnil {S : Sto} {xs : List D} (h : D.okE DEEP (.lst xs) = true) : eqD S (.lst xs) (.lst []) = some xs.isEmpty := by
  have h2 : D.okE DEEP (.lst []) = true := rfl
  simp only [eqD, look, h, h2, Bool.and_self, if_true]
  cases xs <;> rfl
theorem two_get0 (S : Sto) (a b : Ob) : (S ++ [a, b])[S.length]? = some a := by simp
theorem two_get1 (S : Sto) (a b : Ob) : (S ++ [a, b])[S.length + 1]? = some b := by simp
theorem two_set0 (S : Sto) (a b x : Ob) : (S ++ [a, b]).set S.length x = S ++ [x, b] := by simp
theorem two_set1 (S : Sto) (a b x : Ob) : (S ++ [a, b]).set (S.length + 1) x = S ++ [a, x] := by simp
theorem frz_low {S : Sto} {b k : Nat} {d : D} (h : d.low b = true) : frz S b (k + 1) d = some d := by simp [frz, h]
theorem mapM_low {S : Sto} {b k : Nat} : ∀ {xs : List D}, D.lowL b xs = true → xs.mapM (frz S b (k + 1)) = some xs
  | [], _ => rfl
  | x :: r, h => by
    simp only [D.lowL, Bool.and_eq_true] at h
    rw [List.mapM_cons, frz_low h.1, mapM_low h.2]
    rfl
/-- a list made in the call is handed back -/
theorem finish_own {S S' : Sto} {m : Nat} {xs : List D} (ho : outerOk S.length S S' = true) (hm : S.length ≤ m) (e : S'[m]? = some (.lst xs)) (hl : D.lowL S.length xs = true) : finish false S (.own m) S' = .ok (.lst xs) (S'.take S.length) := by
  unfold finish
  rw [if_pos ho]
  have hn : (D.own m).low S.length = false := by
    simp only [D.low, decide_eq_false_iff_not]
    omega
  have : frz S' S.length 30 (.own m) = some (.lst xs) := by
    show (if (D.own m).low S.length = true then _ else _) = _
    rw [hn, if_neg Bool.false_ne_true]
    simp only [e, mapM_low hl, Option.map_some]
  simp only [this]
theorem finish_keep {S : Sto} {o : Ob} (h : o.low S.length = true) : finish true S (.own S.length) (S ++ [o]) = .ok (.own S.length) (S ++ [o]) := by
  unfold finish
  rw [if_pos (outer_ext _ _ _)]
  simp only [Nat.lt_irrefl, if_false, get_push, h, if_true, List.take_left]
theorem finish_nil {d : D} {S' : Sto} (h : d.low 0 = true) : finish false [] d S' = .ok d [] := by
  unfold finish
  rw [if_pos (outer_of (Nat.zero_le _) (fun j o o' h => by simp at h))]
  simp [frz, h]
end Ev

/-! ### the text in the small language (written by gen.py) -/
namespace K47
open PySem Ev
def f0 : Fn := ⟨1, 3, .cons (.asg (.tup (.cons (.name 1) (.cons (.name 2) .nil))) (.var 0)) (.cons (.ret (.ifx (.cmp .eq (.var 2) (.con (.int 1))) (.bi .str1 (.cons (.var 1) .nil)) (.bin .add (.bin .add (.bi .str1 (.cons (.var 1) .nil)) (.con (.str "/"))) (.bi .str1 (.cons (.var 2) .nil))))) .nil), false⟩ -- show_number
def f1 : Fn := ⟨1, 2, .cons (.ret (.me .join (.con (.str " ")) (.cons (.frz (.comp [1] (.call 0 (.cons (.var 1) .nil)) (.name 1) (.val (.var 0)) (.nil))) .nil))) .nil, false⟩ -- show_point
def f2 : Fn := ⟨1, 1, .cons (.ret (.call 3 (.cons (.var 0) .nil))) .nil, false⟩ -- show_row
def f3 : Fn := ⟨1, 2, .cons (.ret (.ifx (.cmp .gt (.bi .len (.cons (.var 0) .nil)) (.con (.int 0))) (.me .join (.con (.str "")) (.cons (.frz (.comp [1] (.tab [.int (-1), .int 0, .int 1, .non] [.str "-", .str "0", .str "+", .str "?"] (.var 1)) (.name 1) (.val (.var 0)) (.nil))) .nil)) (.glob 0))) .nil, false⟩ -- show_wish
def f4 : Fn := ⟨1, 2, .cons (.ret (.me .join (.con (.str " ")) (.cons (.frz (.comp [1] (.bi .str1 (.cons (.var 1) .nil)) (.name 1) (.val (.var 0)) (.nil))) .nil))) .nil, false⟩ -- show_sides
def f5 : Fn := ⟨1, 3, .cons (.asg (.tup (.cons (.name 1) (.cons (.name 2) .nil))) (.var 0)) (.cons (.ret (.bin .add (.bin .add (.call 4 (.cons (.var 1) .nil)) (.con (.str " : "))) (.bi .str1 (.cons (.var 2) .nil)))) .nil), false⟩ -- show_question
def f6 : Fn := ⟨1, 4, .cons (.asg (.tup (.cons (.name 1) (.cons (.name 2) .nil))) (.var 0)) (.cons (.ret (.me .join (.con (.str "\n")) (.cons (.frz (.cat (.frz (.disp (.cons (.bin .add (.con (.str "book ")) (.bi .str1 (.cons (.var 1) .nil))) .nil))) (.frz (.comp [3] (.call 5 (.cons (.var 3) .nil)) (.name 3) (.val (.var 2)) (.nil))))) .nil))) .nil), false⟩ -- show_book
def f7 : Fn := ⟨1, 2, .cons (.ifs (.cmp .in_ (.sub (.var 0) (.con (.int 0))) (.glob 1)) (.cons (.ret (.bin .add (.bin .add (.bin .add (.bin .add (.bin .add (.bin .add (.con (.str "(")) (.sub (.var 0) (.con (.int 0)))) (.con (.str " ["))) (.call 4 (.cons (.sub (.var 0) (.con (.int 1))) .nil))) (.con (.str "] "))) (.bi .str1 (.cons (.sub (.var 0) (.con (.int 2))) .nil))) (.con (.str ")")))) .nil) (.nil)) (.cons (.ret (.bin .add (.bin .add (.con (.str "(")) (.me .join (.con (.str " ")) (.cons (.frz (.cat (.frz (.disp (.cons (.sub (.var 0) (.con (.int 0))) .nil))) (.frz (.comp [1] (.call 7 (.cons (.var 1) .nil)) (.name 1) (.val (.slc (.var 0) (.yes (.con (.int 1))) (.no))) (.nil))))) .nil))) (.con (.str ")")))) .nil), false⟩ -- show_saying
def f8 : Fn := ⟨2, 3, .cons (.asg (.name 2) (.ifx (.cmp .lt (.var 1) (.bi .len (.cons (.var 0) .nil))) (.bi .int1 (.cons (.sub (.var 0) (.var 1)) .nil)) (.bin .add (.bin .mul (.var 1) (.con (.int 104723))) (.bin .mul (.bi .len (.cons (.var 0) .nil)) (.con (.int 15485863)))))) (.cons (.ret (.own (.disp (.cons (.bi .max2 (.cons (.con (.int 0)) (.cons (.bin .sub (.bi .abs (.cons (.var 2) .nil)) (.bin .pow (.con (.int 10)) (.con (.int 18)))) .nil))) (.cons (.bin .mod (.bi .int1 (.cons (.bin .add (.bin .add (.bin .mul (.var 2) (.con (.int 86028157))) (.bin .mul (.var 1) (.con (.int 179424691)))) (.con (.int 7919))) .nil)) (.bin .add (.bin .pow (.con (.int 10)) (.con (.int 25))) (.con (.int 13)))) (.cons (.con (.int 0)) .nil)))))) .nil), true⟩ -- _law_well
def f9 : Fn := ⟨2, 4, .cons (.ifs (.cmp .gt (.sub (.var 0) (.con (.int 0))) (.con (.int 0))) (.cons (.asg (.name 2) (.bin .mod (.bi .int1 (.cons (.sub (.var 0) (.con (.int 0))) .nil)) (.var 1))) (.cons (.asg (.sub (.var 0) (.con (.int 0))) (.bin .fdiv (.sub (.var 0) (.con (.int 0))) (.var 1))) (.cons (.ret (.var 2)) .nil))) (.nil)) (.cons (.asg (.sub (.var 0) (.con (.int 2))) (.bin .add (.sub (.var 0) (.con (.int 2))) (.con (.int 1)))) (.cons (.asg (.name 3) (.bin .mod (.bi .int1 (.cons (.bin .pow (.bin .add (.sub (.var 0) (.con (.int 1))) (.bin .mul (.con (.int 49979693)) (.sub (.var 0) (.con (.int 2))))) (.con (.int 3))) .nil)) (.bin .add (.bin .pow (.con (.int 10)) (.con (.int 29))) (.con (.int 319))))) (.cons (.asg (.name 3) (.bin .mod (.bi .int1 (.cons (.bin .pow (.bin .add (.var 3) (.con (.int 2038074751))) (.con (.int 3))) .nil)) (.bin .add (.bin .pow (.con (.int 10)) (.con (.int 33))) (.con (.int 33))))) (.cons (.ret (.bin .mod (.bi .int1 (.cons (.bin .fdiv (.var 3) (.bin .pow (.con (.int 10)) (.con (.int 6)))) .nil)) (.var 1))) .nil)))), false⟩ -- _law_draw
def f10 : Fn := ⟨2, 3, .cons (.ifs (.cmp .is_ (.var 1) (.con (.non))) (.cons (.ret (.cmp .is_ (.var 0) (.con (.non)))) .nil) (.nil)) (.cons (.ifs (.isi (.var 1) [.bool]) (.cons (.ret (.ifx (.var 1) (.cmp .is_ (.var 0) (.con (.bl true))) (.cmp .is_ (.var 0) (.con (.bl false))))) .nil) (.nil)) (.cons (.ifs (.isi (.var 1) [.int]) (.cons (.ret (.and_ (.isi (.var 0) [.int]) (.and_ (.not_ (.isi (.var 0) [.bool])) (.cmp .eq (.var 0) (.var 1))))) .nil) (.nil)) (.cons (.ifs (.isi (.var 1) [.str]) (.cons (.ret (.and_ (.isi (.var 0) [.str]) (.cmp .eq (.var 0) (.var 1)))) .nil) (.nil)) (.cons (.ifs (.or_ (.cmp .ne (.isi (.var 1) [.tuple]) (.isi (.var 0) [.tuple])) (.cmp .ne (.isi (.var 1) [.list]) (.isi (.var 0) [.list]))) (.cons (.ret (.con (.bl false))) .nil) (.nil)) (.cons (.ret (.and_ (.cmp .eq (.bi .len (.cons (.var 0) .nil)) (.bi .len (.cons (.var 1) .nil))) (.bi .all1 (.cons (.frz (.comp [2] (.call 10 (.cons (.sub (.var 0) (.var 2)) (.cons (.sub (.var 1) (.var 2)) .nil))) (.name 2) (.rng (.cons (.bi .len (.cons (.var 1) .nil)) .nil)) (.nil))) .nil)))) .nil))))), false⟩ -- _law_same
def f11 : Fn := ⟨2, 4, .cons (.par 2 3 (.bi .abs (.cons (.var 0) .nil)) (.var 1)) (.cons (.while_ (.cmp .ne (.var 3) (.con (.int 0))) (.cons (.par 2 3 (.var 3) (.bin .mod (.bi .int1 (.cons (.var 2) .nil)) (.var 3))) .nil)) (.cons (.ret (.tup (.cons (.bin .fdiv (.var 0) (.var 2)) (.cons (.bin .fdiv (.var 1) (.var 2)) .nil)))) .nil)), false⟩ -- _law_low
def f12 : Fn := ⟨2, 5, .cons (.asg (.name 2) (.bi .abs (.cons (.var 1) .nil))) (.cons (.for_ (.name 3) (.val (.var 0)) (.cons (.asg (.name 4) (.bi .abs (.cons (.var 3) .nil))) (.cons (.while_ (.cmp .ne (.var 4) (.con (.int 0))) (.cons (.asg (.tup (.cons (.name 2) (.cons (.name 4) .nil))) (.tup (.cons (.var 4) (.cons (.bin .mod (.bi .int1 (.cons (.var 2) .nil)) (.var 4)) .nil)))) .nil)) .nil))) (.cons (.ret (.tup (.cons (.bi .tuple1 (.cons (.frz (.comp [3] (.bin .fdiv (.var 3) (.var 2)) (.name 3) (.val (.var 0)) (.nil))) .nil)) (.cons (.bin .fdiv (.var 1) (.var 2)) .nil)))) .nil)), false⟩ -- _law_divided
def f13 : Fn := ⟨2, 4, .cons (.asg (.tup (.cons (.name 0) (.cons (.name 1) .nil))) (.call 12 (.cons (.var 0) (.cons (.var 1) .nil)))) (.cons (.asg (.name 2) (.sub (.frz (.comp [3] (.var 3) (.name 3) (.val (.var 0)) (.cons (.cmp .ne (.var 3) (.con (.int 0))) .nil))) (.con (.int 0)))) (.cons (.ret (.ifx (.cmp .gt (.var 2) (.con (.int 0))) (.tup (.cons (.var 0) (.cons (.var 1) .nil))) (.tup (.cons (.bi .tuple1 (.cons (.frz (.comp [3] (.bin .sub (.con (.int 0)) (.var 3)) (.name 3) (.val (.var 0)) (.nil))) .nil)) (.cons (.bin .sub (.con (.int 0)) (.var 1)) .nil))))) .nil)), false⟩ -- _law_ground
def f14 : Fn := ⟨1, 6, .cons (.par 1 2 (.own (.disp (.nil))) (.own (.disp (.nil)))) (.cons (.for_ (.tup (.cons (.name 3) (.cons (.name 4) .nil))) (.val (.var 0)) (.cons (.ifs (.cmp .ne (.frz (.comp [5] (.var 5) (.name 5) (.val (.var 3)) (.cons (.cmp .ne (.var 5) (.con (.int 0))) .nil))) (.frz (.disp (.nil)))) (.cons (.ifs (.cmp .notin (.call 13 (.cons (.var 3) (.cons (.var 4) .nil))) (.var 2)) (.cons (.expr (.me .append (.var 2) (.cons (.call 13 (.cons (.var 3) (.cons (.var 4) .nil))) .nil))) (.cons (.expr (.me .append (.var 1) (.cons (.tup (.cons (.var 3) (.cons (.var 4) .nil))) .nil))) .nil)) (.nil)) .nil) (.nil)) .nil)) (.cons (.ret (.var 1)) .nil)), false⟩ -- _law_unlike
def f15 : Fn := ⟨1, 3, .cons (.asg (.name 1) (.con (.int 1))) (.cons (.for_ (.name 2) (.rng (.cons (.var 0) .nil)) (.cons (.asg (.name 1) (.bin .mul (.var 1) (.con (.int 10)))) .nil)) (.cons (.ret (.var 1)) .nil)), false⟩ -- _law_power
def f16 : Fn := ⟨2, 4, .cons (.par 2 3 (.call 9 (.cons (.var 0) (.cons (.con (.int 6)) .nil))) (.bin .sub (.con (.int 1)) (.bin .mul (.con (.int 2)) (.call 9 (.cons (.var 0) (.cons (.con (.int 2)) .nil)))))) (.cons (.ifs (.cmp .lt (.var 2) (.con (.int 3))) (.cons (.ret (.bin .mul (.var 3) (.call 9 (.cons (.var 0) (.cons (.con (.int 10)) .nil))))) .nil) (.nil)) (.cons (.ifs (.cmp .eq (.var 2) (.con (.int 3))) (.cons (.ret (.bin .mul (.var 3) (.bin .sub (.bin .sub (.call 15 (.cons (.var 1) .nil)) (.con (.int 1))) (.call 9 (.cons (.var 0) (.cons (.con (.int 9)) .nil)))))) .nil) (.nil)) (.cons (.ifs (.cmp .eq (.var 2) (.con (.int 4))) (.cons (.ret (.bin .mul (.var 3) (.call 9 (.cons (.var 0) (.cons (.call 15 (.cons (.var 1) .nil)) .nil))))) .nil) (.nil)) (.cons (.ret (.bin .mul (.var 3) (.bin .add (.call 15 (.cons (.call 9 (.cons (.var 0) (.cons (.var 1) .nil))) .nil)) (.call 9 (.cons (.var 0) (.cons (.con (.int 2)) .nil)))))) .nil)))), false⟩ -- _law_integer
def f17 : Fn := ⟨2, 3, .cons (.asg (.name 2) (.sub (.frz (.disp (.cons (.con (.int 1)) (.cons (.con (.int 1)) (.cons (.bi .abs (.cons (.call 16 (.cons (.var 0) (.cons (.var 1) .nil))) .nil)) .nil))))) (.call 9 (.cons (.var 0) (.cons (.con (.int 3)) .nil))))) (.cons (.ret (.call 11 (.cons (.call 16 (.cons (.var 0) (.cons (.var 1) .nil))) (.cons (.bi .max2 (.cons (.con (.int 1)) (.cons (.var 2) .nil))) .nil)))) .nil), false⟩ -- _law_number
def f18 : Fn := ⟨3, 5, .cons (.asg (.name 3) (.own (.comp [4] (.call 16 (.cons (.var 0) (.cons (.var 2) .nil))) (.name 4) (.rng (.cons (.var 1) .nil)) (.nil)))) (.cons (.ifs (.cmp .eq (.var 3) (.frz (.rep (.frz (.disp (.cons (.con (.int 0)) .nil))) (.var 1)))) (.cons (.asg (.sub (.var 3) (.call 9 (.cons (.var 0) (.cons (.var 1) .nil)))) (.con (.int 1))) .nil) (.nil)) (.cons (.ret (.tup (.cons (.bi .tuple1 (.cons (.var 3) .nil)) (.cons (.call 16 (.cons (.var 0) (.cons (.var 2) .nil))) .nil)))) .nil)), false⟩ -- _law_sided
def f19 : Fn := ⟨4, 5, .cons (.ret (.tup (.cons (.var 1) (.cons (.bi .tuple1 (.cons (.call 14 (.cons (.frz (.comp [4] (.call 18 (.cons (.var 0) (.cons (.var 1) (.cons (.var 3) .nil)))) (.name 4) (.rng (.cons (.call 9 (.cons (.var 0) (.cons (.bin .add (.var 2) (.con (.int 1))) .nil))) .nil)) (.nil))) .nil)) .nil)) .nil)))) .nil, false⟩ -- _law_book
def f20 : Fn := ⟨4, 9, .cons (.asg (.name 4) (.ifx (.cmp .gt (.var 2) (.con (.int 1))) (.call 9 (.cons (.var 0) (.cons (.con (.int 6)) .nil))) (.con (.int 0)))) (.cons (.ifs (.cmp .lt (.var 4) (.con (.int 2))) (.cons (.asg (.tup (.cons (.name 5) (.cons (.name 6) .nil))) (.call 18 (.cons (.var 0) (.cons (.var 1) (.cons (.var 3) .nil))))) (.cons (.ret (.tup (.cons (.sub (.frz (.disp (.cons (.con (.str "less")) (.cons (.con (.str "is")) (.cons (.con (.str "more")) .nil))))) (.call 9 (.cons (.var 0) (.cons (.con (.int 3)) .nil)))) (.cons (.sub (.frz (.disp (.cons (.var 5) (.cons (.var 5) (.cons (.bin .mul (.tup (.cons (.con (.int 0)) .nil)) (.var 1)) .nil))))) (.call 9 (.cons (.var 0) (.cons (.con (.int 3)) .nil)))) (.cons (.var 6) .nil))))) .nil)) (.nil)) (.cons (.ifs (.cmp .lt (.var 4) (.con (.int 4))) (.cons (.ret (.tup (.cons (.con (.str "not")) (.cons (.call 20 (.cons (.var 0) (.cons (.var 1) (.cons (.bin .sub (.var 2) (.con (.int 1))) (.cons (.var 3) .nil))))) .nil)))) .nil) (.nil)) (.cons (.asg (.name 7) (.frz (.disp (.cons (.call 20 (.cons (.var 0) (.cons (.var 1) (.cons (.bin .sub (.var 2) (.con (.int 1))) (.cons (.var 3) .nil))))) (.cons (.call 20 (.cons (.var 0) (.cons (.var 1) (.cons (.ifx (.cmp .gt (.var 2) (.con (.int 5))) (.con (.int 1)) (.bi .min2 (.cons (.bin .sub (.var 2) (.con (.int 1))) (.cons (.con (.int 2)) .nil)))) (.cons (.var 3) .nil))))) .nil))))) (.cons (.asg (.name 8) (.call 9 (.cons (.var 0) (.cons (.con (.int 2)) .nil)))) (.cons (.ret (.tup (.cons (.sub (.frz (.disp (.cons (.con (.str "both")) (.cons (.con (.str "either")) .nil)))) (.bin .sub (.var 4) (.con (.int 4)))) (.cons (.sub (.var 7) (.var 8)) (.cons (.sub (.var 7) (.bin .sub (.con (.int 1)) (.var 8))) .nil))))) .nil))))), false⟩ -- _law_deep
def f21 : Fn := ⟨3, 4, .cons (.ret (.bi .tuple1 (.cons (.frz (.comp [3] (.sub (.var 2) (.call 9 (.cons (.var 0) (.cons (.bi .len (.cons (.var 2) .nil)) .nil)))) (.name 3) (.rng (.cons (.var 1) .nil)) (.nil))) .nil))) .nil, false⟩ -- _law_wish
def f22 : Fn := ⟨4, 9, .cons (.asg (.name 4) (.bin .add (.con (.int 1)) (.call 9 (.cons (.var 0) (.cons (.sub (.frz (.disp (.cons (.con (.int 3)) (.cons (.con (.int 12)) .nil)))) (.call 9 (.cons (.var 0) (.cons (.con (.int 2)) .nil)))) .nil))))) (.cons (.asg (.name 5) (.sub (.frz (.disp (.cons (.con (.int 0)) (.cons (.con (.int 1)) (.cons (.con (.int 6)) (.cons (.con (.int 20)) .nil)))))) (.call 9 (.cons (.var 0) (.cons (.con (.int 4)) .nil))))) (.cons (.ifs (.cmp .eq (.var 1) (.con (.int 0))) (.cons (.asg (.name 6) (.call 17 (.cons (.var 0) (.cons (.var 2) .nil)))) (.cons (.ret (.tup (.cons (.var 6) (.cons (.call 23 (.cons (.var 6) .nil)) .nil)))) .nil)) (.nil)) (.cons (.ifs (.cmp .eq (.var 1) (.con (.int 1))) (.cons (.asg (.name 6) (.bi .tuple1 (.cons (.frz (.comp [7] (.call 17 (.cons (.var 0) (.cons (.var 2) .nil))) (.name 7) (.rng (.cons (.var 4) .nil)) (.nil))) .nil))) (.cons (.ret (.tup (.cons (.var 6) (.cons (.me .join (.con (.str " ")) (.cons (.frz (.comp [8] (.call 23 (.cons (.var 8) .nil)) (.name 8) (.val (.var 6)) (.nil))) .nil)) .nil)))) .nil)) (.nil)) (.cons (.ifs (.cmp .lt (.var 1) (.con (.int 4))) (.cons (.asg (.name 6) (.call 21 (.cons (.var 0) (.cons (.var 5) (.cons (.sub (.frz (.disp (.cons (.tup (.cons (.neg (.con (.int 1))) (.cons (.con (.int 0)) (.cons (.con (.int 1)) .nil)))) (.cons (.tup (.cons (.neg (.con (.int 1))) (.cons (.con (.int 0)) (.cons (.con (.int 1)) (.cons (.con (.non)) .nil))))) .nil)))) (.bin .sub (.var 1) (.con (.int 2)))) .nil))))) (.cons (.ret (.tup (.cons (.var 6) (.cons (.call 24 (.cons (.var 6) .nil)) .nil)))) .nil)) (.nil)) (.cons (.ifs (.cmp .eq (.var 1) (.con (.int 4))) (.cons (.asg (.name 6) (.call 19 (.cons (.var 0) (.cons (.var 4) (.cons (.var 5) (.cons (.var 2) .nil)))))) (.cons (.ret (.tup (.cons (.var 6) (.cons (.call 26 (.cons (.var 6) .nil)) .nil)))) .nil)) (.nil)) (.cons (.asg (.name 6) (.call 20 (.cons (.var 0) (.cons (.var 4) (.cons (.sub (.frz (.disp (.cons (.con (.int 1)) (.cons (.con (.int 2)) (.cons (.con (.int 4)) (.cons (.var 3) .nil)))))) (.call 9 (.cons (.var 0) (.cons (.con (.int 4)) .nil)))) (.cons (.var 2) .nil)))))) (.cons (.ret (.tup (.cons (.var 6) (.cons (.call 27 (.cons (.var 6) .nil)) .nil)))) .nil))))))), false⟩ -- _law_thing
def f23 : Fn := ⟨1, 1, .cons (.ret (.ifx (.cmp .eq (.sub (.var 0) (.con (.int 1))) (.con (.int 1))) (.bi .str1 (.cons (.sub (.var 0) (.con (.int 0))) .nil)) (.bin .add (.bin .add (.bi .str1 (.cons (.sub (.var 0) (.con (.int 0))) .nil)) (.con (.str "/"))) (.bi .str1 (.cons (.sub (.var 0) (.con (.int 1))) .nil))))) .nil, false⟩ -- _law_said_number
def f24 : Fn := ⟨1, 2, .cons (.ret (.ifx (.cmp .ne (.var 0) (.tup (.nil))) (.me .join (.con (.str "")) (.cons (.frz (.comp [1] (.tab [.int (-1), .int 0, .int 1, .non] [.str "-", .str "0", .str "+", .str "?"] (.var 1)) (.name 1) (.val (.var 0)) (.nil))) .nil)) (.con (.str ".")))) .nil, false⟩ -- _law_said_wish
def f25 : Fn := ⟨1, 2, .cons (.ret (.bin .add (.bin .add (.me .join (.con (.str " ")) (.cons (.frz (.comp [1] (.bi .str1 (.cons (.var 1) .nil)) (.name 1) (.val (.sub (.var 0) (.con (.int 0)))) (.nil))) .nil)) (.con (.str " : "))) (.bi .str1 (.cons (.sub (.var 0) (.con (.int 1))) .nil)))) .nil, false⟩ -- _law_said_question
def f26 : Fn := ⟨1, 2, .cons (.ret (.me .join (.con (.str "\n")) (.cons (.frz (.cat (.frz (.disp (.cons (.bin .add (.con (.str "book ")) (.bi .str1 (.cons (.sub (.var 0) (.con (.int 0))) .nil))) .nil))) (.frz (.comp [1] (.call 25 (.cons (.var 1) .nil)) (.name 1) (.val (.sub (.var 0) (.con (.int 1)))) (.nil))))) .nil))) .nil, false⟩ -- _law_said_book
def f27 : Fn := ⟨1, 4, .cons (.ifs (.cmp .in_ (.sub (.var 0) (.con (.int 0))) (.tup (.cons (.con (.str "less")) (.cons (.con (.str "is")) (.cons (.con (.str "more")) .nil))))) (.cons (.asg (.name 1) (.me .join (.con (.str " ")) (.cons (.frz (.comp [2] (.bi .str1 (.cons (.var 2) .nil)) (.name 2) (.val (.sub (.var 0) (.con (.int 1)))) (.nil))) .nil))) (.cons (.ret (.bin .add (.bin .add (.bin .add (.bin .add (.bin .add (.bin .add (.con (.str "(")) (.sub (.var 0) (.con (.int 0)))) (.con (.str " ["))) (.var 1)) (.con (.str "] "))) (.bi .str1 (.cons (.sub (.var 0) (.con (.int 2))) .nil))) (.con (.str ")")))) .nil)) (.nil)) (.cons (.ret (.bin .add (.bin .add (.con (.str "(")) (.me .join (.con (.str " ")) (.cons (.frz (.cat (.frz (.disp (.cons (.sub (.var 0) (.con (.int 0))) .nil))) (.frz (.comp [3] (.call 27 (.cons (.var 3) .nil)) (.name 3) (.val (.slc (.var 0) (.yes (.con (.int 1))) (.no))) (.nil))))) .nil))) (.con (.str ")")))) .nil), false⟩ -- _law_said_saying
def f28 : Fn := ⟨3, 3, .cons (.ifs (.cmp .eq (.var 0) (.con (.int 0))) (.cons (.ret (.ifx (.var 2) (.callk 0 (.nil) (.cons (.var 1) .nil) [0]) (.call 0 (.cons (.var 1) .nil)))) .nil) (.nil)) (.cons (.ifs (.cmp .eq (.var 0) (.con (.int 1))) (.cons (.ret (.ifx (.var 2) (.callk 1 (.nil) (.cons (.var 1) .nil) [0]) (.call 1 (.cons (.var 1) .nil)))) .nil) (.nil)) (.cons (.ifs (.cmp .eq (.var 0) (.con (.int 2))) (.cons (.ret (.ifx (.var 2) (.callk 2 (.nil) (.cons (.var 1) .nil) [0]) (.call 2 (.cons (.var 1) .nil)))) .nil) (.nil)) (.cons (.ifs (.cmp .eq (.var 0) (.con (.int 3))) (.cons (.ret (.ifx (.var 2) (.callk 3 (.nil) (.cons (.var 1) .nil) [0]) (.call 3 (.cons (.var 1) .nil)))) .nil) (.nil)) (.cons (.ifs (.cmp .eq (.var 0) (.con (.int 4))) (.cons (.ret (.ifx (.var 2) (.callk 6 (.nil) (.cons (.var 1) .nil) [0]) (.call 6 (.cons (.var 1) .nil)))) .nil) (.nil)) (.cons (.ifs (.cmp .eq (.var 0) (.con (.int 5))) (.cons (.ret (.ifx (.var 2) (.callk 7 (.nil) (.cons (.var 1) .nil) [0]) (.call 7 (.cons (.var 1) .nil)))) .nil) (.nil)) (.cons (.ret (.ifx (.var 2) (.callk 5 (.nil) (.cons (.var 1) .nil) [0]) (.call 5 (.cons (.var 1) .nil)))) .nil)))))), false⟩ -- _law_shown
def f29 : Fn := ⟨1, 8, .cons (.asg (.name 1) (.own (.disp (.nil)))) (.cons (.for_ (.name 2) (.rng (.cons (.bi .max2 (.cons (.con (.int 1)) (.cons (.bi .min2 (.cons (.con (.int 6)) (.cons (.bi .len (.cons (.var 0) .nil)) .nil))) .nil))) .nil)) (.cons (.asg (.name 3) (.call 8 (.cons (.var 0) (.cons (.var 2) .nil)))) (.cons (.asg (.name 4) (.call 18 (.cons (.var 3) (.cons (.bin .add (.con (.int 1)) (.call 9 (.cons (.var 3) (.cons (.con (.int 12)) .nil)))) (.cons (.sub (.frz (.disp (.cons (.con (.int 1)) (.cons (.con (.int 9)) (.cons (.con (.int 300)) .nil))))) (.call 9 (.cons (.var 3) (.cons (.con (.int 3)) .nil)))) .nil))))) (.cons (.expr (.me .append (.var 1) (.cons (.tup (.cons (.con (.int 6)) (.cons (.var 4) (.cons (.call 25 (.cons (.var 4) .nil)) .nil)))) .nil))) (.cons (.for_ (.name 5) (.rng (.cons (.con (.int 6)) .nil)) (.cons (.asg (.tup (.cons (.name 6) (.cons (.name 7) .nil))) (.call 22 (.cons (.var 3) (.cons (.var 5) (.cons (.sub (.frz (.disp (.cons (.con (.int 1)) (.cons (.con (.int 9)) (.cons (.con (.int 40)) (.cons (.ifx (.cmp .lt (.var 5) (.con (.int 2))) (.con (.int 300)) (.con (.int 60))) .nil)))))) (.call 9 (.cons (.var 3) (.cons (.con (.int 4)) .nil)))) (.cons (.con (.int 12)) .nil)))))) (.cons (.ifs (.not_ (.call 10 (.cons (.call 28 (.cons (.var 5) (.cons (.var 6) (.cons (.cmp .eq (.call 9 (.cons (.var 3) (.cons (.con (.int 2)) .nil))) (.con (.int 0))) .nil)))) (.cons (.var 7) .nil)))) (.cons (.ret (.con (.bl false))) .nil) (.nil)) (.cons (.expr (.me .append (.var 1) (.cons (.tup (.cons (.var 5) (.cons (.var 6) (.cons (.var 7) .nil)))) .nil))) .nil)))) .nil))))) (.cons (.for_ (.tup (.cons (.name 5) (.cons (.name 6) (.cons (.name 7) .nil)))) (.val (.frz (.rev (.var 1)))) (.cons (.ifs (.not_ (.call 10 (.cons (.call 28 (.cons (.var 5) (.cons (.var 6) (.cons (.cmp .lt (.bi .len (.cons (.var 7) .nil)) (.con (.int 9))) .nil)))) (.cons (.var 7) .nil)))) (.cons (.ret (.con (.bl false))) .nil) (.nil)) .nil)) (.cons (.ret (.con (.bl true))) .nil))), false⟩ -- law
def tab : List Fn := [f0, f1, f2, f3, f4, f5, f6, f7, f8, f9, f10, f11, f12, f13, f14, f15, f16, f17, f18, f19, f20, f21, f22, f23, f24, f25, f26, f27, f28, f29]
def G : List D := [.str ".", .tup [.str "less", .str "is", .str "more"]]
theorem at0 : tab[0]? = some f0 := rfl
theorem at1 : tab[1]? = some f1 := rfl
theorem at2 : tab[2]? = some f2 := rfl
theorem at3 : tab[3]? = some f3 := rfl
theorem at4 : tab[4]? = some f4 := rfl
theorem at5 : tab[5]? = some f5 := rfl
theorem at6 : tab[6]? = some f6 := rfl
theorem at7 : tab[7]? = some f7 := rfl
theorem at8 : tab[8]? = some f8 := rfl
theorem at9 : tab[9]? = some f9 := rfl
theorem at10 : tab[10]? = some f10 := rfl
theorem at11 : tab[11]? = some f11 := rfl
theorem at12 : tab[12]? = some f12 := rfl
theorem at13 : tab[13]? = some f13 := rfl
theorem at14 : tab[14]? = some f14 := rfl
theorem at15 : tab[15]? = some f15 := rfl
theorem at16 : tab[16]? = some f16 := rfl
theorem at17 : tab[17]? = some f17 := rfl
theorem at18 : tab[18]? = some f18 := rfl
theorem at19 : tab[19]? = some f19 := rfl
theorem at20 : tab[20]? = some f20 := rfl
theorem at21 : tab[21]? = some f21 := rfl
theorem at22 : tab[22]? = some f22 := rfl
theorem at23 : tab[23]? = some f23 := rfl
theorem at24 : tab[24]? = some f24 := rfl
theorem at25 : tab[25]? = some f25 := rfl
theorem at26 : tab[26]? = some f26 := rfl
theorem at27 : tab[27]? = some f27 := rfl
theorem at28 : tab[28]? = some f28 := rfl
theorem at29 : tab[29]? = some f29 := rfl
end K47

namespace K47
open PySem Ev
def topS (i : Nat) : Stmt := PySem.Challenge.pw_sidebooks_k47_whole_texts_shown.main.body.getD i (.Pass ⟨0, 0, 0, 0⟩)
def d0 : FnS := ⟨"show_number", ["a"], ["a", "top", "bottom"], topS 4⟩
def d1 : FnS := ⟨"show_point", ["point"], ["point", "a"], topS 5⟩
def d2 : FnS := ⟨"show_row", ["row"], ["row"], topS 6⟩
def d3 : FnS := ⟨"show_wish", ["wish"], ["wish", "own"], topS 7⟩
def d4 : FnS := ⟨"show_sides", ["sides"], ["sides", "side"], topS 8⟩
def d5 : FnS := ⟨"show_question", ["question"], ["question", "sides", "wall"], topS 9⟩
def d6 : FnS := ⟨"show_book", ["book"], ["book", "d", "questions", "question"], topS 10⟩
def d7 : FnS := ⟨"show_saying", ["saying"], ["saying", "part"], topS 11⟩
def d8 : FnS := ⟨"_law_well", ["_law_script", "_law_place"], ["_law_script", "_law_place", "_law_cell"], topS 13⟩
def d9 : FnS := ⟨"_law_draw", ["_law_well_here", "_law_many"], ["_law_well_here", "_law_many", "_law_found", "_law_mixed"], topS 14⟩
def d10 : FnS := ⟨"_law_same", ["_law_told", "_law_due"], ["_law_told", "_law_due", "_law_k"], topS 15⟩
def d11 : FnS := ⟨"_law_low", ["_law_top", "_law_bottom"], ["_law_top", "_law_bottom", "_law_one", "_law_two"], topS 16⟩
def d12 : FnS := ⟨"_law_divided", ["_law_sides", "_law_shut"], ["_law_sides", "_law_shut", "_law_one", "_law_side", "_law_two"], topS 17⟩
def d13 : FnS := ⟨"_law_ground", ["_law_sides", "_law_shut"], ["_law_sides", "_law_shut", "_law_first", "_law_side"], topS 18⟩
def d14 : FnS := ⟨"_law_unlike", ["_law_questions"], ["_law_questions", "_law_found", "_law_grounds", "_law_sides", "_law_shut", "_law_side"], topS 19⟩
def d15 : FnS := ⟨"_law_power", ["_law_many"], ["_law_many", "_law_found", "_law_turn"], topS 20⟩
def d16 : FnS := ⟨"_law_integer", ["_law_well_here", "_law_most"], ["_law_well_here", "_law_most", "_law_kind", "_law_side"], topS 21⟩
def d17 : FnS := ⟨"_law_number", ["_law_well_here", "_law_most"], ["_law_well_here", "_law_most", "_law_bottom"], topS 22⟩
def d18 : FnS := ⟨"_law_sided", ["_law_well_here", "_law_d", "_law_most"], ["_law_well_here", "_law_d", "_law_most", "_law_sides", "_law_side"], topS 23⟩
def d19 : FnS := ⟨"_law_book", ["_law_well_here", "_law_d", "_law_many", "_law_most"], ["_law_well_here", "_law_d", "_law_many", "_law_most", "_law_turn"], topS 24⟩
def d20 : FnS := ⟨"_law_deep", ["_law_well_here", "_law_d", "_law_deep_here", "_law_most"], ["_law_well_here", "_law_d", "_law_deep_here", "_law_most", "_law_way", "_law_sides", "_law_shut", "_law_parts", "_law_turned"], topS 25⟩
def d21 : FnS := ⟨"_law_wish", ["_law_well_here", "_law_many", "_law_answers"], ["_law_well_here", "_law_many", "_law_answers", "_law_turn"], topS 26⟩
def d22 : FnS := ⟨"_law_thing", ["_law_well_here", "_law_door", "_law_most", "_law_deep_here"], ["_law_well_here", "_law_door", "_law_most", "_law_deep_here", "_law_d", "_law_many", "_law_thing_here", "_law_place", "_law_a"], topS 27⟩
def d23 : FnS := ⟨"_law_said_number", ["_law_a"], ["_law_a"], topS 28⟩
def d24 : FnS := ⟨"_law_said_wish", ["_law_wish_here"], ["_law_wish_here", "_law_own"], topS 29⟩
def d25 : FnS := ⟨"_law_said_question", ["_law_question"], ["_law_question", "_law_side"], topS 30⟩
def d26 : FnS := ⟨"_law_said_book", ["_law_book_here"], ["_law_book_here", "_law_question"], topS 31⟩
def d27 : FnS := ⟨"_law_said_saying", ["_law_saying"], ["_law_saying", "_law_sides", "_law_side", "_law_part"], topS 32⟩
def d28 : FnS := ⟨"_law_shown", ["_law_door", "_law_thing_here", "_law_named"], ["_law_door", "_law_thing_here", "_law_named"], topS 33⟩
def d29 : FnS := ⟨"law", ["_law_script"], ["_law_script", "_law_rows", "_law_place", "_law_well_here", "_law_question", "_law_door", "_law_thing_here", "_law_said"], topS 34⟩
def ds : List FnS := [d0, d1, d2, d3, d4, d5, d6, d7, d8, d9, d10, d11, d12, d13, d14, d15, d16, d17, d18, d19, d20, d21, d22, d23, d24, d25, d26, d27, d28, d29]
def gs : Gs := ⟨[("show_number", ["a"]), ("show_point", ["point"]), ("show_row", ["row"]), ("show_wish", ["wish"]), ("show_sides", ["sides"]), ("show_question", ["question"]), ("show_book", ["book"]), ("show_saying", ["saying"]), ("_law_well", ["_law_script", "_law_place"]), ("_law_draw", ["_law_well_here", "_law_many"]), ("_law_same", ["_law_told", "_law_due"]), ("_law_low", ["_law_top", "_law_bottom"]), ("_law_divided", ["_law_sides", "_law_shut"]), ("_law_ground", ["_law_sides", "_law_shut"]), ("_law_unlike", ["_law_questions"]), ("_law_power", ["_law_many"]), ("_law_integer", ["_law_well_here", "_law_most"]), ("_law_number", ["_law_well_here", "_law_most"]), ("_law_sided", ["_law_well_here", "_law_d", "_law_most"]), ("_law_book", ["_law_well_here", "_law_d", "_law_many", "_law_most"]), ("_law_deep", ["_law_well_here", "_law_d", "_law_deep_here", "_law_most"]), ("_law_wish", ["_law_well_here", "_law_many", "_law_answers"]), ("_law_thing", ["_law_well_here", "_law_door", "_law_most", "_law_deep_here"]), ("_law_said_number", ["_law_a"]), ("_law_said_wish", ["_law_wish_here"]), ("_law_said_question", ["_law_question"]), ("_law_said_book", ["_law_book_here"]), ("_law_said_saying", ["_law_saying"]), ("_law_shown", ["_law_door", "_law_thing_here", "_law_named"]), ("law", ["_law_script"])], ["NONE", "SIDED"], [.str1, .len, .int1, .max2, .abs, .all1, .tuple1, .min2], ["isinstance", "bool", "int", "str", "tuple", "list", "range"], [(0, 0, ["a"], [0]), (1, 0, ["point"], [0]), (2, 0, ["row"], [0]), (3, 0, ["wish"], [0]), (6, 0, ["book"], [0]), (7, 0, ["saying"], [0]), (5, 0, ["question"], [0])], [("SIGNS", [.int (-1), .int 0, .int 1, .non], [.str "-", .str "0", .str "+", .str "?"])]⟩
theorem chk0 : fnChk gs d0 f0 = true := by decide +kernel
theorem chk1 : fnChk gs d1 f1 = true := by decide +kernel
theorem chk2 : fnChk gs d2 f2 = true := by decide +kernel
theorem chk3 : fnChk gs d3 f3 = true := by decide +kernel
theorem chk4 : fnChk gs d4 f4 = true := by decide +kernel
theorem chk5 : fnChk gs d5 f5 = true := by decide +kernel
theorem chk6 : fnChk gs d6 f6 = true := by decide +kernel
theorem chk7 : fnChk gs d7 f7 = true := by decide +kernel
theorem chk8 : fnChk gs d8 f8 = true := by decide +kernel
theorem chk9 : fnChk gs d9 f9 = true := by decide +kernel
theorem chk10 : fnChk gs d10 f10 = true := by decide +kernel
theorem chk11 : fnChk gs d11 f11 = true := by decide +kernel
theorem chk12 : fnChk gs d12 f12 = true := by decide +kernel
theorem chk13 : fnChk gs d13 f13 = true := by decide +kernel
theorem chk14 : fnChk gs d14 f14 = true := by decide +kernel
theorem chk15 : fnChk gs d15 f15 = true := by decide +kernel
theorem chk16 : fnChk gs d16 f16 = true := by decide +kernel
theorem chk17 : fnChk gs d17 f17 = true := by decide +kernel
theorem chk18 : fnChk gs d18 f18 = true := by decide +kernel
theorem chk19 : fnChk gs d19 f19 = true := by decide +kernel
theorem chk20 : fnChk gs d20 f20 = true := by decide +kernel
theorem chk21 : fnChk gs d21 f21 = true := by decide +kernel
theorem chk22 : fnChk gs d22 f22 = true := by decide +kernel
theorem chk23 : fnChk gs d23 f23 = true := by decide +kernel
theorem chk24 : fnChk gs d24 f24 = true := by decide +kernel
theorem chk25 : fnChk gs d25 f25 = true := by decide +kernel
theorem chk26 : fnChk gs d26 f26 = true := by decide +kernel
theorem chk27 : fnChk gs d27 f27 = true := by decide +kernel
theorem chk28 : fnChk gs d28 f28 = true := by decide +kernel
theorem chk29 : fnChk gs d29 f29 = true := by decide +kernel
end K47

namespace K47
open PySem PySem.Spec PyProof.Rows L2 Ev
theorem kw0 {K : PySem.W.Frag} {kV doc pm : Value} {an : Option Addr} {cdv ct : Value} : KwOk K (PySem.W.fnOf "show_number" "show_number" (defArgs (topS 4)) (defBody (topS 4)) (defScope (topS 4)) .none kV doc pm an cdv ct) ["a"] 0 ["a"] [0] := ⟨rfl, fun s us ws zs _ h1 h2 h3 => match us, ws, h1, h2, h3 with | [], [w0], _, _, h3 => by cases h3; exact .of_eq rfl⟩
theorem kw1 {K : PySem.W.Frag} {kV doc pm : Value} {an : Option Addr} {cdv ct : Value} : KwOk K (PySem.W.fnOf "show_point" "show_point" (defArgs (topS 5)) (defBody (topS 5)) (defScope (topS 5)) .none kV doc pm an cdv ct) ["point"] 0 ["point"] [0] := ⟨rfl, fun s us ws zs _ h1 h2 h3 => match us, ws, h1, h2, h3 with | [], [w0], _, _, h3 => by cases h3; exact .of_eq rfl⟩
theorem kw2 {K : PySem.W.Frag} {kV doc pm : Value} {an : Option Addr} {cdv ct : Value} : KwOk K (PySem.W.fnOf "show_row" "show_row" (defArgs (topS 6)) (defBody (topS 6)) (defScope (topS 6)) .none kV doc pm an cdv ct) ["row"] 0 ["row"] [0] := ⟨rfl, fun s us ws zs _ h1 h2 h3 => match us, ws, h1, h2, h3 with | [], [w0], _, _, h3 => by cases h3; exact .of_eq rfl⟩
theorem kw3 {K : PySem.W.Frag} {kV doc pm : Value} {an : Option Addr} {cdv ct : Value} : KwOk K (PySem.W.fnOf "show_wish" "show_wish" (defArgs (topS 7)) (defBody (topS 7)) (defScope (topS 7)) .none kV doc pm an cdv ct) ["wish"] 0 ["wish"] [0] := ⟨rfl, fun s us ws zs _ h1 h2 h3 => match us, ws, h1, h2, h3 with | [], [w0], _, _, h3 => by cases h3; exact .of_eq rfl⟩
theorem kw4 {K : PySem.W.Frag} {kV doc pm : Value} {an : Option Addr} {cdv ct : Value} : KwOk K (PySem.W.fnOf "show_book" "show_book" (defArgs (topS 10)) (defBody (topS 10)) (defScope (topS 10)) .none kV doc pm an cdv ct) ["book"] 0 ["book"] [0] := ⟨rfl, fun s us ws zs _ h1 h2 h3 => match us, ws, h1, h2, h3 with | [], [w0], _, _, h3 => by cases h3; exact .of_eq rfl⟩
theorem kw5 {K : PySem.W.Frag} {kV doc pm : Value} {an : Option Addr} {cdv ct : Value} : KwOk K (PySem.W.fnOf "show_saying" "show_saying" (defArgs (topS 11)) (defBody (topS 11)) (defScope (topS 11)) .none kV doc pm an cdv ct) ["saying"] 0 ["saying"] [0] := ⟨rfl, fun s us ws zs _ h1 h2 h3 => match us, ws, h1, h2, h3 with | [], [w0], _, _, h3 => by cases h3; exact .of_eq rfl⟩
theorem kw6 {K : PySem.W.Frag} {kV doc pm : Value} {an : Option Addr} {cdv ct : Value} : KwOk K (PySem.W.fnOf "show_question" "show_question" (defArgs (topS 9)) (defBody (topS 9)) (defScope (topS 9)) .none kV doc pm an cdv ct) ["question"] 0 ["question"] [0] := ⟨rfl, fun s us ws zs _ h1 h2 h3 => match us, ws, h1, h2, h3 with | [], [w0], _, _, h3 => by cases h3; exact .of_eq rfl⟩
theorem all_mk {l : PySem.W.OpenLaw} {w : World} {K : PySem.W.Frag} {h : Heap} {mg : Str → Option Value} {fa : Addr} (X : K.In h) (G0 : h.Ns mainGlobals mg) (hfa : mg "law" = some (.ref fa))
    {od0 an0 : Option Addr} {sl0 : Array (Option Value)} {oc0 kV0 dc0 pm0 cd0 ct0 : Value} {f0a : Addr}
    {od1 an1 : Option Addr} {sl1 : Array (Option Value)} {oc1 kV1 dc1 pm1 cd1 ct1 : Value} {f1a : Addr}
    {od2 an2 : Option Addr} {sl2 : Array (Option Value)} {oc2 kV2 dc2 pm2 cd2 ct2 : Value} {f2a : Addr}
    {od3 an3 : Option Addr} {sl3 : Array (Option Value)} {oc3 kV3 dc3 pm3 cd3 ct3 : Value} {f3a : Addr}
    {od4 an4 : Option Addr} {sl4 : Array (Option Value)} {oc4 kV4 dc4 pm4 cd4 ct4 : Value} {f4a : Addr}
    {od5 an5 : Option Addr} {sl5 : Array (Option Value)} {oc5 kV5 dc5 pm5 cd5 ct5 : Value} {f5a : Addr}
    {od6 an6 : Option Addr} {sl6 : Array (Option Value)} {oc6 kV6 dc6 pm6 cd6 ct6 : Value} {f6a : Addr}
    {od7 an7 : Option Addr} {sl7 : Array (Option Value)} {oc7 kV7 dc7 pm7 cd7 ct7 : Value} {f7a : Addr}
    {od8 an8 : Option Addr} {sl8 : Array (Option Value)} {oc8 kV8 dc8 pm8 cd8 ct8 : Value} {f8a : Addr}
    {od9 an9 : Option Addr} {sl9 : Array (Option Value)} {oc9 kV9 dc9 pm9 cd9 ct9 : Value} {f9a : Addr}
    {od10 an10 : Option Addr} {sl10 : Array (Option Value)} {oc10 kV10 dc10 pm10 cd10 ct10 : Value} {f10a : Addr}
    {od11 an11 : Option Addr} {sl11 : Array (Option Value)} {oc11 kV11 dc11 pm11 cd11 ct11 : Value} {f11a : Addr}
    {od12 an12 : Option Addr} {sl12 : Array (Option Value)} {oc12 kV12 dc12 pm12 cd12 ct12 : Value} {f12a : Addr}
    {od13 an13 : Option Addr} {sl13 : Array (Option Value)} {oc13 kV13 dc13 pm13 cd13 ct13 : Value} {f13a : Addr}
    {od14 an14 : Option Addr} {sl14 : Array (Option Value)} {oc14 kV14 dc14 pm14 cd14 ct14 : Value} {f14a : Addr}
    {od15 an15 : Option Addr} {sl15 : Array (Option Value)} {oc15 kV15 dc15 pm15 cd15 ct15 : Value} {f15a : Addr}
    {od16 an16 : Option Addr} {sl16 : Array (Option Value)} {oc16 kV16 dc16 pm16 cd16 ct16 : Value} {f16a : Addr}
    {od17 an17 : Option Addr} {sl17 : Array (Option Value)} {oc17 kV17 dc17 pm17 cd17 ct17 : Value} {f17a : Addr}
    {od18 an18 : Option Addr} {sl18 : Array (Option Value)} {oc18 kV18 dc18 pm18 cd18 ct18 : Value} {f18a : Addr}
    {od19 an19 : Option Addr} {sl19 : Array (Option Value)} {oc19 kV19 dc19 pm19 cd19 ct19 : Value} {f19a : Addr}
    {od20 an20 : Option Addr} {sl20 : Array (Option Value)} {oc20 kV20 dc20 pm20 cd20 ct20 : Value} {f20a : Addr}
    {od21 an21 : Option Addr} {sl21 : Array (Option Value)} {oc21 kV21 dc21 pm21 cd21 ct21 : Value} {f21a : Addr}
    {od22 an22 : Option Addr} {sl22 : Array (Option Value)} {oc22 kV22 dc22 pm22 cd22 ct22 : Value} {f22a : Addr}
    {od23 an23 : Option Addr} {sl23 : Array (Option Value)} {oc23 kV23 dc23 pm23 cd23 ct23 : Value} {f23a : Addr}
    {od24 an24 : Option Addr} {sl24 : Array (Option Value)} {oc24 kV24 dc24 pm24 cd24 ct24 : Value} {f24a : Addr}
    {od25 an25 : Option Addr} {sl25 : Array (Option Value)} {oc25 kV25 dc25 pm25 cd25 ct25 : Value} {f25a : Addr}
    {od26 an26 : Option Addr} {sl26 : Array (Option Value)} {oc26 kV26 dc26 pm26 cd26 ct26 : Value} {f26a : Addr}
    {od27 an27 : Option Addr} {sl27 : Array (Option Value)} {oc27 kV27 dc27 pm27 cd27 ct27 : Value} {f27a : Addr}
    {od28 an28 : Option Addr} {sl28 : Array (Option Value)} {oc28 kV28 dc28 pm28 cd28 ct28 : Value} {f28a : Addr}
    {od29 an29 : Option Addr} {sl29 : Array (Option Value)} {oc29 kV29 dc29 pm29 cd29 ct29 : Value} {f29a : Addr}
    {cu0 : Value}
    {cp1 : Addr} {ci1 : Array Value} {cn1 : Nat}
    {tp0 : Addr} {te0 : Array DictEntry} {tn0 : Nat}
    (a0 : PySem.W.nsIn K mainGlobals "show_number" = some (some (.ref f0a))) (l0 : K.lookup f0a = some ⟨oc0, od0, .func (PySem.W.fnOf "show_number" "show_number" (defArgs (topS 4)) (defBody (topS 4)) (defScope (topS 4)) .none kV0 dc0 pm0 an0 cd0 ct0), sl0⟩) (c0 : PySem.W.codeIn K cd0 "show_number" = true) (k0 : PySem.W.keepIn K (.ref f0a) = true)
    (a1 : PySem.W.nsIn K mainGlobals "show_point" = some (some (.ref f1a))) (l1 : K.lookup f1a = some ⟨oc1, od1, .func (PySem.W.fnOf "show_point" "show_point" (defArgs (topS 5)) (defBody (topS 5)) (defScope (topS 5)) .none kV1 dc1 pm1 an1 cd1 ct1), sl1⟩) (c1 : PySem.W.codeIn K cd1 "show_point" = true) (k1 : PySem.W.keepIn K (.ref f1a) = true)
    (a2 : PySem.W.nsIn K mainGlobals "show_row" = some (some (.ref f2a))) (l2 : K.lookup f2a = some ⟨oc2, od2, .func (PySem.W.fnOf "show_row" "show_row" (defArgs (topS 6)) (defBody (topS 6)) (defScope (topS 6)) .none kV2 dc2 pm2 an2 cd2 ct2), sl2⟩) (c2 : PySem.W.codeIn K cd2 "show_row" = true) (k2 : PySem.W.keepIn K (.ref f2a) = true)
    (a3 : PySem.W.nsIn K mainGlobals "show_wish" = some (some (.ref f3a))) (l3 : K.lookup f3a = some ⟨oc3, od3, .func (PySem.W.fnOf "show_wish" "show_wish" (defArgs (topS 7)) (defBody (topS 7)) (defScope (topS 7)) .none kV3 dc3 pm3 an3 cd3 ct3), sl3⟩) (c3 : PySem.W.codeIn K cd3 "show_wish" = true) (k3 : PySem.W.keepIn K (.ref f3a) = true)
    (a4 : PySem.W.nsIn K mainGlobals "show_sides" = some (some (.ref f4a))) (l4 : K.lookup f4a = some ⟨oc4, od4, .func (PySem.W.fnOf "show_sides" "show_sides" (defArgs (topS 8)) (defBody (topS 8)) (defScope (topS 8)) .none kV4 dc4 pm4 an4 cd4 ct4), sl4⟩) (c4 : PySem.W.codeIn K cd4 "show_sides" = true) (k4 : PySem.W.keepIn K (.ref f4a) = true)
    (a5 : PySem.W.nsIn K mainGlobals "show_question" = some (some (.ref f5a))) (l5 : K.lookup f5a = some ⟨oc5, od5, .func (PySem.W.fnOf "show_question" "show_question" (defArgs (topS 9)) (defBody (topS 9)) (defScope (topS 9)) .none kV5 dc5 pm5 an5 cd5 ct5), sl5⟩) (c5 : PySem.W.codeIn K cd5 "show_question" = true) (k5 : PySem.W.keepIn K (.ref f5a) = true)
    (a6 : PySem.W.nsIn K mainGlobals "show_book" = some (some (.ref f6a))) (l6 : K.lookup f6a = some ⟨oc6, od6, .func (PySem.W.fnOf "show_book" "show_book" (defArgs (topS 10)) (defBody (topS 10)) (defScope (topS 10)) .none kV6 dc6 pm6 an6 cd6 ct6), sl6⟩) (c6 : PySem.W.codeIn K cd6 "show_book" = true) (k6 : PySem.W.keepIn K (.ref f6a) = true)
    (a7 : PySem.W.nsIn K mainGlobals "show_saying" = some (some (.ref f7a))) (l7 : K.lookup f7a = some ⟨oc7, od7, .func (PySem.W.fnOf "show_saying" "show_saying" (defArgs (topS 11)) (defBody (topS 11)) (defScope (topS 11)) .none kV7 dc7 pm7 an7 cd7 ct7), sl7⟩) (c7 : PySem.W.codeIn K cd7 "show_saying" = true) (k7 : PySem.W.keepIn K (.ref f7a) = true)
    (a8 : PySem.W.nsIn K mainGlobals "_law_well" = some (some (.ref f8a))) (l8 : K.lookup f8a = some ⟨oc8, od8, .func (PySem.W.fnOf "_law_well" "_law_well" (defArgs (topS 13)) (defBody (topS 13)) (defScope (topS 13)) .none kV8 dc8 pm8 an8 cd8 ct8), sl8⟩) (c8 : PySem.W.codeIn K cd8 "_law_well" = true) (k8 : PySem.W.keepIn K (.ref f8a) = true)
    (a9 : PySem.W.nsIn K mainGlobals "_law_draw" = some (some (.ref f9a))) (l9 : K.lookup f9a = some ⟨oc9, od9, .func (PySem.W.fnOf "_law_draw" "_law_draw" (defArgs (topS 14)) (defBody (topS 14)) (defScope (topS 14)) .none kV9 dc9 pm9 an9 cd9 ct9), sl9⟩) (c9 : PySem.W.codeIn K cd9 "_law_draw" = true) (k9 : PySem.W.keepIn K (.ref f9a) = true)
    (a10 : PySem.W.nsIn K mainGlobals "_law_same" = some (some (.ref f10a))) (l10 : K.lookup f10a = some ⟨oc10, od10, .func (PySem.W.fnOf "_law_same" "_law_same" (defArgs (topS 15)) (defBody (topS 15)) (defScope (topS 15)) .none kV10 dc10 pm10 an10 cd10 ct10), sl10⟩) (c10 : PySem.W.codeIn K cd10 "_law_same" = true) (k10 : PySem.W.keepIn K (.ref f10a) = true)
    (a11 : PySem.W.nsIn K mainGlobals "_law_low" = some (some (.ref f11a))) (l11 : K.lookup f11a = some ⟨oc11, od11, .func (PySem.W.fnOf "_law_low" "_law_low" (defArgs (topS 16)) (defBody (topS 16)) (defScope (topS 16)) .none kV11 dc11 pm11 an11 cd11 ct11), sl11⟩) (c11 : PySem.W.codeIn K cd11 "_law_low" = true) (k11 : PySem.W.keepIn K (.ref f11a) = true)
    (a12 : PySem.W.nsIn K mainGlobals "_law_divided" = some (some (.ref f12a))) (l12 : K.lookup f12a = some ⟨oc12, od12, .func (PySem.W.fnOf "_law_divided" "_law_divided" (defArgs (topS 17)) (defBody (topS 17)) (defScope (topS 17)) .none kV12 dc12 pm12 an12 cd12 ct12), sl12⟩) (c12 : PySem.W.codeIn K cd12 "_law_divided" = true) (k12 : PySem.W.keepIn K (.ref f12a) = true)
    (a13 : PySem.W.nsIn K mainGlobals "_law_ground" = some (some (.ref f13a))) (l13 : K.lookup f13a = some ⟨oc13, od13, .func (PySem.W.fnOf "_law_ground" "_law_ground" (defArgs (topS 18)) (defBody (topS 18)) (defScope (topS 18)) .none kV13 dc13 pm13 an13 cd13 ct13), sl13⟩) (c13 : PySem.W.codeIn K cd13 "_law_ground" = true) (k13 : PySem.W.keepIn K (.ref f13a) = true)
    (a14 : PySem.W.nsIn K mainGlobals "_law_unlike" = some (some (.ref f14a))) (l14 : K.lookup f14a = some ⟨oc14, od14, .func (PySem.W.fnOf "_law_unlike" "_law_unlike" (defArgs (topS 19)) (defBody (topS 19)) (defScope (topS 19)) .none kV14 dc14 pm14 an14 cd14 ct14), sl14⟩) (c14 : PySem.W.codeIn K cd14 "_law_unlike" = true) (k14 : PySem.W.keepIn K (.ref f14a) = true)
    (a15 : PySem.W.nsIn K mainGlobals "_law_power" = some (some (.ref f15a))) (l15 : K.lookup f15a = some ⟨oc15, od15, .func (PySem.W.fnOf "_law_power" "_law_power" (defArgs (topS 20)) (defBody (topS 20)) (defScope (topS 20)) .none kV15 dc15 pm15 an15 cd15 ct15), sl15⟩) (c15 : PySem.W.codeIn K cd15 "_law_power" = true) (k15 : PySem.W.keepIn K (.ref f15a) = true)
    (a16 : PySem.W.nsIn K mainGlobals "_law_integer" = some (some (.ref f16a))) (l16 : K.lookup f16a = some ⟨oc16, od16, .func (PySem.W.fnOf "_law_integer" "_law_integer" (defArgs (topS 21)) (defBody (topS 21)) (defScope (topS 21)) .none kV16 dc16 pm16 an16 cd16 ct16), sl16⟩) (c16 : PySem.W.codeIn K cd16 "_law_integer" = true) (k16 : PySem.W.keepIn K (.ref f16a) = true)
    (a17 : PySem.W.nsIn K mainGlobals "_law_number" = some (some (.ref f17a))) (l17 : K.lookup f17a = some ⟨oc17, od17, .func (PySem.W.fnOf "_law_number" "_law_number" (defArgs (topS 22)) (defBody (topS 22)) (defScope (topS 22)) .none kV17 dc17 pm17 an17 cd17 ct17), sl17⟩) (c17 : PySem.W.codeIn K cd17 "_law_number" = true) (k17 : PySem.W.keepIn K (.ref f17a) = true)
    (a18 : PySem.W.nsIn K mainGlobals "_law_sided" = some (some (.ref f18a))) (l18 : K.lookup f18a = some ⟨oc18, od18, .func (PySem.W.fnOf "_law_sided" "_law_sided" (defArgs (topS 23)) (defBody (topS 23)) (defScope (topS 23)) .none kV18 dc18 pm18 an18 cd18 ct18), sl18⟩) (c18 : PySem.W.codeIn K cd18 "_law_sided" = true) (k18 : PySem.W.keepIn K (.ref f18a) = true)
    (a19 : PySem.W.nsIn K mainGlobals "_law_book" = some (some (.ref f19a))) (l19 : K.lookup f19a = some ⟨oc19, od19, .func (PySem.W.fnOf "_law_book" "_law_book" (defArgs (topS 24)) (defBody (topS 24)) (defScope (topS 24)) .none kV19 dc19 pm19 an19 cd19 ct19), sl19⟩) (c19 : PySem.W.codeIn K cd19 "_law_book" = true) (k19 : PySem.W.keepIn K (.ref f19a) = true)
    (a20 : PySem.W.nsIn K mainGlobals "_law_deep" = some (some (.ref f20a))) (l20 : K.lookup f20a = some ⟨oc20, od20, .func (PySem.W.fnOf "_law_deep" "_law_deep" (defArgs (topS 25)) (defBody (topS 25)) (defScope (topS 25)) .none kV20 dc20 pm20 an20 cd20 ct20), sl20⟩) (c20 : PySem.W.codeIn K cd20 "_law_deep" = true) (k20 : PySem.W.keepIn K (.ref f20a) = true)
    (a21 : PySem.W.nsIn K mainGlobals "_law_wish" = some (some (.ref f21a))) (l21 : K.lookup f21a = some ⟨oc21, od21, .func (PySem.W.fnOf "_law_wish" "_law_wish" (defArgs (topS 26)) (defBody (topS 26)) (defScope (topS 26)) .none kV21 dc21 pm21 an21 cd21 ct21), sl21⟩) (c21 : PySem.W.codeIn K cd21 "_law_wish" = true) (k21 : PySem.W.keepIn K (.ref f21a) = true)
    (a22 : PySem.W.nsIn K mainGlobals "_law_thing" = some (some (.ref f22a))) (l22 : K.lookup f22a = some ⟨oc22, od22, .func (PySem.W.fnOf "_law_thing" "_law_thing" (defArgs (topS 27)) (defBody (topS 27)) (defScope (topS 27)) .none kV22 dc22 pm22 an22 cd22 ct22), sl22⟩) (c22 : PySem.W.codeIn K cd22 "_law_thing" = true) (k22 : PySem.W.keepIn K (.ref f22a) = true)
    (a23 : PySem.W.nsIn K mainGlobals "_law_said_number" = some (some (.ref f23a))) (l23 : K.lookup f23a = some ⟨oc23, od23, .func (PySem.W.fnOf "_law_said_number" "_law_said_number" (defArgs (topS 28)) (defBody (topS 28)) (defScope (topS 28)) .none kV23 dc23 pm23 an23 cd23 ct23), sl23⟩) (c23 : PySem.W.codeIn K cd23 "_law_said_number" = true) (k23 : PySem.W.keepIn K (.ref f23a) = true)
    (a24 : PySem.W.nsIn K mainGlobals "_law_said_wish" = some (some (.ref f24a))) (l24 : K.lookup f24a = some ⟨oc24, od24, .func (PySem.W.fnOf "_law_said_wish" "_law_said_wish" (defArgs (topS 29)) (defBody (topS 29)) (defScope (topS 29)) .none kV24 dc24 pm24 an24 cd24 ct24), sl24⟩) (c24 : PySem.W.codeIn K cd24 "_law_said_wish" = true) (k24 : PySem.W.keepIn K (.ref f24a) = true)
    (a25 : PySem.W.nsIn K mainGlobals "_law_said_question" = some (some (.ref f25a))) (l25 : K.lookup f25a = some ⟨oc25, od25, .func (PySem.W.fnOf "_law_said_question" "_law_said_question" (defArgs (topS 30)) (defBody (topS 30)) (defScope (topS 30)) .none kV25 dc25 pm25 an25 cd25 ct25), sl25⟩) (c25 : PySem.W.codeIn K cd25 "_law_said_question" = true) (k25 : PySem.W.keepIn K (.ref f25a) = true)
    (a26 : PySem.W.nsIn K mainGlobals "_law_said_book" = some (some (.ref f26a))) (l26 : K.lookup f26a = some ⟨oc26, od26, .func (PySem.W.fnOf "_law_said_book" "_law_said_book" (defArgs (topS 31)) (defBody (topS 31)) (defScope (topS 31)) .none kV26 dc26 pm26 an26 cd26 ct26), sl26⟩) (c26 : PySem.W.codeIn K cd26 "_law_said_book" = true) (k26 : PySem.W.keepIn K (.ref f26a) = true)
    (a27 : PySem.W.nsIn K mainGlobals "_law_said_saying" = some (some (.ref f27a))) (l27 : K.lookup f27a = some ⟨oc27, od27, .func (PySem.W.fnOf "_law_said_saying" "_law_said_saying" (defArgs (topS 32)) (defBody (topS 32)) (defScope (topS 32)) .none kV27 dc27 pm27 an27 cd27 ct27), sl27⟩) (c27 : PySem.W.codeIn K cd27 "_law_said_saying" = true) (k27 : PySem.W.keepIn K (.ref f27a) = true)
    (a28 : PySem.W.nsIn K mainGlobals "_law_shown" = some (some (.ref f28a))) (l28 : K.lookup f28a = some ⟨oc28, od28, .func (PySem.W.fnOf "_law_shown" "_law_shown" (defArgs (topS 33)) (defBody (topS 33)) (defScope (topS 33)) .none kV28 dc28 pm28 an28 cd28 ct28), sl28⟩) (c28 : PySem.W.codeIn K cd28 "_law_shown" = true) (k28 : PySem.W.keepIn K (.ref f28a) = true)
    (a29 : PySem.W.nsIn K mainGlobals "law" = some (some (.ref f29a))) (l29 : K.lookup f29a = some ⟨oc29, od29, .func (PySem.W.fnOf "law" "law" (defArgs (topS 34)) (defBody (topS 34)) (defScope (topS 34)) .none kV29 dc29 pm29 an29 cd29 ct29), sl29⟩) (c29 : PySem.W.codeIn K cd29 "law" = true) (k29 : PySem.W.keepIn K (.ref f29a) = true)
    (z_str : PySem.W.nsIn K mainGlobals "str" = some none)
    (z_len : PySem.W.nsIn K mainGlobals "len" = some none)
    (z_int : PySem.W.nsIn K mainGlobals "int" = some none)
    (z_max : PySem.W.nsIn K mainGlobals "max" = some none)
    (z_abs : PySem.W.nsIn K mainGlobals "abs" = some none)
    (z_all : PySem.W.nsIn K mainGlobals "all" = some none)
    (z_tuple : PySem.W.nsIn K mainGlobals "tuple" = some none)
    (z_min : PySem.W.nsIn K mainGlobals "min" = some none)
    (z_isinstance : PySem.W.nsIn K mainGlobals "isinstance" = some none)
    (z_bool : PySem.W.nsIn K mainGlobals "bool" = some none)
    (z_list : PySem.W.nsIn K mainGlobals "list" = some none)
    (z_range : PySem.W.nsIn K mainGlobals "range" = some none)
    (ca0 : PySem.W.nsIn K mainGlobals "NONE" = some (some cu0)) (cr0 : CRep K cu0 (.str "."))
    (ca1 : PySem.W.nsIn K mainGlobals "SIDED" = some (some (.ref cp1))) (cl1 : K.lookup cp1 = some ⟨.type "tuple", none, .seq ci1 cn1, #[]⟩) (cz1 : ci1.size ≤ sizeLine) (cr1 : CRepL K ci1.toList [.str "less", .str "is", .str "more"])
    (ta0 : PySem.W.nsIn K mainGlobals "SIGNS" = some (some (.ref tp0))) (tl0 : K.lookup tp0 = some ⟨.type "dict", none, .dict te0 tn0, #[]⟩) (tt0 : TabEs K w te0.toList [.int (-1), .int 0, .int 1, .non] [.str "-", .str "0", .str "+", .str "?"])
    : ∃ fd : FuncData, (∀ (s : Shared) (v : Value), BindsTo s fd ⟨[v], []⟩ [("_law_script", v)]) ∧ ∀ base : Heap, K.In base → base.Ns mainGlobals mg → FnOk l.prog w K mg base CX0 30 fa fd ["_law_script"] (spF K (callF tab G (10 ^ 310) 30 29)) := by
  have e := hfa.symm.trans (PySem.W.mg_of X G0 a29)
  cases e
  have F0 : Fun K d0.name d0.name d0.st f0a _ := fun_mk (st := topS 4) l0 c0 k0
  have B0 : Binds K _ d0.ps [] := F0.binds (ps := ["a"]) fun _ _ _ _ _ _ us hl => match us, hl with | [_], _ => rfl
  have Q0 : FsOk K mg gs.kws 0 d0 := ⟨_, _, PySem.W.mg_of X G0 a0, F0, B0, fun na ks perm h => by
    simp [gs] at h
    obtain ⟨e1, e2, e3⟩ := h; rw [e1, e2, e3]; exact kw0⟩
  have F1 : Fun K d1.name d1.name d1.st f1a _ := fun_mk (st := topS 5) l1 c1 k1
  have B1 : Binds K _ d1.ps [] := F1.binds (ps := ["point"]) fun _ _ _ _ _ _ us hl => match us, hl with | [_], _ => rfl
  have Q1 : FsOk K mg gs.kws 1 d1 := ⟨_, _, PySem.W.mg_of X G0 a1, F1, B1, fun na ks perm h => by
    simp [gs] at h
    obtain ⟨e1, e2, e3⟩ := h; rw [e1, e2, e3]; exact kw1⟩
  have F2 : Fun K d2.name d2.name d2.st f2a _ := fun_mk (st := topS 6) l2 c2 k2
  have B2 : Binds K _ d2.ps [] := F2.binds (ps := ["row"]) fun _ _ _ _ _ _ us hl => match us, hl with | [_], _ => rfl
  have Q2 : FsOk K mg gs.kws 2 d2 := ⟨_, _, PySem.W.mg_of X G0 a2, F2, B2, fun na ks perm h => by
    simp [gs] at h
    obtain ⟨e1, e2, e3⟩ := h; rw [e1, e2, e3]; exact kw2⟩
  have F3 : Fun K d3.name d3.name d3.st f3a _ := fun_mk (st := topS 7) l3 c3 k3
  have B3 : Binds K _ d3.ps [] := F3.binds (ps := ["wish"]) fun _ _ _ _ _ _ us hl => match us, hl with | [_], _ => rfl
  have Q3 : FsOk K mg gs.kws 3 d3 := ⟨_, _, PySem.W.mg_of X G0 a3, F3, B3, fun na ks perm h => by
    simp [gs] at h
    obtain ⟨e1, e2, e3⟩ := h; rw [e1, e2, e3]; exact kw3⟩
  have F4 : Fun K d4.name d4.name d4.st f4a _ := fun_mk (st := topS 8) l4 c4 k4
  have B4 : Binds K _ d4.ps [] := F4.binds (ps := ["sides"]) fun _ _ _ _ _ _ us hl => match us, hl with | [_], _ => rfl
  have Q4 : FsOk K mg gs.kws 4 d4 := ⟨_, _, PySem.W.mg_of X G0 a4, F4, B4, fun na ks perm h => by simp [gs] at h⟩
  have F5 : Fun K d5.name d5.name d5.st f5a _ := fun_mk (st := topS 9) l5 c5 k5
  have B5 : Binds K _ d5.ps [] := F5.binds (ps := ["question"]) fun _ _ _ _ _ _ us hl => match us, hl with | [_], _ => rfl
  have Q5 : FsOk K mg gs.kws 5 d5 := ⟨_, _, PySem.W.mg_of X G0 a5, F5, B5, fun na ks perm h => by
    simp [gs] at h
    obtain ⟨e1, e2, e3⟩ := h; rw [e1, e2, e3]; exact kw6⟩
  have F6 : Fun K d6.name d6.name d6.st f6a _ := fun_mk (st := topS 10) l6 c6 k6
  have B6 : Binds K _ d6.ps [] := F6.binds (ps := ["book"]) fun _ _ _ _ _ _ us hl => match us, hl with | [_], _ => rfl
  have Q6 : FsOk K mg gs.kws 6 d6 := ⟨_, _, PySem.W.mg_of X G0 a6, F6, B6, fun na ks perm h => by
    simp [gs] at h
    obtain ⟨e1, e2, e3⟩ := h; rw [e1, e2, e3]; exact kw4⟩
  have F7 : Fun K d7.name d7.name d7.st f7a _ := fun_mk (st := topS 11) l7 c7 k7
  have B7 : Binds K _ d7.ps [] := F7.binds (ps := ["saying"]) fun _ _ _ _ _ _ us hl => match us, hl with | [_], _ => rfl
  have Q7 : FsOk K mg gs.kws 7 d7 := ⟨_, _, PySem.W.mg_of X G0 a7, F7, B7, fun na ks perm h => by
    simp [gs] at h
    obtain ⟨e1, e2, e3⟩ := h; rw [e1, e2, e3]; exact kw5⟩
  have F8 : Fun K d8.name d8.name d8.st f8a _ := fun_mk (st := topS 13) l8 c8 k8
  have B8 : Binds K _ d8.ps [] := F8.binds (ps := ["_law_script", "_law_place"]) fun _ _ _ _ _ _ us hl => match us, hl with | [_, _], _ => rfl
  have Q8 : FsOk K mg gs.kws 8 d8 := ⟨_, _, PySem.W.mg_of X G0 a8, F8, B8, fun na ks perm h => by simp [gs] at h⟩
  have F9 : Fun K d9.name d9.name d9.st f9a _ := fun_mk (st := topS 14) l9 c9 k9
  have B9 : Binds K _ d9.ps [] := F9.binds (ps := ["_law_well_here", "_law_many"]) fun _ _ _ _ _ _ us hl => match us, hl with | [_, _], _ => rfl
  have Q9 : FsOk K mg gs.kws 9 d9 := ⟨_, _, PySem.W.mg_of X G0 a9, F9, B9, fun na ks perm h => by simp [gs] at h⟩
  have F10 : Fun K d10.name d10.name d10.st f10a _ := fun_mk (st := topS 15) l10 c10 k10
  have B10 : Binds K _ d10.ps [] := F10.binds (ps := ["_law_told", "_law_due"]) fun _ _ _ _ _ _ us hl => match us, hl with | [_, _], _ => rfl
  have Q10 : FsOk K mg gs.kws 10 d10 := ⟨_, _, PySem.W.mg_of X G0 a10, F10, B10, fun na ks perm h => by simp [gs] at h⟩
  have F11 : Fun K d11.name d11.name d11.st f11a _ := fun_mk (st := topS 16) l11 c11 k11
  have B11 : Binds K _ d11.ps [] := F11.binds (ps := ["_law_top", "_law_bottom"]) fun _ _ _ _ _ _ us hl => match us, hl with | [_, _], _ => rfl
  have Q11 : FsOk K mg gs.kws 11 d11 := ⟨_, _, PySem.W.mg_of X G0 a11, F11, B11, fun na ks perm h => by simp [gs] at h⟩
  have F12 : Fun K d12.name d12.name d12.st f12a _ := fun_mk (st := topS 17) l12 c12 k12
  have B12 : Binds K _ d12.ps [] := F12.binds (ps := ["_law_sides", "_law_shut"]) fun _ _ _ _ _ _ us hl => match us, hl with | [_, _], _ => rfl
  have Q12 : FsOk K mg gs.kws 12 d12 := ⟨_, _, PySem.W.mg_of X G0 a12, F12, B12, fun na ks perm h => by simp [gs] at h⟩
  have F13 : Fun K d13.name d13.name d13.st f13a _ := fun_mk (st := topS 18) l13 c13 k13
  have B13 : Binds K _ d13.ps [] := F13.binds (ps := ["_law_sides", "_law_shut"]) fun _ _ _ _ _ _ us hl => match us, hl with | [_, _], _ => rfl
  have Q13 : FsOk K mg gs.kws 13 d13 := ⟨_, _, PySem.W.mg_of X G0 a13, F13, B13, fun na ks perm h => by simp [gs] at h⟩
  have F14 : Fun K d14.name d14.name d14.st f14a _ := fun_mk (st := topS 19) l14 c14 k14
  have B14 : Binds K _ d14.ps [] := F14.binds (ps := ["_law_questions"]) fun _ _ _ _ _ _ us hl => match us, hl with | [_], _ => rfl
  have Q14 : FsOk K mg gs.kws 14 d14 := ⟨_, _, PySem.W.mg_of X G0 a14, F14, B14, fun na ks perm h => by simp [gs] at h⟩
  have F15 : Fun K d15.name d15.name d15.st f15a _ := fun_mk (st := topS 20) l15 c15 k15
  have B15 : Binds K _ d15.ps [] := F15.binds (ps := ["_law_many"]) fun _ _ _ _ _ _ us hl => match us, hl with | [_], _ => rfl
  have Q15 : FsOk K mg gs.kws 15 d15 := ⟨_, _, PySem.W.mg_of X G0 a15, F15, B15, fun na ks perm h => by simp [gs] at h⟩
  have F16 : Fun K d16.name d16.name d16.st f16a _ := fun_mk (st := topS 21) l16 c16 k16
  have B16 : Binds K _ d16.ps [] := F16.binds (ps := ["_law_well_here", "_law_most"]) fun _ _ _ _ _ _ us hl => match us, hl with | [_, _], _ => rfl
  have Q16 : FsOk K mg gs.kws 16 d16 := ⟨_, _, PySem.W.mg_of X G0 a16, F16, B16, fun na ks perm h => by simp [gs] at h⟩
  have F17 : Fun K d17.name d17.name d17.st f17a _ := fun_mk (st := topS 22) l17 c17 k17
  have B17 : Binds K _ d17.ps [] := F17.binds (ps := ["_law_well_here", "_law_most"]) fun _ _ _ _ _ _ us hl => match us, hl with | [_, _], _ => rfl
  have Q17 : FsOk K mg gs.kws 17 d17 := ⟨_, _, PySem.W.mg_of X G0 a17, F17, B17, fun na ks perm h => by simp [gs] at h⟩
  have F18 : Fun K d18.name d18.name d18.st f18a _ := fun_mk (st := topS 23) l18 c18 k18
  have B18 : Binds K _ d18.ps [] := F18.binds (ps := ["_law_well_here", "_law_d", "_law_most"]) fun _ _ _ _ _ _ us hl => match us, hl with | [_, _, _], _ => rfl
  have Q18 : FsOk K mg gs.kws 18 d18 := ⟨_, _, PySem.W.mg_of X G0 a18, F18, B18, fun na ks perm h => by simp [gs] at h⟩
  have F19 : Fun K d19.name d19.name d19.st f19a _ := fun_mk (st := topS 24) l19 c19 k19
  have B19 : Binds K _ d19.ps [] := F19.binds (ps := ["_law_well_here", "_law_d", "_law_many", "_law_most"]) fun _ _ _ _ _ _ us hl => match us, hl with | [_, _, _, _], _ => rfl
  have Q19 : FsOk K mg gs.kws 19 d19 := ⟨_, _, PySem.W.mg_of X G0 a19, F19, B19, fun na ks perm h => by simp [gs] at h⟩
  have F20 : Fun K d20.name d20.name d20.st f20a _ := fun_mk (st := topS 25) l20 c20 k20
  have B20 : Binds K _ d20.ps [] := F20.binds (ps := ["_law_well_here", "_law_d", "_law_deep_here", "_law_most"]) fun _ _ _ _ _ _ us hl => match us, hl with | [_, _, _, _], _ => rfl
  have Q20 : FsOk K mg gs.kws 20 d20 := ⟨_, _, PySem.W.mg_of X G0 a20, F20, B20, fun na ks perm h => by simp [gs] at h⟩
  have F21 : Fun K d21.name d21.name d21.st f21a _ := fun_mk (st := topS 26) l21 c21 k21
  have B21 : Binds K _ d21.ps [] := F21.binds (ps := ["_law_well_here", "_law_many", "_law_answers"]) fun _ _ _ _ _ _ us hl => match us, hl with | [_, _, _], _ => rfl
  have Q21 : FsOk K mg gs.kws 21 d21 := ⟨_, _, PySem.W.mg_of X G0 a21, F21, B21, fun na ks perm h => by simp [gs] at h⟩
  have F22 : Fun K d22.name d22.name d22.st f22a _ := fun_mk (st := topS 27) l22 c22 k22
  have B22 : Binds K _ d22.ps [] := F22.binds (ps := ["_law_well_here", "_law_door", "_law_most", "_law_deep_here"]) fun _ _ _ _ _ _ us hl => match us, hl with | [_, _, _, _], _ => rfl
  have Q22 : FsOk K mg gs.kws 22 d22 := ⟨_, _, PySem.W.mg_of X G0 a22, F22, B22, fun na ks perm h => by simp [gs] at h⟩
  have F23 : Fun K d23.name d23.name d23.st f23a _ := fun_mk (st := topS 28) l23 c23 k23
  have B23 : Binds K _ d23.ps [] := F23.binds (ps := ["_law_a"]) fun _ _ _ _ _ _ us hl => match us, hl with | [_], _ => rfl
  have Q23 : FsOk K mg gs.kws 23 d23 := ⟨_, _, PySem.W.mg_of X G0 a23, F23, B23, fun na ks perm h => by simp [gs] at h⟩
  have F24 : Fun K d24.name d24.name d24.st f24a _ := fun_mk (st := topS 29) l24 c24 k24
  have B24 : Binds K _ d24.ps [] := F24.binds (ps := ["_law_wish_here"]) fun _ _ _ _ _ _ us hl => match us, hl with | [_], _ => rfl
  have Q24 : FsOk K mg gs.kws 24 d24 := ⟨_, _, PySem.W.mg_of X G0 a24, F24, B24, fun na ks perm h => by simp [gs] at h⟩
  have F25 : Fun K d25.name d25.name d25.st f25a _ := fun_mk (st := topS 30) l25 c25 k25
  have B25 : Binds K _ d25.ps [] := F25.binds (ps := ["_law_question"]) fun _ _ _ _ _ _ us hl => match us, hl with | [_], _ => rfl
  have Q25 : FsOk K mg gs.kws 25 d25 := ⟨_, _, PySem.W.mg_of X G0 a25, F25, B25, fun na ks perm h => by simp [gs] at h⟩
  have F26 : Fun K d26.name d26.name d26.st f26a _ := fun_mk (st := topS 31) l26 c26 k26
  have B26 : Binds K _ d26.ps [] := F26.binds (ps := ["_law_book_here"]) fun _ _ _ _ _ _ us hl => match us, hl with | [_], _ => rfl
  have Q26 : FsOk K mg gs.kws 26 d26 := ⟨_, _, PySem.W.mg_of X G0 a26, F26, B26, fun na ks perm h => by simp [gs] at h⟩
  have F27 : Fun K d27.name d27.name d27.st f27a _ := fun_mk (st := topS 32) l27 c27 k27
  have B27 : Binds K _ d27.ps [] := F27.binds (ps := ["_law_saying"]) fun _ _ _ _ _ _ us hl => match us, hl with | [_], _ => rfl
  have Q27 : FsOk K mg gs.kws 27 d27 := ⟨_, _, PySem.W.mg_of X G0 a27, F27, B27, fun na ks perm h => by simp [gs] at h⟩
  have F28 : Fun K d28.name d28.name d28.st f28a _ := fun_mk (st := topS 33) l28 c28 k28
  have B28 : Binds K _ d28.ps [] := F28.binds (ps := ["_law_door", "_law_thing_here", "_law_named"]) fun _ _ _ _ _ _ us hl => match us, hl with | [_, _, _], _ => rfl
  have Q28 : FsOk K mg gs.kws 28 d28 := ⟨_, _, PySem.W.mg_of X G0 a28, F28, B28, fun na ks perm h => by simp [gs] at h⟩
  have F29 : Fun K d29.name d29.name d29.st fa _ := fun_mk (st := topS 34) l29 c29 k29
  have B29 : Binds K _ d29.ps [] := F29.binds (ps := ["_law_script"]) fun _ _ _ _ _ _ us hl => match us, hl with | [_], _ => rfl
  have Q29 : FsOk K mg gs.kws 29 d29 := ⟨_, _, PySem.W.mg_of X G0 a29, F29, B29, fun na ks perm h => by simp [gs] at h⟩
  have M : MOk w K mg gs G ds tab := mok rfl ⟨PySem.W.mg_none_of X G0 z_str, PySem.W.mg_none_of X G0 z_len, PySem.W.mg_none_of X G0 z_int, PySem.W.mg_none_of X G0 z_max, PySem.W.mg_none_of X G0 z_abs, PySem.W.mg_none_of X G0 z_all, PySem.W.mg_none_of X G0 z_tuple, PySem.W.mg_none_of X G0 z_min, True.intro⟩ ⟨PySem.W.mg_none_of X G0 z_isinstance, PySem.W.mg_none_of X G0 z_bool, PySem.W.mg_none_of X G0 z_int, PySem.W.mg_none_of X G0 z_str, PySem.W.mg_none_of X G0 z_tuple, PySem.W.mg_none_of X G0 z_list, PySem.W.mg_none_of X G0 z_range, True.intro⟩ ⟨⟨_, PySem.W.mg_of X G0 ca0, cr0⟩, ⟨_, PySem.W.mg_of X G0 ca1, _, _, _, rfl, cl1, cz1, cr1⟩, True.intro⟩ ⟨Q0, Q1, Q2, Q3, Q4, Q5, Q6, Q7, Q8, Q9, Q10, Q11, Q12, Q13, Q14, Q15, Q16, Q17, Q18, Q19, Q20, Q21, Q22, Q23, Q24, Q25, Q26, Q27, Q28, Q29, True.intro⟩ ⟨chk0, chk1, chk2, chk3, chk4, chk5, chk6, chk7, chk8, chk9, chk10, chk11, chk12, chk13, chk14, chk15, chk16, chk17, chk18, chk19, chk20, chk21, chk22, chk23, chk24, chk25, chk26, chk27, chk28, chk29, True.intro⟩ ⟨⟨_, PySem.W.mg_of X G0 ta0, _, _, tl0, tt0⟩, True.intro⟩
  exact ⟨_, fun s v => .of_eq rfl, fun base _ _ => all_ok M 30 29 d29 _ _ rfl F29⟩
end K47

namespace K47
open PySem Ev
variable {wf n : Nat} {S : Sto}
def sNum (p : Int × Int) : Str := if p.2 = 1 then strOfInt p.1 else strOfInt p.1 ++ "/" ++ strOfInt p.2
def nD (p : Int × Int) : D := .tup [.int p.1, .int p.2]
def SmN (p : Int × Int) : Prop := Sm p.1 ∧ Sm p.2
theorem len1 : ("/" : Str).length = 1 := rfl
theorem sNum_len {p : Int × Int} (h : SmN p) : (sNum p).length ≤ 605 := by
  have h1 := h.1.l
  have h2 := h.2.l
  unfold sNum
  split
  · omega
  · rw [len_app, len_app, len1]
    omega
theorem show_number {p : Int × Int} (h : SmN p) : callF tab G wf (n + 1) 0 [nD p] S = .ok (.str (sNum p)) S := by
  have h1 := h.1.l
  have h2 := h.2.l
  refine R.eq_of ?_
  rw [w_fn at0 rfl]
  simp only [f0, nD, h.1.b, h.2.b, w_var, w_con, w_glob, w_bin, w_neg, w_not, w_and, w_or, w_ifx, w_cmp, w_tup, w_frz, w_own, w_sub, w_slc, w_call, w_callk, w_bi, w_isi, w_me, w_tab, w_ono, w_oyes, w_nil, w_cons, w_tnil, w_tcons, w_disp, w_comp, w_cat, w_rep, w_nslc, w_rev, w_ival, w_irng, w_gname, w_gtup, w_gsub, w_gsnil, w_gscons, w_sexpr, w_asg, w_par, w_ret, w_retN, w_ifs, w_for, w_pass, w_brk, w_cont, w_snil, w_scons, nxt_nx, nxt_rt, nxt_bk, nxt_ct, fin_rt, fin_nx, is_ok, is_no, is_bind, is_guard, is_of, bin_addI, bin_addS, bin_addT, bin_sub, bin_mul, bin_mulT, bin_fdiv, bin_mod, bin_pow, look_int, look_str, look_bl, look_non, look_tup, look_lst, look_sq, items_tup, items_lst, items_sq, list_lst, list_sq, cmp_lt, cmp_le, cmp_gt, cmp_ge, cmp_eq, cmp_ne, eq_int, eq_str, eq_bl, cmp_isN, cmp_isB, cmp_isnot, cmp_inT, cmp_inL, cmp_ninL, sub_tup, sub_lst, sub_sq, atP0, atP1, atP2, atP3, atP4, atP5, len_tup, len_lst, len_sq, len_str, bi_abs, bi_int, bi_strI, bi_strS, bi_tupL, bi_tupT, bi_tupS, bi_max2, bi_min2, bi_all, bi_any, bi_sum, me_join, it_tup, it_lst, it_sq, slc_tup, opt_none, opt_some, cut1, exists_and_left, List.singleton_append, pick, isTupD, typed, isTy, wipeE, Int.reduceEq, Int.reduceLT, Int.reduceSub, Int.reduceNeg, ex_if, ex_some, ex_map, List.any_cons, List.any_nil, Bool.or_false, Bool.false_or, Bool.or_true, Bool.true_or, decide_true, decide_false, List.getElem?_cons_zero, List.getElem?_cons_succ, Option.some.injEq, exists_eq_left', exists_eq_left, exists_eq_right, true_and, and_true, List.map_cons, List.map_nil, List.set_cons_zero, List.set_cons_succ, List.length_cons, List.length_nil, List.cons_append, List.nil_append, List.reduceReplicate, Nat.reduceSub, Nat.reduceAdd, Nat.reduceLT, Nat.reduceLeDiff, Nat.zero_lt_succ, Nat.lt_add_left_iff_pos, Nat.succ_lt_succ_iff, D.int.injEq, D.bl.injEq, D.str.injEq, D.tup.injEq, D.lst.injEq, D.own.injEq, decide_eq_true_eq, Bool.not_eq_true', decide_eq_false_iff_not, if_true, if_false, ite_true, ite_false, Bool.false_eq_true, reduceCtorEq, false_and, exists_false, Option.map_some, Option.map_none, Option.bind_some, Option.getD_some]
  split
  · rename_i e
    rw [finish_same (low_str _ _), is_ok]
    exact ⟨by simp [sNum, e], rfl⟩
  · rename_i e
    rw [finish_same (low_str _ _), is_ok]
    simp only [len_app, sNum, if_neg e, LIM]
    refine ⟨?_, ?_, trivial, trivial⟩
    · have : ("/" : Str).length = 1 := rfl
      omega
    · have : ("/" : Str).length = 1 := rfl
      omega
theorem said_number {p : Int × Int} (h : SmN p) : callF tab G wf (n + 1) 23 [nD p] S = .ok (.str (sNum p)) S := by
  have h1 := h.1.l
  have h2 := h.2.l
  refine R.eq_of ?_
  rw [w_fn at23 rfl]
  simp only [f23, nD, h.1.b, h.2.b, w_var, w_con, w_glob, w_bin, w_neg, w_not, w_and, w_or, w_ifx, w_cmp, w_tup, w_frz, w_own, w_sub, w_slc, w_call, w_callk, w_bi, w_isi, w_me, w_tab, w_ono, w_oyes, w_nil, w_cons, w_tnil, w_tcons, w_disp, w_comp, w_cat, w_rep, w_nslc, w_rev, w_ival, w_irng, w_gname, w_gtup, w_gsub, w_gsnil, w_gscons, w_sexpr, w_asg, w_par, w_ret, w_retN, w_ifs, w_for, w_pass, w_brk, w_cont, w_snil, w_scons, nxt_nx, nxt_rt, nxt_bk, nxt_ct, fin_rt, fin_nx, is_ok, is_no, is_bind, is_guard, is_of, bin_addI, bin_addS, bin_addT, bin_sub, bin_mul, bin_mulT, bin_fdiv, bin_mod, bin_pow, look_int, look_str, look_bl, look_non, look_tup, look_lst, look_sq, items_tup, items_lst, items_sq, list_lst, list_sq, cmp_lt, cmp_le, cmp_gt, cmp_ge, cmp_eq, cmp_ne, eq_int, eq_str, eq_bl, cmp_isN, cmp_isB, cmp_isnot, cmp_inT, cmp_inL, cmp_ninL, sub_tup, sub_lst, sub_sq, atP0, atP1, atP2, atP3, atP4, atP5, len_tup, len_lst, len_sq, len_str, bi_abs, bi_int, bi_strI, bi_strS, bi_tupL, bi_tupT, bi_tupS, bi_max2, bi_min2, bi_all, bi_any, bi_sum, me_join, it_tup, it_lst, it_sq, slc_tup, opt_none, opt_some, cut1, exists_and_left, List.singleton_append, pick, isTupD, typed, isTy, wipeE, Int.reduceEq, Int.reduceLT, Int.reduceSub, Int.reduceNeg, ex_if, ex_some, ex_map, List.any_cons, List.any_nil, Bool.or_false, Bool.false_or, Bool.or_true, Bool.true_or, decide_true, decide_false, List.getElem?_cons_zero, List.getElem?_cons_succ, Option.some.injEq, exists_eq_left', exists_eq_left, exists_eq_right, true_and, and_true, List.map_cons, List.map_nil, List.set_cons_zero, List.set_cons_succ, List.length_cons, List.length_nil, List.cons_append, List.nil_append, List.reduceReplicate, Nat.reduceSub, Nat.reduceAdd, Nat.reduceLT, Nat.reduceLeDiff, Nat.zero_lt_succ, Nat.lt_add_left_iff_pos, Nat.succ_lt_succ_iff, D.int.injEq, D.bl.injEq, D.str.injEq, D.tup.injEq, D.lst.injEq, D.own.injEq, decide_eq_true_eq, Bool.not_eq_true', decide_eq_false_iff_not, if_true, if_false, ite_true, ite_false, Bool.false_eq_true, reduceCtorEq, false_and, exists_false, Option.map_some, Option.map_none, Option.bind_some, Option.getD_some]
  split
  · rename_i e
    rw [finish_same (low_str _ _), is_ok]
    exact ⟨by simp [sNum, e], rfl⟩
  · rename_i e
    rw [finish_same (low_str _ _), is_ok]
    simp only [len_app, sNum, if_neg e, LIM]
    refine ⟨?_, ?_, trivial, trivial⟩
    · have : ("/" : Str).length = 1 := rfl
      omega
    · have : ("/" : Str).length = 1 := rfl
      omega
def sPoint (ps : List (Int × Int)) : Str := Str.join " " (ps.map sNum)
/-- a joined text is no longer than .. -/
theorem join_guard {xs : List Str} {sep : Str} {b m c : Nat} (h : ∀ x ∈ xs, x.length ≤ b) (hl : xs.length ≤ m) (hs : sep.length ≤ c) (hb : m * b + m * c ≤ LIM) : (xs.map strLen).sum + xs.length * sep.length ≤ LIM := by
  have h1 := sum_le h
  have h2 : xs.length * b ≤ m * b := Nat.mul_le_mul_right b hl
  have h3 : xs.length * sep.length ≤ m * c := Nat.mul_le_mul hl hs
  omega
theorem show_point {ps : List (Int × Int)} (h : ∀ p ∈ ps, SmN p) (hl : ps.length ≤ 12) : callF tab G wf (n + 2) 1 [.tup (ps.map nD)] S = .ok (.str (sPoint ps)) S := by
  refine R.eq_of ?_
  rw [w_fn at1 rfl]
  simp only [f1, w_var, w_con, w_glob, w_bin, w_neg, w_not, w_and, w_or, w_ifx, w_cmp, w_tup, w_frz, w_own, w_sub, w_slc, w_call, w_callk, w_bi, w_isi, w_me, w_tab, w_ono, w_oyes, w_nil, w_cons, w_tnil, w_tcons, w_disp, w_comp, w_cat, w_rep, w_nslc, w_rev, w_ival, w_irng, w_gname, w_gtup, w_gsub, w_gsnil, w_gscons, w_sexpr, w_asg, w_par, w_ret, w_retN, w_ifs, w_for, w_pass, w_brk, w_cont, w_snil, w_scons, nxt_nx, nxt_rt, nxt_bk, nxt_ct, fin_rt, fin_nx, is_ok, is_no, is_bind, is_guard, is_of, bin_addI, bin_addS, bin_addT, bin_sub, bin_mul, bin_mulT, bin_fdiv, bin_mod, bin_pow, look_int, look_str, look_bl, look_non, look_tup, look_lst, look_sq, items_tup, items_lst, items_sq, list_lst, list_sq, cmp_lt, cmp_le, cmp_gt, cmp_ge, cmp_eq, cmp_ne, eq_int, eq_str, eq_bl, cmp_isN, cmp_isB, cmp_isnot, cmp_inT, cmp_inL, cmp_ninL, sub_tup, sub_lst, sub_sq, atP0, atP1, atP2, atP3, atP4, atP5, len_tup, len_lst, len_sq, len_str, bi_abs, bi_int, bi_strI, bi_strS, bi_tupL, bi_tupT, bi_tupS, bi_max2, bi_min2, bi_all, bi_any, bi_sum, me_join, it_tup, it_lst, it_sq, slc_tup, opt_none, opt_some, cut1, exists_and_left, List.singleton_append, pick, isTupD, typed, isTy, wipeE, Int.reduceEq, Int.reduceLT, Int.reduceSub, Int.reduceNeg, ex_if, ex_some, ex_map, List.any_cons, List.any_nil, Bool.or_false, Bool.false_or, Bool.or_true, Bool.true_or, decide_true, decide_false, List.getElem?_cons_zero, List.getElem?_cons_succ, Option.some.injEq, exists_eq_left', exists_eq_left, exists_eq_right, true_and, and_true, List.map_cons, List.map_nil, List.set_cons_zero, List.set_cons_succ, List.length_cons, List.length_nil, List.cons_append, List.nil_append, List.reduceReplicate, Nat.reduceSub, Nat.reduceAdd, Nat.reduceLT, Nat.reduceLeDiff, Nat.zero_lt_succ, Nat.lt_add_left_iff_pos, Nat.succ_lt_succ_iff, D.int.injEq, D.bl.injEq, D.str.injEq, D.tup.injEq, D.lst.injEq, D.own.injEq, decide_eq_true_eq, Bool.not_eq_true', decide_eq_false_iff_not, if_true, if_false, ite_true, ite_false, Bool.false_eq_true, reduceCtorEq, false_and, exists_false, Option.map_some, Option.map_none, Option.bind_some, Option.getD_some]
  refine ⟨by rw [List.length_map]; exact Nat.le_trans hl (by decide), Ev.comp_map ps nD (fun p => .str (sNum p)) rfl rfl (fun p hp => ?_) ?_⟩
  · simp only [show_number (h p hp), w_var, w_con, w_glob, w_bin, w_neg, w_not, w_and, w_or, w_ifx, w_cmp, w_tup, w_frz, w_own, w_sub, w_slc, w_call, w_callk, w_bi, w_isi, w_me, w_tab, w_ono, w_oyes, w_nil, w_cons, w_tnil, w_tcons, w_disp, w_comp, w_cat, w_rep, w_nslc, w_rev, w_ival, w_irng, w_gname, w_gtup, w_gsub, w_gsnil, w_gscons, w_sexpr, w_asg, w_par, w_ret, w_retN, w_ifs, w_for, w_pass, w_brk, w_cont, w_snil, w_scons, nxt_nx, nxt_rt, nxt_bk, nxt_ct, fin_rt, fin_nx, is_ok, is_no, is_bind, is_guard, is_of, bin_addI, bin_addS, bin_addT, bin_sub, bin_mul, bin_mulT, bin_fdiv, bin_mod, bin_pow, look_int, look_str, look_bl, look_non, look_tup, look_lst, look_sq, items_tup, items_lst, items_sq, list_lst, list_sq, cmp_lt, cmp_le, cmp_gt, cmp_ge, cmp_eq, cmp_ne, eq_int, eq_str, eq_bl, cmp_isN, cmp_isB, cmp_isnot, cmp_inT, cmp_inL, cmp_ninL, sub_tup, sub_lst, sub_sq, atP0, atP1, atP2, atP3, atP4, atP5, len_tup, len_lst, len_sq, len_str, bi_abs, bi_int, bi_strI, bi_strS, bi_tupL, bi_tupT, bi_tupS, bi_max2, bi_min2, bi_all, bi_any, bi_sum, me_join, it_tup, it_lst, it_sq, slc_tup, opt_none, opt_some, cut1, exists_and_left, List.singleton_append, pick, isTupD, typed, isTy, wipeE, Int.reduceEq, Int.reduceLT, Int.reduceSub, Int.reduceNeg, ex_if, ex_some, ex_map, List.any_cons, List.any_nil, Bool.or_false, Bool.false_or, Bool.or_true, Bool.true_or, decide_true, decide_false, List.getElem?_cons_zero, List.getElem?_cons_succ, Option.some.injEq, exists_eq_left', exists_eq_left, exists_eq_right, true_and, and_true, List.map_cons, List.map_nil, List.set_cons_zero, List.set_cons_succ, List.length_cons, List.length_nil, List.cons_append, List.nil_append, List.reduceReplicate, Nat.reduceSub, Nat.reduceAdd, Nat.reduceLT, Nat.reduceLeDiff, Nat.zero_lt_succ, Nat.lt_add_left_iff_pos, Nat.succ_lt_succ_iff, D.int.injEq, D.bl.injEq, D.str.injEq, D.tup.injEq, D.lst.injEq, D.own.injEq, decide_eq_true_eq, Bool.not_eq_true', decide_eq_false_iff_not, if_true, if_false, ite_true, ite_false, Bool.false_eq_true, reduceCtorEq, false_and, exists_false, Option.map_some, Option.map_none, Option.bind_some, Option.getD_some]
  · rw [strsOf_mapf]
    simp only [w_var, w_con, w_glob, w_bin, w_neg, w_not, w_and, w_or, w_ifx, w_cmp, w_tup, w_frz, w_own, w_sub, w_slc, w_call, w_callk, w_bi, w_isi, w_me, w_tab, w_ono, w_oyes, w_nil, w_cons, w_tnil, w_tcons, w_disp, w_comp, w_cat, w_rep, w_nslc, w_rev, w_ival, w_irng, w_gname, w_gtup, w_gsub, w_gsnil, w_gscons, w_sexpr, w_asg, w_par, w_ret, w_retN, w_ifs, w_for, w_pass, w_brk, w_cont, w_snil, w_scons, nxt_nx, nxt_rt, nxt_bk, nxt_ct, fin_rt, fin_nx, is_ok, is_no, is_bind, is_guard, is_of, bin_addI, bin_addS, bin_addT, bin_sub, bin_mul, bin_mulT, bin_fdiv, bin_mod, bin_pow, look_int, look_str, look_bl, look_non, look_tup, look_lst, look_sq, items_tup, items_lst, items_sq, list_lst, list_sq, cmp_lt, cmp_le, cmp_gt, cmp_ge, cmp_eq, cmp_ne, eq_int, eq_str, eq_bl, cmp_isN, cmp_isB, cmp_isnot, cmp_inT, cmp_inL, cmp_ninL, sub_tup, sub_lst, sub_sq, atP0, atP1, atP2, atP3, atP4, atP5, len_tup, len_lst, len_sq, len_str, bi_abs, bi_int, bi_strI, bi_strS, bi_tupL, bi_tupT, bi_tupS, bi_max2, bi_min2, bi_all, bi_any, bi_sum, me_join, it_tup, it_lst, it_sq, slc_tup, opt_none, opt_some, cut1, exists_and_left, List.singleton_append, pick, isTupD, typed, isTy, wipeE, Int.reduceEq, Int.reduceLT, Int.reduceSub, Int.reduceNeg, ex_if, ex_some, ex_map, List.any_cons, List.any_nil, Bool.or_false, Bool.false_or, Bool.or_true, Bool.true_or, decide_true, decide_false, List.getElem?_cons_zero, List.getElem?_cons_succ, Option.some.injEq, exists_eq_left', exists_eq_left, exists_eq_right, true_and, and_true, List.map_cons, List.map_nil, List.set_cons_zero, List.set_cons_succ, List.length_cons, List.length_nil, List.cons_append, List.nil_append, List.reduceReplicate, Nat.reduceSub, Nat.reduceAdd, Nat.reduceLT, Nat.reduceLeDiff, Nat.zero_lt_succ, Nat.lt_add_left_iff_pos, Nat.succ_lt_succ_iff, D.int.injEq, D.bl.injEq, D.str.injEq, D.tup.injEq, D.lst.injEq, D.own.injEq, decide_eq_true_eq, Bool.not_eq_true', decide_eq_false_iff_not, if_true, if_false, ite_true, ite_false, Bool.false_eq_true, reduceCtorEq, false_and, exists_false, Option.map_some, Option.map_none, Option.bind_some, Option.getD_some]
    refine ⟨join_guard (m := 12) (b := 605) (c := 1) (fun x hx => ?_) (by rw [List.length_map]; exact hl) (Nat.le_refl _) (by decide), ?_⟩
    · obtain ⟨p, hp, rfl⟩ := List.mem_map.mp hx
      exact sNum_len (h p hp)
    · rw [finish_same (low_str _ _), is_ok]
      exact ⟨rfl, rfl⟩
/-! ### sides, questions, books -/
def iD (i : Int) : D := .int i
def sSides (xs : List Int) : Str := Str.join " " (xs.map strOfInt)
structure SmQ (q : List Int × Int) : Prop where
  s : ∀ x ∈ q.1, Sm x
  l : q.1.length ≤ 12
  w : Sm q.2
def qD (q : List Int × Int) : D := .tup [.tup (q.1.map iD), .int q.2]
def sQ (q : List Int × Int) : Str := sSides q.1 ++ " : " ++ strOfInt q.2
theorem sSides_len {xs : List Int} (h : ∀ x ∈ xs, Sm x) (hl : xs.length ≤ 12) : (sSides xs).length ≤ 12 * 303 := by
  refine Nat.le_trans (len_join _ _) ?_
  have h1 := sum_le (xs := xs.map strOfInt) (b := 302) fun x hx => by
    obtain ⟨p, hp, rfl⟩ := List.mem_map.mp hx
    exact (h p hp).l
  rw [List.length_map] at h1 ⊢
  have : (" " : Str).length = 1 := rfl
  rw [this]
  omega
theorem sQ_len {q : List Int × Int} (h : SmQ q) : (sQ q).length ≤ 4000 := by
  have h1 := sSides_len h.s h.l
  have h2 := h.w.l
  unfold sQ
  rw [len_app, len_app]
  have : (" : " : Str).length = 3 := rfl
  omega
theorem show_sides {xs : List Int} (h : ∀ x ∈ xs, Sm x) (hl : xs.length ≤ 12) : callF tab G wf (n + 1) 4 [.tup (xs.map iD)] S = .ok (.str (sSides xs)) S := by
  refine R.eq_of ?_
  rw [w_fn at4 rfl]
  simp only [f4, w_var, w_con, w_glob, w_bin, w_neg, w_not, w_and, w_or, w_ifx, w_cmp, w_tup, w_frz, w_own, w_sub, w_slc, w_call, w_callk, w_bi, w_isi, w_me, w_tab, w_ono, w_oyes, w_nil, w_cons, w_tnil, w_tcons, w_disp, w_comp, w_cat, w_rep, w_nslc, w_rev, w_ival, w_irng, w_gname, w_gtup, w_gsub, w_gsnil, w_gscons, w_sexpr, w_asg, w_par, w_ret, w_retN, w_ifs, w_for, w_pass, w_brk, w_cont, w_snil, w_scons, nxt_nx, nxt_rt, nxt_bk, nxt_ct, fin_rt, fin_nx, is_ok, is_no, is_bind, is_guard, is_of, bin_addI, bin_addS, bin_addT, bin_sub, bin_mul, bin_mulT, bin_fdiv, bin_mod, bin_pow, look_int, look_str, look_bl, look_non, look_tup, look_lst, look_sq, items_tup, items_lst, items_sq, list_lst, list_sq, cmp_lt, cmp_le, cmp_gt, cmp_ge, cmp_eq, cmp_ne, eq_int, eq_str, eq_bl, cmp_isN, cmp_isB, cmp_isnot, cmp_inT, cmp_inL, cmp_ninL, sub_tup, sub_lst, sub_sq, atP0, atP1, atP2, atP3, atP4, atP5, len_tup, len_lst, len_sq, len_str, bi_abs, bi_int, bi_strI, bi_strS, bi_tupL, bi_tupT, bi_tupS, bi_max2, bi_min2, bi_all, bi_any, bi_sum, me_join, it_tup, it_lst, it_sq, slc_tup, opt_none, opt_some, cut1, exists_and_left, List.singleton_append, pick, isTupD, typed, isTy, wipeE, Int.reduceEq, Int.reduceLT, Int.reduceSub, Int.reduceNeg, ex_if, ex_some, ex_map, List.any_cons, List.any_nil, Bool.or_false, Bool.false_or, Bool.or_true, Bool.true_or, decide_true, decide_false, List.getElem?_cons_zero, List.getElem?_cons_succ, Option.some.injEq, exists_eq_left', exists_eq_left, exists_eq_right, true_and, and_true, List.map_cons, List.map_nil, List.set_cons_zero, List.set_cons_succ, List.length_cons, List.length_nil, List.cons_append, List.nil_append, List.reduceReplicate, Nat.reduceSub, Nat.reduceAdd, Nat.reduceLT, Nat.reduceLeDiff, Nat.zero_lt_succ, Nat.lt_add_left_iff_pos, Nat.succ_lt_succ_iff, D.int.injEq, D.bl.injEq, D.str.injEq, D.tup.injEq, D.lst.injEq, D.own.injEq, decide_eq_true_eq, Bool.not_eq_true', decide_eq_false_iff_not, if_true, if_false, ite_true, ite_false, Bool.false_eq_true, reduceCtorEq, false_and, exists_false, Option.map_some, Option.map_none, Option.bind_some, Option.getD_some]
  refine ⟨by rw [List.length_map]; exact Nat.le_trans hl (by decide), Ev.comp_map xs iD (fun p => .str (strOfInt p)) rfl rfl (fun p hp => ?_) ?_⟩
  · simp only [iD, (h p hp).b, w_var, w_con, w_glob, w_bin, w_neg, w_not, w_and, w_or, w_ifx, w_cmp, w_tup, w_frz, w_own, w_sub, w_slc, w_call, w_callk, w_bi, w_isi, w_me, w_tab, w_ono, w_oyes, w_nil, w_cons, w_tnil, w_tcons, w_disp, w_comp, w_cat, w_rep, w_nslc, w_rev, w_ival, w_irng, w_gname, w_gtup, w_gsub, w_gsnil, w_gscons, w_sexpr, w_asg, w_par, w_ret, w_retN, w_ifs, w_for, w_pass, w_brk, w_cont, w_snil, w_scons, nxt_nx, nxt_rt, nxt_bk, nxt_ct, fin_rt, fin_nx, is_ok, is_no, is_bind, is_guard, is_of, bin_addI, bin_addS, bin_addT, bin_sub, bin_mul, bin_mulT, bin_fdiv, bin_mod, bin_pow, look_int, look_str, look_bl, look_non, look_tup, look_lst, look_sq, items_tup, items_lst, items_sq, list_lst, list_sq, cmp_lt, cmp_le, cmp_gt, cmp_ge, cmp_eq, cmp_ne, eq_int, eq_str, eq_bl, cmp_isN, cmp_isB, cmp_isnot, cmp_inT, cmp_inL, cmp_ninL, sub_tup, sub_lst, sub_sq, atP0, atP1, atP2, atP3, atP4, atP5, len_tup, len_lst, len_sq, len_str, bi_abs, bi_int, bi_strI, bi_strS, bi_tupL, bi_tupT, bi_tupS, bi_max2, bi_min2, bi_all, bi_any, bi_sum, me_join, it_tup, it_lst, it_sq, slc_tup, opt_none, opt_some, cut1, exists_and_left, List.singleton_append, pick, isTupD, typed, isTy, wipeE, Int.reduceEq, Int.reduceLT, Int.reduceSub, Int.reduceNeg, ex_if, ex_some, ex_map, List.any_cons, List.any_nil, Bool.or_false, Bool.false_or, Bool.or_true, Bool.true_or, decide_true, decide_false, List.getElem?_cons_zero, List.getElem?_cons_succ, Option.some.injEq, exists_eq_left', exists_eq_left, exists_eq_right, true_and, and_true, List.map_cons, List.map_nil, List.set_cons_zero, List.set_cons_succ, List.length_cons, List.length_nil, List.cons_append, List.nil_append, List.reduceReplicate, Nat.reduceSub, Nat.reduceAdd, Nat.reduceLT, Nat.reduceLeDiff, Nat.zero_lt_succ, Nat.lt_add_left_iff_pos, Nat.succ_lt_succ_iff, D.int.injEq, D.bl.injEq, D.str.injEq, D.tup.injEq, D.lst.injEq, D.own.injEq, decide_eq_true_eq, Bool.not_eq_true', decide_eq_false_iff_not, if_true, if_false, ite_true, ite_false, Bool.false_eq_true, reduceCtorEq, false_and, exists_false, Option.map_some, Option.map_none, Option.bind_some, Option.getD_some]
  · rw [strsOf_mapf]
    simp only [w_var, w_con, w_glob, w_bin, w_neg, w_not, w_and, w_or, w_ifx, w_cmp, w_tup, w_frz, w_own, w_sub, w_slc, w_call, w_callk, w_bi, w_isi, w_me, w_tab, w_ono, w_oyes, w_nil, w_cons, w_tnil, w_tcons, w_disp, w_comp, w_cat, w_rep, w_nslc, w_rev, w_ival, w_irng, w_gname, w_gtup, w_gsub, w_gsnil, w_gscons, w_sexpr, w_asg, w_par, w_ret, w_retN, w_ifs, w_for, w_pass, w_brk, w_cont, w_snil, w_scons, nxt_nx, nxt_rt, nxt_bk, nxt_ct, fin_rt, fin_nx, is_ok, is_no, is_bind, is_guard, is_of, bin_addI, bin_addS, bin_addT, bin_sub, bin_mul, bin_mulT, bin_fdiv, bin_mod, bin_pow, look_int, look_str, look_bl, look_non, look_tup, look_lst, look_sq, items_tup, items_lst, items_sq, list_lst, list_sq, cmp_lt, cmp_le, cmp_gt, cmp_ge, cmp_eq, cmp_ne, eq_int, eq_str, eq_bl, cmp_isN, cmp_isB, cmp_isnot, cmp_inT, cmp_inL, cmp_ninL, sub_tup, sub_lst, sub_sq, atP0, atP1, atP2, atP3, atP4, atP5, len_tup, len_lst, len_sq, len_str, bi_abs, bi_int, bi_strI, bi_strS, bi_tupL, bi_tupT, bi_tupS, bi_max2, bi_min2, bi_all, bi_any, bi_sum, me_join, it_tup, it_lst, it_sq, slc_tup, opt_none, opt_some, cut1, exists_and_left, List.singleton_append, pick, isTupD, typed, isTy, wipeE, Int.reduceEq, Int.reduceLT, Int.reduceSub, Int.reduceNeg, ex_if, ex_some, ex_map, List.any_cons, List.any_nil, Bool.or_false, Bool.false_or, Bool.or_true, Bool.true_or, decide_true, decide_false, List.getElem?_cons_zero, List.getElem?_cons_succ, Option.some.injEq, exists_eq_left', exists_eq_left, exists_eq_right, true_and, and_true, List.map_cons, List.map_nil, List.set_cons_zero, List.set_cons_succ, List.length_cons, List.length_nil, List.cons_append, List.nil_append, List.reduceReplicate, Nat.reduceSub, Nat.reduceAdd, Nat.reduceLT, Nat.reduceLeDiff, Nat.zero_lt_succ, Nat.lt_add_left_iff_pos, Nat.succ_lt_succ_iff, D.int.injEq, D.bl.injEq, D.str.injEq, D.tup.injEq, D.lst.injEq, D.own.injEq, decide_eq_true_eq, Bool.not_eq_true', decide_eq_false_iff_not, if_true, if_false, ite_true, ite_false, Bool.false_eq_true, reduceCtorEq, false_and, exists_false, Option.map_some, Option.map_none, Option.bind_some, Option.getD_some]
    refine ⟨join_guard (m := 12) (b := 302) (c := 1) (fun x hx => ?_) (by rw [List.length_map]; exact hl) (Nat.le_refl _) (by decide), ?_⟩
    · obtain ⟨p, hp, rfl⟩ := List.mem_map.mp hx
      exact (h p hp).l
    · rw [finish_same (low_str _ _), is_ok]
      exact ⟨rfl, rfl⟩
theorem show_question {q : List Int × Int} (h : SmQ q) : callF tab G wf (n + 2) 5 [qD q] S = .ok (.str (sQ q)) S := by
  have h1 := sSides_len h.s h.l
  have h2 := h.w.l
  have h3 : (" : " : Str).length = 3 := rfl
  refine R.eq_of ?_
  rw [w_fn at5 rfl]
  simp only [f5, qD, show_sides h.s h.l, h.w.b, w_var, w_con, w_glob, w_bin, w_neg, w_not, w_and, w_or, w_ifx, w_cmp, w_tup, w_frz, w_own, w_sub, w_slc, w_call, w_callk, w_bi, w_isi, w_me, w_tab, w_ono, w_oyes, w_nil, w_cons, w_tnil, w_tcons, w_disp, w_comp, w_cat, w_rep, w_nslc, w_rev, w_ival, w_irng, w_gname, w_gtup, w_gsub, w_gsnil, w_gscons, w_sexpr, w_asg, w_par, w_ret, w_retN, w_ifs, w_for, w_pass, w_brk, w_cont, w_snil, w_scons, nxt_nx, nxt_rt, nxt_bk, nxt_ct, fin_rt, fin_nx, is_ok, is_no, is_bind, is_guard, is_of, bin_addI, bin_addS, bin_addT, bin_sub, bin_mul, bin_mulT, bin_fdiv, bin_mod, bin_pow, look_int, look_str, look_bl, look_non, look_tup, look_lst, look_sq, items_tup, items_lst, items_sq, list_lst, list_sq, cmp_lt, cmp_le, cmp_gt, cmp_ge, cmp_eq, cmp_ne, eq_int, eq_str, eq_bl, cmp_isN, cmp_isB, cmp_isnot, cmp_inT, cmp_inL, cmp_ninL, sub_tup, sub_lst, sub_sq, atP0, atP1, atP2, atP3, atP4, atP5, len_tup, len_lst, len_sq, len_str, bi_abs, bi_int, bi_strI, bi_strS, bi_tupL, bi_tupT, bi_tupS, bi_max2, bi_min2, bi_all, bi_any, bi_sum, me_join, it_tup, it_lst, it_sq, slc_tup, opt_none, opt_some, cut1, exists_and_left, List.singleton_append, pick, isTupD, typed, isTy, wipeE, Int.reduceEq, Int.reduceLT, Int.reduceSub, Int.reduceNeg, ex_if, ex_some, ex_map, List.any_cons, List.any_nil, Bool.or_false, Bool.false_or, Bool.or_true, Bool.true_or, decide_true, decide_false, List.getElem?_cons_zero, List.getElem?_cons_succ, Option.some.injEq, exists_eq_left', exists_eq_left, exists_eq_right, true_and, and_true, List.map_cons, List.map_nil, List.set_cons_zero, List.set_cons_succ, List.length_cons, List.length_nil, List.cons_append, List.nil_append, List.reduceReplicate, Nat.reduceSub, Nat.reduceAdd, Nat.reduceLT, Nat.reduceLeDiff, Nat.zero_lt_succ, Nat.lt_add_left_iff_pos, Nat.succ_lt_succ_iff, D.int.injEq, D.bl.injEq, D.str.injEq, D.tup.injEq, D.lst.injEq, D.own.injEq, decide_eq_true_eq, Bool.not_eq_true', decide_eq_false_iff_not, if_true, if_false, ite_true, ite_false, Bool.false_eq_true, reduceCtorEq, false_and, exists_false, Option.map_some, Option.map_none, Option.bind_some, Option.getD_some]
  rw [finish_same (low_str _ _), is_ok]
  simp only [len_app, LIM]
  exact ⟨by omega, by omega, by trivial, by trivial⟩
theorem said_question {q : List Int × Int} (h : SmQ q) : callF tab G wf (n + 1) 25 [qD q] S = .ok (.str (sQ q)) S := by
  have h1 := sSides_len h.s h.l
  have h2 := h.w.l
  have h3 : (" : " : Str).length = 3 := rfl
  refine R.eq_of ?_
  rw [w_fn at25 rfl]
  simp only [f25, qD, h.w.b, w_var, w_con, w_glob, w_bin, w_neg, w_not, w_and, w_or, w_ifx, w_cmp, w_tup, w_frz, w_own, w_sub, w_slc, w_call, w_callk, w_bi, w_isi, w_me, w_tab, w_ono, w_oyes, w_nil, w_cons, w_tnil, w_tcons, w_disp, w_comp, w_cat, w_rep, w_nslc, w_rev, w_ival, w_irng, w_gname, w_gtup, w_gsub, w_gsnil, w_gscons, w_sexpr, w_asg, w_par, w_ret, w_retN, w_ifs, w_for, w_pass, w_brk, w_cont, w_snil, w_scons, nxt_nx, nxt_rt, nxt_bk, nxt_ct, fin_rt, fin_nx, is_ok, is_no, is_bind, is_guard, is_of, bin_addI, bin_addS, bin_addT, bin_sub, bin_mul, bin_mulT, bin_fdiv, bin_mod, bin_pow, look_int, look_str, look_bl, look_non, look_tup, look_lst, look_sq, items_tup, items_lst, items_sq, list_lst, list_sq, cmp_lt, cmp_le, cmp_gt, cmp_ge, cmp_eq, cmp_ne, eq_int, eq_str, eq_bl, cmp_isN, cmp_isB, cmp_isnot, cmp_inT, cmp_inL, cmp_ninL, sub_tup, sub_lst, sub_sq, atP0, atP1, atP2, atP3, atP4, atP5, len_tup, len_lst, len_sq, len_str, bi_abs, bi_int, bi_strI, bi_strS, bi_tupL, bi_tupT, bi_tupS, bi_max2, bi_min2, bi_all, bi_any, bi_sum, me_join, it_tup, it_lst, it_sq, slc_tup, opt_none, opt_some, cut1, exists_and_left, List.singleton_append, pick, isTupD, typed, isTy, wipeE, Int.reduceEq, Int.reduceLT, Int.reduceSub, Int.reduceNeg, ex_if, ex_some, ex_map, List.any_cons, List.any_nil, Bool.or_false, Bool.false_or, Bool.or_true, Bool.true_or, decide_true, decide_false, List.getElem?_cons_zero, List.getElem?_cons_succ, Option.some.injEq, exists_eq_left', exists_eq_left, exists_eq_right, true_and, and_true, List.map_cons, List.map_nil, List.set_cons_zero, List.set_cons_succ, List.length_cons, List.length_nil, List.cons_append, List.nil_append, List.reduceReplicate, Nat.reduceSub, Nat.reduceAdd, Nat.reduceLT, Nat.reduceLeDiff, Nat.zero_lt_succ, Nat.lt_add_left_iff_pos, Nat.succ_lt_succ_iff, D.int.injEq, D.bl.injEq, D.str.injEq, D.tup.injEq, D.lst.injEq, D.own.injEq, decide_eq_true_eq, Bool.not_eq_true', decide_eq_false_iff_not, if_true, if_false, ite_true, ite_false, Bool.false_eq_true, reduceCtorEq, false_and, exists_false, Option.map_some, Option.map_none, Option.bind_some, Option.getD_some]
  refine ⟨by rw [List.length_map]; exact Nat.le_trans h.l (by decide), Ev.comp_map q.1 iD (fun p => .str (strOfInt p)) rfl rfl (fun p hp => ?_) ?_⟩
  · simp only [iD, (h.s p hp).b, w_var, w_con, w_glob, w_bin, w_neg, w_not, w_and, w_or, w_ifx, w_cmp, w_tup, w_frz, w_own, w_sub, w_slc, w_call, w_callk, w_bi, w_isi, w_me, w_tab, w_ono, w_oyes, w_nil, w_cons, w_tnil, w_tcons, w_disp, w_comp, w_cat, w_rep, w_nslc, w_rev, w_ival, w_irng, w_gname, w_gtup, w_gsub, w_gsnil, w_gscons, w_sexpr, w_asg, w_par, w_ret, w_retN, w_ifs, w_for, w_pass, w_brk, w_cont, w_snil, w_scons, nxt_nx, nxt_rt, nxt_bk, nxt_ct, fin_rt, fin_nx, is_ok, is_no, is_bind, is_guard, is_of, bin_addI, bin_addS, bin_addT, bin_sub, bin_mul, bin_mulT, bin_fdiv, bin_mod, bin_pow, look_int, look_str, look_bl, look_non, look_tup, look_lst, look_sq, items_tup, items_lst, items_sq, list_lst, list_sq, cmp_lt, cmp_le, cmp_gt, cmp_ge, cmp_eq, cmp_ne, eq_int, eq_str, eq_bl, cmp_isN, cmp_isB, cmp_isnot, cmp_inT, cmp_inL, cmp_ninL, sub_tup, sub_lst, sub_sq, atP0, atP1, atP2, atP3, atP4, atP5, len_tup, len_lst, len_sq, len_str, bi_abs, bi_int, bi_strI, bi_strS, bi_tupL, bi_tupT, bi_tupS, bi_max2, bi_min2, bi_all, bi_any, bi_sum, me_join, it_tup, it_lst, it_sq, slc_tup, opt_none, opt_some, cut1, exists_and_left, List.singleton_append, pick, isTupD, typed, isTy, wipeE, Int.reduceEq, Int.reduceLT, Int.reduceSub, Int.reduceNeg, ex_if, ex_some, ex_map, List.any_cons, List.any_nil, Bool.or_false, Bool.false_or, Bool.or_true, Bool.true_or, decide_true, decide_false, List.getElem?_cons_zero, List.getElem?_cons_succ, Option.some.injEq, exists_eq_left', exists_eq_left, exists_eq_right, true_and, and_true, List.map_cons, List.map_nil, List.set_cons_zero, List.set_cons_succ, List.length_cons, List.length_nil, List.cons_append, List.nil_append, List.reduceReplicate, Nat.reduceSub, Nat.reduceAdd, Nat.reduceLT, Nat.reduceLeDiff, Nat.zero_lt_succ, Nat.lt_add_left_iff_pos, Nat.succ_lt_succ_iff, D.int.injEq, D.bl.injEq, D.str.injEq, D.tup.injEq, D.lst.injEq, D.own.injEq, decide_eq_true_eq, Bool.not_eq_true', decide_eq_false_iff_not, if_true, if_false, ite_true, ite_false, Bool.false_eq_true, reduceCtorEq, false_and, exists_false, Option.map_some, Option.map_none, Option.bind_some, Option.getD_some]
  · rw [strsOf_mapf]
    simp only [w_var, w_con, w_glob, w_bin, w_neg, w_not, w_and, w_or, w_ifx, w_cmp, w_tup, w_frz, w_own, w_sub, w_slc, w_call, w_callk, w_bi, w_isi, w_me, w_tab, w_ono, w_oyes, w_nil, w_cons, w_tnil, w_tcons, w_disp, w_comp, w_cat, w_rep, w_nslc, w_rev, w_ival, w_irng, w_gname, w_gtup, w_gsub, w_gsnil, w_gscons, w_sexpr, w_asg, w_par, w_ret, w_retN, w_ifs, w_for, w_pass, w_brk, w_cont, w_snil, w_scons, nxt_nx, nxt_rt, nxt_bk, nxt_ct, fin_rt, fin_nx, is_ok, is_no, is_bind, is_guard, is_of, bin_addI, bin_addS, bin_addT, bin_sub, bin_mul, bin_mulT, bin_fdiv, bin_mod, bin_pow, look_int, look_str, look_bl, look_non, look_tup, look_lst, look_sq, items_tup, items_lst, items_sq, list_lst, list_sq, cmp_lt, cmp_le, cmp_gt, cmp_ge, cmp_eq, cmp_ne, eq_int, eq_str, eq_bl, cmp_isN, cmp_isB, cmp_isnot, cmp_inT, cmp_inL, cmp_ninL, sub_tup, sub_lst, sub_sq, atP0, atP1, atP2, atP3, atP4, atP5, len_tup, len_lst, len_sq, len_str, bi_abs, bi_int, bi_strI, bi_strS, bi_tupL, bi_tupT, bi_tupS, bi_max2, bi_min2, bi_all, bi_any, bi_sum, me_join, it_tup, it_lst, it_sq, slc_tup, opt_none, opt_some, cut1, exists_and_left, List.singleton_append, pick, isTupD, typed, isTy, wipeE, Int.reduceEq, Int.reduceLT, Int.reduceSub, Int.reduceNeg, ex_if, ex_some, ex_map, List.any_cons, List.any_nil, Bool.or_false, Bool.false_or, Bool.or_true, Bool.true_or, decide_true, decide_false, List.getElem?_cons_zero, List.getElem?_cons_succ, Option.some.injEq, exists_eq_left', exists_eq_left, exists_eq_right, true_and, and_true, List.map_cons, List.map_nil, List.set_cons_zero, List.set_cons_succ, List.length_cons, List.length_nil, List.cons_append, List.nil_append, List.reduceReplicate, Nat.reduceSub, Nat.reduceAdd, Nat.reduceLT, Nat.reduceLeDiff, Nat.zero_lt_succ, Nat.lt_add_left_iff_pos, Nat.succ_lt_succ_iff, D.int.injEq, D.bl.injEq, D.str.injEq, D.tup.injEq, D.lst.injEq, D.own.injEq, decide_eq_true_eq, Bool.not_eq_true', decide_eq_false_iff_not, if_true, if_false, ite_true, ite_false, Bool.false_eq_true, reduceCtorEq, false_and, exists_false, Option.map_some, Option.map_none, Option.bind_some, Option.getD_some]
    refine ⟨join_guard (m := 12) (b := 302) (c := 1) (fun x hx => ?_) (by rw [List.length_map]; exact h.l) (Nat.le_refl _) (by decide), ?_⟩
    · obtain ⟨p, hp, rfl⟩ := List.mem_map.mp hx
      exact (h.s p hp).l
    · have e : (" " : Str).join (q.1.map strOfInt) = sSides q.1 := rfl
      rw [finish_same (low_str _ _), is_ok, e]
      simp only [len_app, LIM]
      exact ⟨by omega, by omega, by trivial, by trivial⟩
structure SmB (b : Int × List (List Int × Int)) : Prop where
  d : Sm b.1
  q : ∀ q ∈ b.2, SmQ q
  l : b.2.length ≤ 20
def bD (b : Int × List (List Int × Int)) : D := .tup [.int b.1, .tup (b.2.map qD)]
def sBook (b : Int × List (List Int × Int)) : Str := Str.join "\n" (("book " ++ strOfInt b.1) :: b.2.map sQ)
theorem book_guard {b : Int × List (List Int × Int)} (h : SmB b) : ((("book " ++ strOfInt b.1) :: b.2.map sQ).map strLen).sum + (("book " ++ strOfInt b.1) :: b.2.map sQ).length * ("\n" : Str).length ≤ LIM := by
  refine join_guard (m := 21) (b := 4000) (c := 1) (fun x hx => ?_) ?_ (Nat.le_refl _) (by decide)
  · rcases List.mem_cons.mp hx with rfl | hx
    · have h2 := h.d.l
      have h3 : ("book " : Str).length = 5 := rfl
      rw [len_app]
      omega
    · obtain ⟨q, hq, rfl⟩ := List.mem_map.mp hx
      exact sQ_len (h.q q hq)
  · rw [List.length_cons, List.length_map]
    have := h.l
    omega
theorem show_book {b : Int × List (List Int × Int)} (h : SmB b) : callF tab G wf (n + 3) 6 [bD b] S = .ok (.str (sBook b)) S := by
  have h2 := h.d.l
  have h3 : ("book " : Str).length = 5 := rfl
  refine R.eq_of ?_
  rw [w_fn at6 rfl]
  simp only [f6, bD, h.d.b, w_var, w_con, w_glob, w_bin, w_neg, w_not, w_and, w_or, w_ifx, w_cmp, w_tup, w_frz, w_own, w_sub, w_slc, w_call, w_callk, w_bi, w_isi, w_me, w_tab, w_ono, w_oyes, w_nil, w_cons, w_tnil, w_tcons, w_disp, w_comp, w_cat, w_rep, w_nslc, w_rev, w_ival, w_irng, w_gname, w_gtup, w_gsub, w_gsnil, w_gscons, w_sexpr, w_asg, w_par, w_ret, w_retN, w_ifs, w_for, w_pass, w_brk, w_cont, w_snil, w_scons, nxt_nx, nxt_rt, nxt_bk, nxt_ct, fin_rt, fin_nx, is_ok, is_no, is_bind, is_guard, is_of, bin_addI, bin_addS, bin_addT, bin_sub, bin_mul, bin_mulT, bin_fdiv, bin_mod, bin_pow, look_int, look_str, look_bl, look_non, look_tup, look_lst, look_sq, items_tup, items_lst, items_sq, list_lst, list_sq, cmp_lt, cmp_le, cmp_gt, cmp_ge, cmp_eq, cmp_ne, eq_int, eq_str, eq_bl, cmp_isN, cmp_isB, cmp_isnot, cmp_inT, cmp_inL, cmp_ninL, sub_tup, sub_lst, sub_sq, atP0, atP1, atP2, atP3, atP4, atP5, len_tup, len_lst, len_sq, len_str, bi_abs, bi_int, bi_strI, bi_strS, bi_tupL, bi_tupT, bi_tupS, bi_max2, bi_min2, bi_all, bi_any, bi_sum, me_join, it_tup, it_lst, it_sq, slc_tup, opt_none, opt_some, cut1, exists_and_left, List.singleton_append, pick, isTupD, typed, isTy, wipeE, Int.reduceEq, Int.reduceLT, Int.reduceSub, Int.reduceNeg, ex_if, ex_some, ex_map, List.any_cons, List.any_nil, Bool.or_false, Bool.false_or, Bool.or_true, Bool.true_or, decide_true, decide_false, List.getElem?_cons_zero, List.getElem?_cons_succ, Option.some.injEq, exists_eq_left', exists_eq_left, exists_eq_right, true_and, and_true, List.map_cons, List.map_nil, List.set_cons_zero, List.set_cons_succ, List.length_cons, List.length_nil, List.cons_append, List.nil_append, List.reduceReplicate, Nat.reduceSub, Nat.reduceAdd, Nat.reduceLT, Nat.reduceLeDiff, Nat.zero_lt_succ, Nat.lt_add_left_iff_pos, Nat.succ_lt_succ_iff, D.int.injEq, D.bl.injEq, D.str.injEq, D.tup.injEq, D.lst.injEq, D.own.injEq, decide_eq_true_eq, Bool.not_eq_true', decide_eq_false_iff_not, if_true, if_false, ite_true, ite_false, Bool.false_eq_true, reduceCtorEq, false_and, exists_false, Option.map_some, Option.map_none, Option.bind_some, Option.getD_some]
  refine ⟨by unfold LIM; omega, by decide, by rw [List.length_map]; exact Nat.le_trans h.l (by decide), Ev.comp_map b.2 qD (fun p => .str (sQ p)) rfl rfl (fun p hp => ?_) ?_⟩
  · simp only [show_question (h.q p hp), w_var, w_con, w_glob, w_bin, w_neg, w_not, w_and, w_or, w_ifx, w_cmp, w_tup, w_frz, w_own, w_sub, w_slc, w_call, w_callk, w_bi, w_isi, w_me, w_tab, w_ono, w_oyes, w_nil, w_cons, w_tnil, w_tcons, w_disp, w_comp, w_cat, w_rep, w_nslc, w_rev, w_ival, w_irng, w_gname, w_gtup, w_gsub, w_gsnil, w_gscons, w_sexpr, w_asg, w_par, w_ret, w_retN, w_ifs, w_for, w_pass, w_brk, w_cont, w_snil, w_scons, nxt_nx, nxt_rt, nxt_bk, nxt_ct, fin_rt, fin_nx, is_ok, is_no, is_bind, is_guard, is_of, bin_addI, bin_addS, bin_addT, bin_sub, bin_mul, bin_mulT, bin_fdiv, bin_mod, bin_pow, look_int, look_str, look_bl, look_non, look_tup, look_lst, look_sq, items_tup, items_lst, items_sq, list_lst, list_sq, cmp_lt, cmp_le, cmp_gt, cmp_ge, cmp_eq, cmp_ne, eq_int, eq_str, eq_bl, cmp_isN, cmp_isB, cmp_isnot, cmp_inT, cmp_inL, cmp_ninL, sub_tup, sub_lst, sub_sq, atP0, atP1, atP2, atP3, atP4, atP5, len_tup, len_lst, len_sq, len_str, bi_abs, bi_int, bi_strI, bi_strS, bi_tupL, bi_tupT, bi_tupS, bi_max2, bi_min2, bi_all, bi_any, bi_sum, me_join, it_tup, it_lst, it_sq, slc_tup, opt_none, opt_some, cut1, exists_and_left, List.singleton_append, pick, isTupD, typed, isTy, wipeE, Int.reduceEq, Int.reduceLT, Int.reduceSub, Int.reduceNeg, ex_if, ex_some, ex_map, List.any_cons, List.any_nil, Bool.or_false, Bool.false_or, Bool.or_true, Bool.true_or, decide_true, decide_false, List.getElem?_cons_zero, List.getElem?_cons_succ, Option.some.injEq, exists_eq_left', exists_eq_left, exists_eq_right, true_and, and_true, List.map_cons, List.map_nil, List.set_cons_zero, List.set_cons_succ, List.length_cons, List.length_nil, List.cons_append, List.nil_append, List.reduceReplicate, Nat.reduceSub, Nat.reduceAdd, Nat.reduceLT, Nat.reduceLeDiff, Nat.zero_lt_succ, Nat.lt_add_left_iff_pos, Nat.succ_lt_succ_iff, D.int.injEq, D.bl.injEq, D.str.injEq, D.tup.injEq, D.lst.injEq, D.own.injEq, decide_eq_true_eq, Bool.not_eq_true', decide_eq_false_iff_not, if_true, if_false, ite_true, ite_false, Bool.false_eq_true, reduceCtorEq, false_and, exists_false, Option.map_some, Option.map_none, Option.bind_some, Option.getD_some]
  · refine ⟨by rw [List.length_map]; exact Nat.le_trans (Nat.add_le_add_left h.l 1) (by decide), ?_⟩
    simp only [strsOf, strsOf_mapf, Option.map_some]
    simp only [finish_same (low_str _ _), w_var, w_con, w_glob, w_bin, w_neg, w_not, w_and, w_or, w_ifx, w_cmp, w_tup, w_frz, w_own, w_sub, w_slc, w_call, w_callk, w_bi, w_isi, w_me, w_tab, w_ono, w_oyes, w_nil, w_cons, w_tnil, w_tcons, w_disp, w_comp, w_cat, w_rep, w_nslc, w_rev, w_ival, w_irng, w_gname, w_gtup, w_gsub, w_gsnil, w_gscons, w_sexpr, w_asg, w_par, w_ret, w_retN, w_ifs, w_for, w_pass, w_brk, w_cont, w_snil, w_scons, nxt_nx, nxt_rt, nxt_bk, nxt_ct, fin_rt, fin_nx, is_ok, is_no, is_bind, is_guard, is_of, bin_addI, bin_addS, bin_addT, bin_sub, bin_mul, bin_mulT, bin_fdiv, bin_mod, bin_pow, look_int, look_str, look_bl, look_non, look_tup, look_lst, look_sq, items_tup, items_lst, items_sq, list_lst, list_sq, cmp_lt, cmp_le, cmp_gt, cmp_ge, cmp_eq, cmp_ne, eq_int, eq_str, eq_bl, cmp_isN, cmp_isB, cmp_isnot, cmp_inT, cmp_inL, cmp_ninL, sub_tup, sub_lst, sub_sq, atP0, atP1, atP2, atP3, atP4, atP5, len_tup, len_lst, len_sq, len_str, bi_abs, bi_int, bi_strI, bi_strS, bi_tupL, bi_tupT, bi_tupS, bi_max2, bi_min2, bi_all, bi_any, bi_sum, me_join, it_tup, it_lst, it_sq, slc_tup, opt_none, opt_some, cut1, exists_and_left, List.singleton_append, pick, isTupD, typed, isTy, wipeE, Int.reduceEq, Int.reduceLT, Int.reduceSub, Int.reduceNeg, ex_if, ex_some, ex_map, List.any_cons, List.any_nil, Bool.or_false, Bool.false_or, Bool.or_true, Bool.true_or, decide_true, decide_false, List.getElem?_cons_zero, List.getElem?_cons_succ, Option.some.injEq, exists_eq_left', exists_eq_left, exists_eq_right, true_and, and_true, List.map_cons, List.map_nil, List.set_cons_zero, List.set_cons_succ, List.length_cons, List.length_nil, List.cons_append, List.nil_append, List.reduceReplicate, Nat.reduceSub, Nat.reduceAdd, Nat.reduceLT, Nat.reduceLeDiff, Nat.zero_lt_succ, Nat.lt_add_left_iff_pos, Nat.succ_lt_succ_iff, D.int.injEq, D.bl.injEq, D.str.injEq, D.tup.injEq, D.lst.injEq, D.own.injEq, decide_eq_true_eq, Bool.not_eq_true', decide_eq_false_iff_not, if_true, if_false, ite_true, ite_false, Bool.false_eq_true, reduceCtorEq, false_and, exists_false, Option.map_some, Option.map_none, Option.bind_some, Option.getD_some]
    exact ⟨book_guard h, by trivial⟩
theorem said_book {b : Int × List (List Int × Int)} (h : SmB b) : callF tab G wf (n + 2) 26 [bD b] S = .ok (.str (sBook b)) S := by
  have h2 := h.d.l
  have h3 : ("book " : Str).length = 5 := rfl
  refine R.eq_of ?_
  rw [w_fn at26 rfl]
  simp only [f26, bD, h.d.b, w_var, w_con, w_glob, w_bin, w_neg, w_not, w_and, w_or, w_ifx, w_cmp, w_tup, w_frz, w_own, w_sub, w_slc, w_call, w_callk, w_bi, w_isi, w_me, w_tab, w_ono, w_oyes, w_nil, w_cons, w_tnil, w_tcons, w_disp, w_comp, w_cat, w_rep, w_nslc, w_rev, w_ival, w_irng, w_gname, w_gtup, w_gsub, w_gsnil, w_gscons, w_sexpr, w_asg, w_par, w_ret, w_retN, w_ifs, w_for, w_pass, w_brk, w_cont, w_snil, w_scons, nxt_nx, nxt_rt, nxt_bk, nxt_ct, fin_rt, fin_nx, is_ok, is_no, is_bind, is_guard, is_of, bin_addI, bin_addS, bin_addT, bin_sub, bin_mul, bin_mulT, bin_fdiv, bin_mod, bin_pow, look_int, look_str, look_bl, look_non, look_tup, look_lst, look_sq, items_tup, items_lst, items_sq, list_lst, list_sq, cmp_lt, cmp_le, cmp_gt, cmp_ge, cmp_eq, cmp_ne, eq_int, eq_str, eq_bl, cmp_isN, cmp_isB, cmp_isnot, cmp_inT, cmp_inL, cmp_ninL, sub_tup, sub_lst, sub_sq, atP0, atP1, atP2, atP3, atP4, atP5, len_tup, len_lst, len_sq, len_str, bi_abs, bi_int, bi_strI, bi_strS, bi_tupL, bi_tupT, bi_tupS, bi_max2, bi_min2, bi_all, bi_any, bi_sum, me_join, it_tup, it_lst, it_sq, slc_tup, opt_none, opt_some, cut1, exists_and_left, List.singleton_append, pick, isTupD, typed, isTy, wipeE, Int.reduceEq, Int.reduceLT, Int.reduceSub, Int.reduceNeg, ex_if, ex_some, ex_map, List.any_cons, List.any_nil, Bool.or_false, Bool.false_or, Bool.or_true, Bool.true_or, decide_true, decide_false, List.getElem?_cons_zero, List.getElem?_cons_succ, Option.some.injEq, exists_eq_left', exists_eq_left, exists_eq_right, true_and, and_true, List.map_cons, List.map_nil, List.set_cons_zero, List.set_cons_succ, List.length_cons, List.length_nil, List.cons_append, List.nil_append, List.reduceReplicate, Nat.reduceSub, Nat.reduceAdd, Nat.reduceLT, Nat.reduceLeDiff, Nat.zero_lt_succ, Nat.lt_add_left_iff_pos, Nat.succ_lt_succ_iff, D.int.injEq, D.bl.injEq, D.str.injEq, D.tup.injEq, D.lst.injEq, D.own.injEq, decide_eq_true_eq, Bool.not_eq_true', decide_eq_false_iff_not, if_true, if_false, ite_true, ite_false, Bool.false_eq_true, reduceCtorEq, false_and, exists_false, Option.map_some, Option.map_none, Option.bind_some, Option.getD_some]
  refine ⟨by unfold LIM; omega, by decide, by rw [List.length_map]; exact Nat.le_trans h.l (by decide), Ev.comp_map b.2 qD (fun p => .str (sQ p)) rfl rfl (fun p hp => ?_) ?_⟩
  · simp only [said_question (h.q p hp), w_var, w_con, w_glob, w_bin, w_neg, w_not, w_and, w_or, w_ifx, w_cmp, w_tup, w_frz, w_own, w_sub, w_slc, w_call, w_callk, w_bi, w_isi, w_me, w_tab, w_ono, w_oyes, w_nil, w_cons, w_tnil, w_tcons, w_disp, w_comp, w_cat, w_rep, w_nslc, w_rev, w_ival, w_irng, w_gname, w_gtup, w_gsub, w_gsnil, w_gscons, w_sexpr, w_asg, w_par, w_ret, w_retN, w_ifs, w_for, w_pass, w_brk, w_cont, w_snil, w_scons, nxt_nx, nxt_rt, nxt_bk, nxt_ct, fin_rt, fin_nx, is_ok, is_no, is_bind, is_guard, is_of, bin_addI, bin_addS, bin_addT, bin_sub, bin_mul, bin_mulT, bin_fdiv, bin_mod, bin_pow, look_int, look_str, look_bl, look_non, look_tup, look_lst, look_sq, items_tup, items_lst, items_sq, list_lst, list_sq, cmp_lt, cmp_le, cmp_gt, cmp_ge, cmp_eq, cmp_ne, eq_int, eq_str, eq_bl, cmp_isN, cmp_isB, cmp_isnot, cmp_inT, cmp_inL, cmp_ninL, sub_tup, sub_lst, sub_sq, atP0, atP1, atP2, atP3, atP4, atP5, len_tup, len_lst, len_sq, len_str, bi_abs, bi_int, bi_strI, bi_strS, bi_tupL, bi_tupT, bi_tupS, bi_max2, bi_min2, bi_all, bi_any, bi_sum, me_join, it_tup, it_lst, it_sq, slc_tup, opt_none, opt_some, cut1, exists_and_left, List.singleton_append, pick, isTupD, typed, isTy, wipeE, Int.reduceEq, Int.reduceLT, Int.reduceSub, Int.reduceNeg, ex_if, ex_some, ex_map, List.any_cons, List.any_nil, Bool.or_false, Bool.false_or, Bool.or_true, Bool.true_or, decide_true, decide_false, List.getElem?_cons_zero, List.getElem?_cons_succ, Option.some.injEq, exists_eq_left', exists_eq_left, exists_eq_right, true_and, and_true, List.map_cons, List.map_nil, List.set_cons_zero, List.set_cons_succ, List.length_cons, List.length_nil, List.cons_append, List.nil_append, List.reduceReplicate, Nat.reduceSub, Nat.reduceAdd, Nat.reduceLT, Nat.reduceLeDiff, Nat.zero_lt_succ, Nat.lt_add_left_iff_pos, Nat.succ_lt_succ_iff, D.int.injEq, D.bl.injEq, D.str.injEq, D.tup.injEq, D.lst.injEq, D.own.injEq, decide_eq_true_eq, Bool.not_eq_true', decide_eq_false_iff_not, if_true, if_false, ite_true, ite_false, Bool.false_eq_true, reduceCtorEq, false_and, exists_false, Option.map_some, Option.map_none, Option.bind_some, Option.getD_some]
  · refine ⟨by rw [List.length_map]; exact Nat.le_trans (Nat.add_le_add_left h.l 1) (by decide), ?_⟩
    simp only [strsOf, strsOf_mapf, Option.map_some]
    simp only [finish_same (low_str _ _), w_var, w_con, w_glob, w_bin, w_neg, w_not, w_and, w_or, w_ifx, w_cmp, w_tup, w_frz, w_own, w_sub, w_slc, w_call, w_callk, w_bi, w_isi, w_me, w_tab, w_ono, w_oyes, w_nil, w_cons, w_tnil, w_tcons, w_disp, w_comp, w_cat, w_rep, w_nslc, w_rev, w_ival, w_irng, w_gname, w_gtup, w_gsub, w_gsnil, w_gscons, w_sexpr, w_asg, w_par, w_ret, w_retN, w_ifs, w_for, w_pass, w_brk, w_cont, w_snil, w_scons, nxt_nx, nxt_rt, nxt_bk, nxt_ct, fin_rt, fin_nx, is_ok, is_no, is_bind, is_guard, is_of, bin_addI, bin_addS, bin_addT, bin_sub, bin_mul, bin_mulT, bin_fdiv, bin_mod, bin_pow, look_int, look_str, look_bl, look_non, look_tup, look_lst, look_sq, items_tup, items_lst, items_sq, list_lst, list_sq, cmp_lt, cmp_le, cmp_gt, cmp_ge, cmp_eq, cmp_ne, eq_int, eq_str, eq_bl, cmp_isN, cmp_isB, cmp_isnot, cmp_inT, cmp_inL, cmp_ninL, sub_tup, sub_lst, sub_sq, atP0, atP1, atP2, atP3, atP4, atP5, len_tup, len_lst, len_sq, len_str, bi_abs, bi_int, bi_strI, bi_strS, bi_tupL, bi_tupT, bi_tupS, bi_max2, bi_min2, bi_all, bi_any, bi_sum, me_join, it_tup, it_lst, it_sq, slc_tup, opt_none, opt_some, cut1, exists_and_left, List.singleton_append, pick, isTupD, typed, isTy, wipeE, Int.reduceEq, Int.reduceLT, Int.reduceSub, Int.reduceNeg, ex_if, ex_some, ex_map, List.any_cons, List.any_nil, Bool.or_false, Bool.false_or, Bool.or_true, Bool.true_or, decide_true, decide_false, List.getElem?_cons_zero, List.getElem?_cons_succ, Option.some.injEq, exists_eq_left', exists_eq_left, exists_eq_right, true_and, and_true, List.map_cons, List.map_nil, List.set_cons_zero, List.set_cons_succ, List.length_cons, List.length_nil, List.cons_append, List.nil_append, List.reduceReplicate, Nat.reduceSub, Nat.reduceAdd, Nat.reduceLT, Nat.reduceLeDiff, Nat.zero_lt_succ, Nat.lt_add_left_iff_pos, Nat.succ_lt_succ_iff, D.int.injEq, D.bl.injEq, D.str.injEq, D.tup.injEq, D.lst.injEq, D.own.injEq, decide_eq_true_eq, Bool.not_eq_true', decide_eq_false_iff_not, if_true, if_false, ite_true, ite_false, Bool.false_eq_true, reduceCtorEq, false_and, exists_false, Option.map_some, Option.map_none, Option.bind_some, Option.getD_some]
    exact ⟨book_guard h, by trivial⟩
/-! ### wishes -/
def wD : Option Int → D
  | some i => .int i
  | none => .non
def sSign (w : Option Int) : Str := match w with
  | some i => if i = -1 then "-" else if i = 0 then "0" else "+"
  | none => "?"
def Sign (w : Option Int) : Prop := w = none ∨ w = some (-1) ∨ w = some 0 ∨ w = some 1
theorem sign_tab {w : Option Int} (h : Sign w) : tabGet [.int (-1), .int 0, .int 1, .non] [.str "-", .str "0", .str "+", .str "?"] (wD w) = some (.str (sSign w)) := by
  rcases h with rfl | rfl | rfl | rfl <;> rfl
def sWish (ws : List (Option Int)) : Str := if ws = [] then "." else Str.join "" (ws.map sSign)
theorem sign_len {w : Option Int} (h : Sign w) : (sSign w).length ≤ 1 := by
  rcases h with rfl | rfl | rfl | rfl <;> decide
theorem wish_guard {ws : List (Option Int)} (h : ∀ w ∈ ws, Sign w) (hl : ws.length ≤ 20) : ((ws.map sSign).map strLen).sum + (ws.map sSign).length * ("" : Str).length ≤ LIM := by
  refine join_guard (m := 20) (b := 1) (c := 0) (fun x hx => ?_) (by rw [List.length_map]; exact hl) (Nat.le_refl _) (by decide)
  obtain ⟨w, hw, rfl⟩ := List.mem_map.mp hx
  exact sign_len (h w hw)
theorem show_wish {ws : List (Option Int)} (h : ∀ w ∈ ws, Sign w) (hl : ws.length ≤ 20) : callF tab G wf (n + 1) 3 [.tup (ws.map wD)] S = .ok (.str (sWish ws)) S := by
  refine R.eq_of ?_
  rw [w_fn at3 rfl]
  simp only [f3, w_var, w_con, w_glob, w_bin, w_neg, w_not, w_and, w_or, w_ifx, w_cmp, w_tup, w_frz, w_own, w_sub, w_slc, w_call, w_callk, w_bi, w_isi, w_me, w_tab, w_ono, w_oyes, w_nil, w_cons, w_tnil, w_tcons, w_disp, w_comp, w_cat, w_rep, w_nslc, w_rev, w_ival, w_irng, w_gname, w_gtup, w_gsub, w_gsnil, w_gscons, w_sexpr, w_asg, w_par, w_ret, w_retN, w_ifs, w_for, w_pass, w_brk, w_cont, w_snil, w_scons, nxt_nx, nxt_rt, nxt_bk, nxt_ct, fin_rt, fin_nx, is_ok, is_no, is_bind, is_guard, is_of, bin_addI, bin_addS, bin_addT, bin_sub, bin_mul, bin_mulT, bin_fdiv, bin_mod, bin_pow, look_int, look_str, look_bl, look_non, look_tup, look_lst, look_sq, items_tup, items_lst, items_sq, list_lst, list_sq, cmp_lt, cmp_le, cmp_gt, cmp_ge, cmp_eq, cmp_ne, eq_int, eq_str, eq_bl, cmp_isN, cmp_isB, cmp_isnot, cmp_inT, cmp_inL, cmp_ninL, sub_tup, sub_lst, sub_sq, atP0, atP1, atP2, atP3, atP4, atP5, len_tup, len_lst, len_sq, len_str, bi_abs, bi_int, bi_strI, bi_strS, bi_tupL, bi_tupT, bi_tupS, bi_max2, bi_min2, bi_all, bi_any, bi_sum, me_join, it_tup, it_lst, it_sq, slc_tup, opt_none, opt_some, cut1, exists_and_left, List.singleton_append, pick, isTupD, typed, isTy, wipeE, Int.reduceEq, Int.reduceLT, Int.reduceSub, Int.reduceNeg, ex_if, ex_some, ex_map, List.any_cons, List.any_nil, Bool.or_false, Bool.false_or, Bool.or_true, Bool.true_or, decide_true, decide_false, List.getElem?_cons_zero, List.getElem?_cons_succ, Option.some.injEq, exists_eq_left', exists_eq_left, exists_eq_right, true_and, and_true, List.map_cons, List.map_nil, List.set_cons_zero, List.set_cons_succ, List.length_cons, List.length_nil, List.cons_append, List.nil_append, List.reduceReplicate, Nat.reduceSub, Nat.reduceAdd, Nat.reduceLT, Nat.reduceLeDiff, Nat.zero_lt_succ, Nat.lt_add_left_iff_pos, Nat.succ_lt_succ_iff, D.int.injEq, D.bl.injEq, D.str.injEq, D.tup.injEq, D.lst.injEq, D.own.injEq, decide_eq_true_eq, Bool.not_eq_true', decide_eq_false_iff_not, if_true, if_false, ite_true, ite_false, Bool.false_eq_true, reduceCtorEq, false_and, exists_false, Option.map_some, Option.map_none, Option.bind_some, Option.getD_some]
  rw [List.length_map]
  split
  · rename_i hp
    refine ⟨Nat.le_trans hl (by decide), Ev.comp_map ws wD (fun p => .str (sSign p)) rfl rfl (fun p hp => ?_) ?_⟩
    · simp only [sign_tab (h p hp), w_var, w_con, w_glob, w_bin, w_neg, w_not, w_and, w_or, w_ifx, w_cmp, w_tup, w_frz, w_own, w_sub, w_slc, w_call, w_callk, w_bi, w_isi, w_me, w_tab, w_ono, w_oyes, w_nil, w_cons, w_tnil, w_tcons, w_disp, w_comp, w_cat, w_rep, w_nslc, w_rev, w_ival, w_irng, w_gname, w_gtup, w_gsub, w_gsnil, w_gscons, w_sexpr, w_asg, w_par, w_ret, w_retN, w_ifs, w_for, w_pass, w_brk, w_cont, w_snil, w_scons, nxt_nx, nxt_rt, nxt_bk, nxt_ct, fin_rt, fin_nx, is_ok, is_no, is_bind, is_guard, is_of, bin_addI, bin_addS, bin_addT, bin_sub, bin_mul, bin_mulT, bin_fdiv, bin_mod, bin_pow, look_int, look_str, look_bl, look_non, look_tup, look_lst, look_sq, items_tup, items_lst, items_sq, list_lst, list_sq, cmp_lt, cmp_le, cmp_gt, cmp_ge, cmp_eq, cmp_ne, eq_int, eq_str, eq_bl, cmp_isN, cmp_isB, cmp_isnot, cmp_inT, cmp_inL, cmp_ninL, sub_tup, sub_lst, sub_sq, atP0, atP1, atP2, atP3, atP4, atP5, len_tup, len_lst, len_sq, len_str, bi_abs, bi_int, bi_strI, bi_strS, bi_tupL, bi_tupT, bi_tupS, bi_max2, bi_min2, bi_all, bi_any, bi_sum, me_join, it_tup, it_lst, it_sq, slc_tup, opt_none, opt_some, cut1, exists_and_left, List.singleton_append, pick, isTupD, typed, isTy, wipeE, Int.reduceEq, Int.reduceLT, Int.reduceSub, Int.reduceNeg, ex_if, ex_some, ex_map, List.any_cons, List.any_nil, Bool.or_false, Bool.false_or, Bool.or_true, Bool.true_or, decide_true, decide_false, List.getElem?_cons_zero, List.getElem?_cons_succ, Option.some.injEq, exists_eq_left', exists_eq_left, exists_eq_right, true_and, and_true, List.map_cons, List.map_nil, List.set_cons_zero, List.set_cons_succ, List.length_cons, List.length_nil, List.cons_append, List.nil_append, List.reduceReplicate, Nat.reduceSub, Nat.reduceAdd, Nat.reduceLT, Nat.reduceLeDiff, Nat.zero_lt_succ, Nat.lt_add_left_iff_pos, Nat.succ_lt_succ_iff, D.int.injEq, D.bl.injEq, D.str.injEq, D.tup.injEq, D.lst.injEq, D.own.injEq, decide_eq_true_eq, Bool.not_eq_true', decide_eq_false_iff_not, if_true, if_false, ite_true, ite_false, Bool.false_eq_true, reduceCtorEq, false_and, exists_false, Option.map_some, Option.map_none, Option.bind_some, Option.getD_some]
    · rw [strsOf_mapf]
      have hs : sWish ws = Str.join "" (ws.map sSign) := by
        unfold sWish
        rw [if_neg]
        intro z
        rw [z] at hp
        exact absurd hp (by decide)
      simp only [finish_same (low_str _ _), hs, w_var, w_con, w_glob, w_bin, w_neg, w_not, w_and, w_or, w_ifx, w_cmp, w_tup, w_frz, w_own, w_sub, w_slc, w_call, w_callk, w_bi, w_isi, w_me, w_tab, w_ono, w_oyes, w_nil, w_cons, w_tnil, w_tcons, w_disp, w_comp, w_cat, w_rep, w_nslc, w_rev, w_ival, w_irng, w_gname, w_gtup, w_gsub, w_gsnil, w_gscons, w_sexpr, w_asg, w_par, w_ret, w_retN, w_ifs, w_for, w_pass, w_brk, w_cont, w_snil, w_scons, nxt_nx, nxt_rt, nxt_bk, nxt_ct, fin_rt, fin_nx, is_ok, is_no, is_bind, is_guard, is_of, bin_addI, bin_addS, bin_addT, bin_sub, bin_mul, bin_mulT, bin_fdiv, bin_mod, bin_pow, look_int, look_str, look_bl, look_non, look_tup, look_lst, look_sq, items_tup, items_lst, items_sq, list_lst, list_sq, cmp_lt, cmp_le, cmp_gt, cmp_ge, cmp_eq, cmp_ne, eq_int, eq_str, eq_bl, cmp_isN, cmp_isB, cmp_isnot, cmp_inT, cmp_inL, cmp_ninL, sub_tup, sub_lst, sub_sq, atP0, atP1, atP2, atP3, atP4, atP5, len_tup, len_lst, len_sq, len_str, bi_abs, bi_int, bi_strI, bi_strS, bi_tupL, bi_tupT, bi_tupS, bi_max2, bi_min2, bi_all, bi_any, bi_sum, me_join, it_tup, it_lst, it_sq, slc_tup, opt_none, opt_some, cut1, exists_and_left, List.singleton_append, pick, isTupD, typed, isTy, wipeE, Int.reduceEq, Int.reduceLT, Int.reduceSub, Int.reduceNeg, ex_if, ex_some, ex_map, List.any_cons, List.any_nil, Bool.or_false, Bool.false_or, Bool.or_true, Bool.true_or, decide_true, decide_false, List.getElem?_cons_zero, List.getElem?_cons_succ, Option.some.injEq, exists_eq_left', exists_eq_left, exists_eq_right, true_and, and_true, List.map_cons, List.map_nil, List.set_cons_zero, List.set_cons_succ, List.length_cons, List.length_nil, List.cons_append, List.nil_append, List.reduceReplicate, Nat.reduceSub, Nat.reduceAdd, Nat.reduceLT, Nat.reduceLeDiff, Nat.zero_lt_succ, Nat.lt_add_left_iff_pos, Nat.succ_lt_succ_iff, D.int.injEq, D.bl.injEq, D.str.injEq, D.tup.injEq, D.lst.injEq, D.own.injEq, decide_eq_true_eq, Bool.not_eq_true', decide_eq_false_iff_not, if_true, if_false, ite_true, ite_false, Bool.false_eq_true, reduceCtorEq, false_and, exists_false, Option.map_some, Option.map_none, Option.bind_some, Option.getD_some]
      exact wish_guard h hl
  · rename_i hp
    have e : ws = [] := List.length_eq_zero_iff.mp (by omega)
    subst e
    refine ⟨_, rfl, ?_⟩
    rw [finish_same (low_str _ _), is_ok]
    exact ⟨rfl, rfl⟩
theorem show_row {ws : List (Option Int)} (h : ∀ w ∈ ws, Sign w) (hl : ws.length ≤ 20) : callF tab G wf (n + 2) 2 [.tup (ws.map wD)] S = .ok (.str (sWish ws)) S := by
  refine R.eq_of ?_
  rw [w_fn at2 rfl]
  simp only [f2, show_wish h hl, finish_same (low_str _ _), w_var, w_con, w_glob, w_bin, w_neg, w_not, w_and, w_or, w_ifx, w_cmp, w_tup, w_frz, w_own, w_sub, w_slc, w_call, w_callk, w_bi, w_isi, w_me, w_tab, w_ono, w_oyes, w_nil, w_cons, w_tnil, w_tcons, w_disp, w_comp, w_cat, w_rep, w_nslc, w_rev, w_ival, w_irng, w_gname, w_gtup, w_gsub, w_gsnil, w_gscons, w_sexpr, w_asg, w_par, w_ret, w_retN, w_ifs, w_for, w_pass, w_brk, w_cont, w_snil, w_scons, nxt_nx, nxt_rt, nxt_bk, nxt_ct, fin_rt, fin_nx, is_ok, is_no, is_bind, is_guard, is_of, bin_addI, bin_addS, bin_addT, bin_sub, bin_mul, bin_mulT, bin_fdiv, bin_mod, bin_pow, look_int, look_str, look_bl, look_non, look_tup, look_lst, look_sq, items_tup, items_lst, items_sq, list_lst, list_sq, cmp_lt, cmp_le, cmp_gt, cmp_ge, cmp_eq, cmp_ne, eq_int, eq_str, eq_bl, cmp_isN, cmp_isB, cmp_isnot, cmp_inT, cmp_inL, cmp_ninL, sub_tup, sub_lst, sub_sq, atP0, atP1, atP2, atP3, atP4, atP5, len_tup, len_lst, len_sq, len_str, bi_abs, bi_int, bi_strI, bi_strS, bi_tupL, bi_tupT, bi_tupS, bi_max2, bi_min2, bi_all, bi_any, bi_sum, me_join, it_tup, it_lst, it_sq, slc_tup, opt_none, opt_some, cut1, exists_and_left, List.singleton_append, pick, isTupD, typed, isTy, wipeE, Int.reduceEq, Int.reduceLT, Int.reduceSub, Int.reduceNeg, ex_if, ex_some, ex_map, List.any_cons, List.any_nil, Bool.or_false, Bool.false_or, Bool.or_true, Bool.true_or, decide_true, decide_false, List.getElem?_cons_zero, List.getElem?_cons_succ, Option.some.injEq, exists_eq_left', exists_eq_left, exists_eq_right, true_and, and_true, List.map_cons, List.map_nil, List.set_cons_zero, List.set_cons_succ, List.length_cons, List.length_nil, List.cons_append, List.nil_append, List.reduceReplicate, Nat.reduceSub, Nat.reduceAdd, Nat.reduceLT, Nat.reduceLeDiff, Nat.zero_lt_succ, Nat.lt_add_left_iff_pos, Nat.succ_lt_succ_iff, D.int.injEq, D.bl.injEq, D.str.injEq, D.tup.injEq, D.lst.injEq, D.own.injEq, decide_eq_true_eq, Bool.not_eq_true', decide_eq_false_iff_not, if_true, if_false, ite_true, ite_false, Bool.false_eq_true, reduceCtorEq, false_and, exists_false, Option.map_some, Option.map_none, Option.bind_some, Option.getD_some]
theorem wD_ok {w : Option Int} (k : Nat) : D.okE k (wD w) = true := by cases w <;> cases k <;> rfl
theorem said_wish {ws : List (Option Int)} (h : ∀ w ∈ ws, Sign w) (hl : ws.length ≤ 20) : callF tab G wf (n + 1) 24 [.tup (ws.map wD)] S = .ok (.str (sWish ws)) S := by
  have hok : D.okE DEEP (.tup (ws.map wD)) = true := okEL_map fun w _ => wD_ok 39
  refine R.eq_of ?_
  rw [w_fn at24 rfl]
  simp only [f24, eq_tnil hok, w_var, w_con, w_glob, w_bin, w_neg, w_not, w_and, w_or, w_ifx, w_cmp, w_tup, w_frz, w_own, w_sub, w_slc, w_call, w_callk, w_bi, w_isi, w_me, w_tab, w_ono, w_oyes, w_nil, w_cons, w_tnil, w_tcons, w_disp, w_comp, w_cat, w_rep, w_nslc, w_rev, w_ival, w_irng, w_gname, w_gtup, w_gsub, w_gsnil, w_gscons, w_sexpr, w_asg, w_par, w_ret, w_retN, w_ifs, w_for, w_pass, w_brk, w_cont, w_snil, w_scons, nxt_nx, nxt_rt, nxt_bk, nxt_ct, fin_rt, fin_nx, is_ok, is_no, is_bind, is_guard, is_of, bin_addI, bin_addS, bin_addT, bin_sub, bin_mul, bin_mulT, bin_fdiv, bin_mod, bin_pow, look_int, look_str, look_bl, look_non, look_tup, look_lst, look_sq, items_tup, items_lst, items_sq, list_lst, list_sq, cmp_lt, cmp_le, cmp_gt, cmp_ge, cmp_eq, cmp_ne, eq_int, eq_str, eq_bl, cmp_isN, cmp_isB, cmp_isnot, cmp_inT, cmp_inL, cmp_ninL, sub_tup, sub_lst, sub_sq, atP0, atP1, atP2, atP3, atP4, atP5, len_tup, len_lst, len_sq, len_str, bi_abs, bi_int, bi_strI, bi_strS, bi_tupL, bi_tupT, bi_tupS, bi_max2, bi_min2, bi_all, bi_any, bi_sum, me_join, it_tup, it_lst, it_sq, slc_tup, opt_none, opt_some, cut1, exists_and_left, List.singleton_append, pick, isTupD, typed, isTy, wipeE, Int.reduceEq, Int.reduceLT, Int.reduceSub, Int.reduceNeg, ex_if, ex_some, ex_map, List.any_cons, List.any_nil, Bool.or_false, Bool.false_or, Bool.or_true, Bool.true_or, decide_true, decide_false, List.getElem?_cons_zero, List.getElem?_cons_succ, Option.some.injEq, exists_eq_left', exists_eq_left, exists_eq_right, true_and, and_true, List.map_cons, List.map_nil, List.set_cons_zero, List.set_cons_succ, List.length_cons, List.length_nil, List.cons_append, List.nil_append, List.reduceReplicate, Nat.reduceSub, Nat.reduceAdd, Nat.reduceLT, Nat.reduceLeDiff, Nat.zero_lt_succ, Nat.lt_add_left_iff_pos, Nat.succ_lt_succ_iff, D.int.injEq, D.bl.injEq, D.str.injEq, D.tup.injEq, D.lst.injEq, D.own.injEq, decide_eq_true_eq, Bool.not_eq_true', decide_eq_false_iff_not, if_true, if_false, ite_true, ite_false, Bool.false_eq_true, reduceCtorEq, false_and, exists_false, Option.map_some, Option.map_none, Option.bind_some, Option.getD_some]
  refine ⟨Nat.zero_le _, ?_⟩
  split
  · rename_i hp
    refine ⟨by rw [List.length_map]; exact Nat.le_trans hl (by decide), Ev.comp_map ws wD (fun p => .str (sSign p)) rfl rfl (fun p hp => ?_) ?_⟩
    · simp only [sign_tab (h p hp), w_var, w_con, w_glob, w_bin, w_neg, w_not, w_and, w_or, w_ifx, w_cmp, w_tup, w_frz, w_own, w_sub, w_slc, w_call, w_callk, w_bi, w_isi, w_me, w_tab, w_ono, w_oyes, w_nil, w_cons, w_tnil, w_tcons, w_disp, w_comp, w_cat, w_rep, w_nslc, w_rev, w_ival, w_irng, w_gname, w_gtup, w_gsub, w_gsnil, w_gscons, w_sexpr, w_asg, w_par, w_ret, w_retN, w_ifs, w_for, w_pass, w_brk, w_cont, w_snil, w_scons, nxt_nx, nxt_rt, nxt_bk, nxt_ct, fin_rt, fin_nx, is_ok, is_no, is_bind, is_guard, is_of, bin_addI, bin_addS, bin_addT, bin_sub, bin_mul, bin_mulT, bin_fdiv, bin_mod, bin_pow, look_int, look_str, look_bl, look_non, look_tup, look_lst, look_sq, items_tup, items_lst, items_sq, list_lst, list_sq, cmp_lt, cmp_le, cmp_gt, cmp_ge, cmp_eq, cmp_ne, eq_int, eq_str, eq_bl, cmp_isN, cmp_isB, cmp_isnot, cmp_inT, cmp_inL, cmp_ninL, sub_tup, sub_lst, sub_sq, atP0, atP1, atP2, atP3, atP4, atP5, len_tup, len_lst, len_sq, len_str, bi_abs, bi_int, bi_strI, bi_strS, bi_tupL, bi_tupT, bi_tupS, bi_max2, bi_min2, bi_all, bi_any, bi_sum, me_join, it_tup, it_lst, it_sq, slc_tup, opt_none, opt_some, cut1, exists_and_left, List.singleton_append, pick, isTupD, typed, isTy, wipeE, Int.reduceEq, Int.reduceLT, Int.reduceSub, Int.reduceNeg, ex_if, ex_some, ex_map, List.any_cons, List.any_nil, Bool.or_false, Bool.false_or, Bool.or_true, Bool.true_or, decide_true, decide_false, List.getElem?_cons_zero, List.getElem?_cons_succ, Option.some.injEq, exists_eq_left', exists_eq_left, exists_eq_right, true_and, and_true, List.map_cons, List.map_nil, List.set_cons_zero, List.set_cons_succ, List.length_cons, List.length_nil, List.cons_append, List.nil_append, List.reduceReplicate, Nat.reduceSub, Nat.reduceAdd, Nat.reduceLT, Nat.reduceLeDiff, Nat.zero_lt_succ, Nat.lt_add_left_iff_pos, Nat.succ_lt_succ_iff, D.int.injEq, D.bl.injEq, D.str.injEq, D.tup.injEq, D.lst.injEq, D.own.injEq, decide_eq_true_eq, Bool.not_eq_true', decide_eq_false_iff_not, if_true, if_false, ite_true, ite_false, Bool.false_eq_true, reduceCtorEq, false_and, exists_false, Option.map_some, Option.map_none, Option.bind_some, Option.getD_some]
    · rw [strsOf_mapf]
      have hs : sWish ws = Str.join "" (ws.map sSign) := by
        unfold sWish
        rw [if_neg]
        intro z
        rw [z] at hp
        cases hp
      simp only [finish_same (low_str _ _), hs, w_var, w_con, w_glob, w_bin, w_neg, w_not, w_and, w_or, w_ifx, w_cmp, w_tup, w_frz, w_own, w_sub, w_slc, w_call, w_callk, w_bi, w_isi, w_me, w_tab, w_ono, w_oyes, w_nil, w_cons, w_tnil, w_tcons, w_disp, w_comp, w_cat, w_rep, w_nslc, w_rev, w_ival, w_irng, w_gname, w_gtup, w_gsub, w_gsnil, w_gscons, w_sexpr, w_asg, w_par, w_ret, w_retN, w_ifs, w_for, w_pass, w_brk, w_cont, w_snil, w_scons, nxt_nx, nxt_rt, nxt_bk, nxt_ct, fin_rt, fin_nx, is_ok, is_no, is_bind, is_guard, is_of, bin_addI, bin_addS, bin_addT, bin_sub, bin_mul, bin_mulT, bin_fdiv, bin_mod, bin_pow, look_int, look_str, look_bl, look_non, look_tup, look_lst, look_sq, items_tup, items_lst, items_sq, list_lst, list_sq, cmp_lt, cmp_le, cmp_gt, cmp_ge, cmp_eq, cmp_ne, eq_int, eq_str, eq_bl, cmp_isN, cmp_isB, cmp_isnot, cmp_inT, cmp_inL, cmp_ninL, sub_tup, sub_lst, sub_sq, atP0, atP1, atP2, atP3, atP4, atP5, len_tup, len_lst, len_sq, len_str, bi_abs, bi_int, bi_strI, bi_strS, bi_tupL, bi_tupT, bi_tupS, bi_max2, bi_min2, bi_all, bi_any, bi_sum, me_join, it_tup, it_lst, it_sq, slc_tup, opt_none, opt_some, cut1, exists_and_left, List.singleton_append, pick, isTupD, typed, isTy, wipeE, Int.reduceEq, Int.reduceLT, Int.reduceSub, Int.reduceNeg, ex_if, ex_some, ex_map, List.any_cons, List.any_nil, Bool.or_false, Bool.false_or, Bool.or_true, Bool.true_or, decide_true, decide_false, List.getElem?_cons_zero, List.getElem?_cons_succ, Option.some.injEq, exists_eq_left', exists_eq_left, exists_eq_right, true_and, and_true, List.map_cons, List.map_nil, List.set_cons_zero, List.set_cons_succ, List.length_cons, List.length_nil, List.cons_append, List.nil_append, List.reduceReplicate, Nat.reduceSub, Nat.reduceAdd, Nat.reduceLT, Nat.reduceLeDiff, Nat.zero_lt_succ, Nat.lt_add_left_iff_pos, Nat.succ_lt_succ_iff, D.int.injEq, D.bl.injEq, D.str.injEq, D.tup.injEq, D.lst.injEq, D.own.injEq, decide_eq_true_eq, Bool.not_eq_true', decide_eq_false_iff_not, if_true, if_false, ite_true, ite_false, Bool.false_eq_true, reduceCtorEq, false_and, exists_false, Option.map_some, Option.map_none, Option.bind_some, Option.getD_some]
      exact wish_guard h hl
  · rename_i hp
    have e : ws = [] := by
      cases ws with
      | nil => rfl
      | cons _ _ => exact absurd rfl hp
    subst e
    rw [finish_same (low_str _ _), is_ok]
    exact ⟨rfl, rfl⟩
/-! ### sayings -/
inductive Say where
  | leaf (k : Nat) (q : List Int × Int)
  | one (p : Say)
  | two (k : Bool) (p q : Say)
def leafW : Nat → Str
  | 0 => "less"
  | 1 => "is"
  | _ => "more"
def twoW (k : Bool) : Str := if k then "either" else "both"
def sayD : Say → D
  | .leaf k q => .tup [.str (leafW k), .tup (q.1.map iD), .int q.2]
  | .one p => .tup [.str "not", sayD p]
  | .two k p q => .tup [.str (twoW k), sayD p, sayD q]
def sSay : Say → Str
  | .leaf k q => "(" ++ leafW k ++ " [" ++ sSides q.1 ++ "] " ++ strOfInt q.2 ++ ")"
  | .one p => "(" ++ Str.join " " ["not", sSay p] ++ ")"
  | .two k p q => "(" ++ Str.join " " [twoW k, sSay p, sSay q] ++ ")"
inductive SmS : Nat → Say → Prop
  | leaf (n k : Nat) {q : List Int × Int} : SmQ q → SmS n (.leaf k q)
  | one {n : Nat} {p : Say} : SmS n p → SmS (n + 1) (.one p)
  | two {n : Nat} (k : Bool) {p q : Say} : SmS n p → SmS n q → SmS (n + 1) (.two k p q)
theorem leafW_len (k : Nat) : (leafW k).length ≤ 4 := by
  match k with
  | 0 => decide
  | 1 => decide
  | _ + 2 => exact (by decide : ("more" : Str).length ≤ 4)
theorem twoW_len (k : Bool) : (twoW k).length ≤ 6 := by cases k <;> decide
theorem pow1 (n : Nat) : 1 ≤ 2 ^ n := Nat.one_le_two_pow
theorem sSay_len {n : Nat} {s : Say} (h : SmS n s) : (sSay s).length + 10 ≤ 3960 * 2 ^ n := by
  have l1 : ("(" : Str).length = 1 := rfl
  have l2 : (")" : Str).length = 1 := rfl
  have l3 : (" [" : Str).length = 2 := rfl
  have l4 : ("] " : Str).length = 2 := rfl
  have l5 : (" " : Str).length = 1 := rfl
  have l6 : ("not" : Str).length = 3 := rfl
  induction h with
  | leaf n k h =>
    have h1 := sSides_len h.s h.l
    have h2 := h.w.l
    have h3 := leafW_len k
    have h4 := pow1 n
    simp only [sSay, len_app]
    omega
  | one h ih =>
    simp only [sSay, len_app, Str.join]
    rw [Nat.pow_succ]
    omega
  | two k h h' ih ih' =>
    have h3 := twoW_len k
    simp only [sSay, len_app, Str.join]
    rw [Nat.pow_succ]
    omega
def sided : D := .tup [.str "less", .str "is", .str "more"]
theorem ok_sided : D.okEL DEEP [.str "less", .str "is", .str "more"] = true := by decide +kernel
theorem ok_leaf (k : Nat) : D.okE DEEP (.str (leafW k)) = true := by
  match k with
  | 0 => decide +kernel
  | 1 => decide +kernel
  | _ + 2 => exact (by decide +kernel : D.okE DEEP (.str "more") = true)
theorem ok_not : D.okE DEEP (.str "not") = true := by decide +kernel
theorem ok_two (k : Bool) : D.okE DEEP (.str (twoW k)) = true := by cases k <;> decide +kernel
theorem any_leaf (k : Nat) : inAny (.str (leafW k)) [.str "less", .str "is", .str "more"] = true := by
  match k with
  | 0 => decide +kernel
  | 1 => decide +kernel
  | _ + 2 => exact (by decide +kernel : inAny (.str "more") [.str "less", .str "is", .str "more"] = true)
theorem any_not : inAny (.str "not") [.str "less", .str "is", .str "more"] = false := by decide +kernel
theorem any_two (k : Bool) : inAny (.str (twoW k)) [.str "less", .str "is", .str "more"] = false := by cases k <;> decide +kernel
theorem in_leaf (k : Nat) : cmpD .in_ S (.str (leafW k)) sided = some true := by
  unfold sided
  rw [cmp_inT, ok_leaf, ok_sided, any_leaf]
  rfl
theorem in_not : cmpD .in_ S (.str "not") sided = some false := by
  unfold sided
  rw [cmp_inT, ok_not, ok_sided, any_not]
  rfl
theorem in_two (k : Bool) : cmpD .in_ S (.str (twoW k)) sided = some false := by
  unfold sided
  rw [cmp_inT, ok_two, ok_sided, any_two]
  rfl
theorem g1 : G[1]? = some sided := rfl
theorem two_pow {k : Nat} (hk : k ≤ 12) : 3960 * 2 ^ k ≤ LIM := by
  have := Nat.pow_le_pow_right (n := 2) (by decide) hk
  unfold LIM
  omega
theorem show_saying {k : Nat} {s : Say} (h : SmS k s) (hk : k ≤ 12) : callF tab G wf (n + k + 2) 7 [sayD s] S = .ok (.str (sSay s)) S := by
  have hp := two_pow hk
  have l5 : (" " : Str).length = 1 := rfl
  induction h with
  | leaf k j h =>
    have hl := sSay_len (SmS.leaf k j h)
    simp only [sSay, len_app] at hl
    refine R.eq_of ?_
    rw [w_fn at7 rfl]
    simp only [f7, sayD, g1, in_leaf, show_sides h.s h.l, h.w.b, len_app, finish_same (low_str _ _), sSay, w_var, w_con, w_glob, w_bin, w_neg, w_not, w_and, w_or, w_ifx, w_cmp, w_tup, w_frz, w_own, w_sub, w_slc, w_call, w_callk, w_bi, w_isi, w_me, w_tab, w_ono, w_oyes, w_nil, w_cons, w_tnil, w_tcons, w_disp, w_comp, w_cat, w_rep, w_nslc, w_rev, w_ival, w_irng, w_gname, w_gtup, w_gsub, w_gsnil, w_gscons, w_sexpr, w_asg, w_par, w_ret, w_retN, w_ifs, w_for, w_pass, w_brk, w_cont, w_snil, w_scons, nxt_nx, nxt_rt, nxt_bk, nxt_ct, fin_rt, fin_nx, is_ok, is_no, is_bind, is_guard, is_of, bin_addI, bin_addS, bin_addT, bin_sub, bin_mul, bin_mulT, bin_fdiv, bin_mod, bin_pow, look_int, look_str, look_bl, look_non, look_tup, look_lst, look_sq, items_tup, items_lst, items_sq, list_lst, list_sq, cmp_lt, cmp_le, cmp_gt, cmp_ge, cmp_eq, cmp_ne, eq_int, eq_str, eq_bl, cmp_isN, cmp_isB, cmp_isnot, cmp_inT, cmp_inL, cmp_ninL, sub_tup, sub_lst, sub_sq, atP0, atP1, atP2, atP3, atP4, atP5, len_tup, len_lst, len_sq, len_str, bi_abs, bi_int, bi_strI, bi_strS, bi_tupL, bi_tupT, bi_tupS, bi_max2, bi_min2, bi_all, bi_any, bi_sum, me_join, it_tup, it_lst, it_sq, slc_tup, opt_none, opt_some, cut1, exists_and_left, List.singleton_append, pick, isTupD, typed, isTy, wipeE, Int.reduceEq, Int.reduceLT, Int.reduceSub, Int.reduceNeg, ex_if, ex_some, ex_map, List.any_cons, List.any_nil, Bool.or_false, Bool.false_or, Bool.or_true, Bool.true_or, decide_true, decide_false, List.getElem?_cons_zero, List.getElem?_cons_succ, Option.some.injEq, exists_eq_left', exists_eq_left, exists_eq_right, true_and, and_true, List.map_cons, List.map_nil, List.set_cons_zero, List.set_cons_succ, List.length_cons, List.length_nil, List.cons_append, List.nil_append, List.reduceReplicate, Nat.reduceSub, Nat.reduceAdd, Nat.reduceLT, Nat.reduceLeDiff, Nat.zero_lt_succ, Nat.lt_add_left_iff_pos, Nat.succ_lt_succ_iff, D.int.injEq, D.bl.injEq, D.str.injEq, D.tup.injEq, D.lst.injEq, D.own.injEq, decide_eq_true_eq, Bool.not_eq_true', decide_eq_false_iff_not, if_true, if_false, ite_true, ite_false, Bool.false_eq_true, reduceCtorEq, false_and, exists_false, Option.map_some, Option.map_none, Option.bind_some, Option.getD_some]
    omega
  | @one k p h ih =>
    have hl := sSay_len (SmS.one h)
    have ih := ih (by omega) (by rw [Nat.pow_succ] at hp; omega)
    rw [show n + k + 2 = n + (k + 1) + 1 by omega] at ih
    simp only [sSay, len_app, Str.join] at hl
    refine R.eq_of ?_
    rw [w_fn at7 rfl]
    simp only [f7, sayD, in_not, g1, List.drop_succ_cons, List.drop_zero, w_var, w_con, w_glob, w_bin, w_neg, w_not, w_and, w_or, w_ifx, w_cmp, w_tup, w_frz, w_own, w_sub, w_slc, w_call, w_callk, w_bi, w_isi, w_me, w_tab, w_ono, w_oyes, w_nil, w_cons, w_tnil, w_tcons, w_disp, w_comp, w_cat, w_rep, w_nslc, w_rev, w_ival, w_irng, w_gname, w_gtup, w_gsub, w_gsnil, w_gscons, w_sexpr, w_asg, w_par, w_ret, w_retN, w_ifs, w_for, w_pass, w_brk, w_cont, w_snil, w_scons, nxt_nx, nxt_rt, nxt_bk, nxt_ct, fin_rt, fin_nx, is_ok, is_no, is_bind, is_guard, is_of, bin_addI, bin_addS, bin_addT, bin_sub, bin_mul, bin_mulT, bin_fdiv, bin_mod, bin_pow, look_int, look_str, look_bl, look_non, look_tup, look_lst, look_sq, items_tup, items_lst, items_sq, list_lst, list_sq, cmp_lt, cmp_le, cmp_gt, cmp_ge, cmp_eq, cmp_ne, eq_int, eq_str, eq_bl, cmp_isN, cmp_isB, cmp_isnot, cmp_inT, cmp_inL, cmp_ninL, sub_tup, sub_lst, sub_sq, atP0, atP1, atP2, atP3, atP4, atP5, len_tup, len_lst, len_sq, len_str, bi_abs, bi_int, bi_strI, bi_strS, bi_tupL, bi_tupT, bi_tupS, bi_max2, bi_min2, bi_all, bi_any, bi_sum, me_join, it_tup, it_lst, it_sq, slc_tup, opt_none, opt_some, cut1, exists_and_left, List.singleton_append, pick, isTupD, typed, isTy, wipeE, Int.reduceEq, Int.reduceLT, Int.reduceSub, Int.reduceNeg, ex_if, ex_some, ex_map, List.any_cons, List.any_nil, Bool.or_false, Bool.false_or, Bool.or_true, Bool.true_or, decide_true, decide_false, List.getElem?_cons_zero, List.getElem?_cons_succ, Option.some.injEq, exists_eq_left', exists_eq_left, exists_eq_right, true_and, and_true, List.map_cons, List.map_nil, List.set_cons_zero, List.set_cons_succ, List.length_cons, List.length_nil, List.cons_append, List.nil_append, List.reduceReplicate, Nat.reduceSub, Nat.reduceAdd, Nat.reduceLT, Nat.reduceLeDiff, Nat.zero_lt_succ, Nat.lt_add_left_iff_pos, Nat.succ_lt_succ_iff, D.int.injEq, D.bl.injEq, D.str.injEq, D.tup.injEq, D.lst.injEq, D.own.injEq, decide_eq_true_eq, Bool.not_eq_true', decide_eq_false_iff_not, if_true, if_false, ite_true, ite_false, Bool.false_eq_true, reduceCtorEq, false_and, exists_false, Option.map_some, Option.map_none, Option.bind_some, Option.getD_some]
    refine ⟨by decide, by decide, Ev.comp_map [_] sayD (fun p => .str (sSay p)) rfl rfl (fun p hp => ?_) ?_⟩
    · rw [List.mem_singleton] at hp
      subst hp
      simp only [ih, w_var, w_con, w_glob, w_bin, w_neg, w_not, w_and, w_or, w_ifx, w_cmp, w_tup, w_frz, w_own, w_sub, w_slc, w_call, w_callk, w_bi, w_isi, w_me, w_tab, w_ono, w_oyes, w_nil, w_cons, w_tnil, w_tcons, w_disp, w_comp, w_cat, w_rep, w_nslc, w_rev, w_ival, w_irng, w_gname, w_gtup, w_gsub, w_gsnil, w_gscons, w_sexpr, w_asg, w_par, w_ret, w_retN, w_ifs, w_for, w_pass, w_brk, w_cont, w_snil, w_scons, nxt_nx, nxt_rt, nxt_bk, nxt_ct, fin_rt, fin_nx, is_ok, is_no, is_bind, is_guard, is_of, bin_addI, bin_addS, bin_addT, bin_sub, bin_mul, bin_mulT, bin_fdiv, bin_mod, bin_pow, look_int, look_str, look_bl, look_non, look_tup, look_lst, look_sq, items_tup, items_lst, items_sq, list_lst, list_sq, cmp_lt, cmp_le, cmp_gt, cmp_ge, cmp_eq, cmp_ne, eq_int, eq_str, eq_bl, cmp_isN, cmp_isB, cmp_isnot, cmp_inT, cmp_inL, cmp_ninL, sub_tup, sub_lst, sub_sq, atP0, atP1, atP2, atP3, atP4, atP5, len_tup, len_lst, len_sq, len_str, bi_abs, bi_int, bi_strI, bi_strS, bi_tupL, bi_tupT, bi_tupS, bi_max2, bi_min2, bi_all, bi_any, bi_sum, me_join, it_tup, it_lst, it_sq, slc_tup, opt_none, opt_some, cut1, exists_and_left, List.singleton_append, pick, isTupD, typed, isTy, wipeE, Int.reduceEq, Int.reduceLT, Int.reduceSub, Int.reduceNeg, ex_if, ex_some, ex_map, List.any_cons, List.any_nil, Bool.or_false, Bool.false_or, Bool.or_true, Bool.true_or, decide_true, decide_false, List.getElem?_cons_zero, List.getElem?_cons_succ, Option.some.injEq, exists_eq_left', exists_eq_left, exists_eq_right, true_and, and_true, List.map_cons, List.map_nil, List.set_cons_zero, List.set_cons_succ, List.length_cons, List.length_nil, List.cons_append, List.nil_append, List.reduceReplicate, Nat.reduceSub, Nat.reduceAdd, Nat.reduceLT, Nat.reduceLeDiff, Nat.zero_lt_succ, Nat.lt_add_left_iff_pos, Nat.succ_lt_succ_iff, D.int.injEq, D.bl.injEq, D.str.injEq, D.tup.injEq, D.lst.injEq, D.own.injEq, decide_eq_true_eq, Bool.not_eq_true', decide_eq_false_iff_not, if_true, if_false, ite_true, ite_false, Bool.false_eq_true, reduceCtorEq, false_and, exists_false, Option.map_some, Option.map_none, Option.bind_some, Option.getD_some]
    · simp only [strsOf, strsOf_mapf, Option.map_some]
      simp only [finish_same (low_str _ _), len_app, Str.join, List.sum_cons, List.sum_nil, strLen, sSay, w_var, w_con, w_glob, w_bin, w_neg, w_not, w_and, w_or, w_ifx, w_cmp, w_tup, w_frz, w_own, w_sub, w_slc, w_call, w_callk, w_bi, w_isi, w_me, w_tab, w_ono, w_oyes, w_nil, w_cons, w_tnil, w_tcons, w_disp, w_comp, w_cat, w_rep, w_nslc, w_rev, w_ival, w_irng, w_gname, w_gtup, w_gsub, w_gsnil, w_gscons, w_sexpr, w_asg, w_par, w_ret, w_retN, w_ifs, w_for, w_pass, w_brk, w_cont, w_snil, w_scons, nxt_nx, nxt_rt, nxt_bk, nxt_ct, fin_rt, fin_nx, is_ok, is_no, is_bind, is_guard, is_of, bin_addI, bin_addS, bin_addT, bin_sub, bin_mul, bin_mulT, bin_fdiv, bin_mod, bin_pow, look_int, look_str, look_bl, look_non, look_tup, look_lst, look_sq, items_tup, items_lst, items_sq, list_lst, list_sq, cmp_lt, cmp_le, cmp_gt, cmp_ge, cmp_eq, cmp_ne, eq_int, eq_str, eq_bl, cmp_isN, cmp_isB, cmp_isnot, cmp_inT, cmp_inL, cmp_ninL, sub_tup, sub_lst, sub_sq, atP0, atP1, atP2, atP3, atP4, atP5, len_tup, len_lst, len_sq, len_str, bi_abs, bi_int, bi_strI, bi_strS, bi_tupL, bi_tupT, bi_tupS, bi_max2, bi_min2, bi_all, bi_any, bi_sum, me_join, it_tup, it_lst, it_sq, slc_tup, opt_none, opt_some, cut1, exists_and_left, List.singleton_append, pick, isTupD, typed, isTy, wipeE, Int.reduceEq, Int.reduceLT, Int.reduceSub, Int.reduceNeg, ex_if, ex_some, ex_map, List.any_cons, List.any_nil, Bool.or_false, Bool.false_or, Bool.or_true, Bool.true_or, decide_true, decide_false, List.getElem?_cons_zero, List.getElem?_cons_succ, Option.some.injEq, exists_eq_left', exists_eq_left, exists_eq_right, true_and, and_true, List.map_cons, List.map_nil, List.set_cons_zero, List.set_cons_succ, List.length_cons, List.length_nil, List.cons_append, List.nil_append, List.reduceReplicate, Nat.reduceSub, Nat.reduceAdd, Nat.reduceLT, Nat.reduceLeDiff, Nat.zero_lt_succ, Nat.lt_add_left_iff_pos, Nat.succ_lt_succ_iff, D.int.injEq, D.bl.injEq, D.str.injEq, D.tup.injEq, D.lst.injEq, D.own.injEq, decide_eq_true_eq, Bool.not_eq_true', decide_eq_false_iff_not, if_true, if_false, ite_true, ite_false, Bool.false_eq_true, reduceCtorEq, false_and, exists_false, Option.map_some, Option.map_none, Option.bind_some, Option.getD_some]
      omega
  | @two k j p q h h' ih ih' =>
    have hl := sSay_len (SmS.two j h h')
    have ih := ih (by omega) (by rw [Nat.pow_succ] at hp; omega)
    have ih' := ih' (by omega) (by rw [Nat.pow_succ] at hp; omega)
    rw [show n + k + 2 = n + (k + 1) + 1 by omega] at ih ih'
    simp only [sSay, len_app, Str.join] at hl
    refine R.eq_of ?_
    rw [w_fn at7 rfl]
    simp only [f7, sayD, in_two, g1, List.drop_succ_cons, List.drop_zero, w_var, w_con, w_glob, w_bin, w_neg, w_not, w_and, w_or, w_ifx, w_cmp, w_tup, w_frz, w_own, w_sub, w_slc, w_call, w_callk, w_bi, w_isi, w_me, w_tab, w_ono, w_oyes, w_nil, w_cons, w_tnil, w_tcons, w_disp, w_comp, w_cat, w_rep, w_nslc, w_rev, w_ival, w_irng, w_gname, w_gtup, w_gsub, w_gsnil, w_gscons, w_sexpr, w_asg, w_par, w_ret, w_retN, w_ifs, w_for, w_pass, w_brk, w_cont, w_snil, w_scons, nxt_nx, nxt_rt, nxt_bk, nxt_ct, fin_rt, fin_nx, is_ok, is_no, is_bind, is_guard, is_of, bin_addI, bin_addS, bin_addT, bin_sub, bin_mul, bin_mulT, bin_fdiv, bin_mod, bin_pow, look_int, look_str, look_bl, look_non, look_tup, look_lst, look_sq, items_tup, items_lst, items_sq, list_lst, list_sq, cmp_lt, cmp_le, cmp_gt, cmp_ge, cmp_eq, cmp_ne, eq_int, eq_str, eq_bl, cmp_isN, cmp_isB, cmp_isnot, cmp_inT, cmp_inL, cmp_ninL, sub_tup, sub_lst, sub_sq, atP0, atP1, atP2, atP3, atP4, atP5, len_tup, len_lst, len_sq, len_str, bi_abs, bi_int, bi_strI, bi_strS, bi_tupL, bi_tupT, bi_tupS, bi_max2, bi_min2, bi_all, bi_any, bi_sum, me_join, it_tup, it_lst, it_sq, slc_tup, opt_none, opt_some, cut1, exists_and_left, List.singleton_append, pick, isTupD, typed, isTy, wipeE, Int.reduceEq, Int.reduceLT, Int.reduceSub, Int.reduceNeg, ex_if, ex_some, ex_map, List.any_cons, List.any_nil, Bool.or_false, Bool.false_or, Bool.or_true, Bool.true_or, decide_true, decide_false, List.getElem?_cons_zero, List.getElem?_cons_succ, Option.some.injEq, exists_eq_left', exists_eq_left, exists_eq_right, true_and, and_true, List.map_cons, List.map_nil, List.set_cons_zero, List.set_cons_succ, List.length_cons, List.length_nil, List.cons_append, List.nil_append, List.reduceReplicate, Nat.reduceSub, Nat.reduceAdd, Nat.reduceLT, Nat.reduceLeDiff, Nat.zero_lt_succ, Nat.lt_add_left_iff_pos, Nat.succ_lt_succ_iff, D.int.injEq, D.bl.injEq, D.str.injEq, D.tup.injEq, D.lst.injEq, D.own.injEq, decide_eq_true_eq, Bool.not_eq_true', decide_eq_false_iff_not, if_true, if_false, ite_true, ite_false, Bool.false_eq_true, reduceCtorEq, false_and, exists_false, Option.map_some, Option.map_none, Option.bind_some, Option.getD_some]
    refine ⟨by decide, by decide, Ev.comp_map [_, _] sayD (fun p => .str (sSay p)) rfl rfl (fun p hp => ?_) ?_⟩
    · rcases List.mem_cons.mp hp with rfl | hp
      · simp only [ih, w_var, w_con, w_glob, w_bin, w_neg, w_not, w_and, w_or, w_ifx, w_cmp, w_tup, w_frz, w_own, w_sub, w_slc, w_call, w_callk, w_bi, w_isi, w_me, w_tab, w_ono, w_oyes, w_nil, w_cons, w_tnil, w_tcons, w_disp, w_comp, w_cat, w_rep, w_nslc, w_rev, w_ival, w_irng, w_gname, w_gtup, w_gsub, w_gsnil, w_gscons, w_sexpr, w_asg, w_par, w_ret, w_retN, w_ifs, w_for, w_pass, w_brk, w_cont, w_snil, w_scons, nxt_nx, nxt_rt, nxt_bk, nxt_ct, fin_rt, fin_nx, is_ok, is_no, is_bind, is_guard, is_of, bin_addI, bin_addS, bin_addT, bin_sub, bin_mul, bin_mulT, bin_fdiv, bin_mod, bin_pow, look_int, look_str, look_bl, look_non, look_tup, look_lst, look_sq, items_tup, items_lst, items_sq, list_lst, list_sq, cmp_lt, cmp_le, cmp_gt, cmp_ge, cmp_eq, cmp_ne, eq_int, eq_str, eq_bl, cmp_isN, cmp_isB, cmp_isnot, cmp_inT, cmp_inL, cmp_ninL, sub_tup, sub_lst, sub_sq, atP0, atP1, atP2, atP3, atP4, atP5, len_tup, len_lst, len_sq, len_str, bi_abs, bi_int, bi_strI, bi_strS, bi_tupL, bi_tupT, bi_tupS, bi_max2, bi_min2, bi_all, bi_any, bi_sum, me_join, it_tup, it_lst, it_sq, slc_tup, opt_none, opt_some, cut1, exists_and_left, List.singleton_append, pick, isTupD, typed, isTy, wipeE, Int.reduceEq, Int.reduceLT, Int.reduceSub, Int.reduceNeg, ex_if, ex_some, ex_map, List.any_cons, List.any_nil, Bool.or_false, Bool.false_or, Bool.or_true, Bool.true_or, decide_true, decide_false, List.getElem?_cons_zero, List.getElem?_cons_succ, Option.some.injEq, exists_eq_left', exists_eq_left, exists_eq_right, true_and, and_true, List.map_cons, List.map_nil, List.set_cons_zero, List.set_cons_succ, List.length_cons, List.length_nil, List.cons_append, List.nil_append, List.reduceReplicate, Nat.reduceSub, Nat.reduceAdd, Nat.reduceLT, Nat.reduceLeDiff, Nat.zero_lt_succ, Nat.lt_add_left_iff_pos, Nat.succ_lt_succ_iff, D.int.injEq, D.bl.injEq, D.str.injEq, D.tup.injEq, D.lst.injEq, D.own.injEq, decide_eq_true_eq, Bool.not_eq_true', decide_eq_false_iff_not, if_true, if_false, ite_true, ite_false, Bool.false_eq_true, reduceCtorEq, false_and, exists_false, Option.map_some, Option.map_none, Option.bind_some, Option.getD_some]
      · rw [List.mem_singleton] at hp
        subst hp
        simp only [ih', w_var, w_con, w_glob, w_bin, w_neg, w_not, w_and, w_or, w_ifx, w_cmp, w_tup, w_frz, w_own, w_sub, w_slc, w_call, w_callk, w_bi, w_isi, w_me, w_tab, w_ono, w_oyes, w_nil, w_cons, w_tnil, w_tcons, w_disp, w_comp, w_cat, w_rep, w_nslc, w_rev, w_ival, w_irng, w_gname, w_gtup, w_gsub, w_gsnil, w_gscons, w_sexpr, w_asg, w_par, w_ret, w_retN, w_ifs, w_for, w_pass, w_brk, w_cont, w_snil, w_scons, nxt_nx, nxt_rt, nxt_bk, nxt_ct, fin_rt, fin_nx, is_ok, is_no, is_bind, is_guard, is_of, bin_addI, bin_addS, bin_addT, bin_sub, bin_mul, bin_mulT, bin_fdiv, bin_mod, bin_pow, look_int, look_str, look_bl, look_non, look_tup, look_lst, look_sq, items_tup, items_lst, items_sq, list_lst, list_sq, cmp_lt, cmp_le, cmp_gt, cmp_ge, cmp_eq, cmp_ne, eq_int, eq_str, eq_bl, cmp_isN, cmp_isB, cmp_isnot, cmp_inT, cmp_inL, cmp_ninL, sub_tup, sub_lst, sub_sq, atP0, atP1, atP2, atP3, atP4, atP5, len_tup, len_lst, len_sq, len_str, bi_abs, bi_int, bi_strI, bi_strS, bi_tupL, bi_tupT, bi_tupS, bi_max2, bi_min2, bi_all, bi_any, bi_sum, me_join, it_tup, it_lst, it_sq, slc_tup, opt_none, opt_some, cut1, exists_and_left, List.singleton_append, pick, isTupD, typed, isTy, wipeE, Int.reduceEq, Int.reduceLT, Int.reduceSub, Int.reduceNeg, ex_if, ex_some, ex_map, List.any_cons, List.any_nil, Bool.or_false, Bool.false_or, Bool.or_true, Bool.true_or, decide_true, decide_false, List.getElem?_cons_zero, List.getElem?_cons_succ, Option.some.injEq, exists_eq_left', exists_eq_left, exists_eq_right, true_and, and_true, List.map_cons, List.map_nil, List.set_cons_zero, List.set_cons_succ, List.length_cons, List.length_nil, List.cons_append, List.nil_append, List.reduceReplicate, Nat.reduceSub, Nat.reduceAdd, Nat.reduceLT, Nat.reduceLeDiff, Nat.zero_lt_succ, Nat.lt_add_left_iff_pos, Nat.succ_lt_succ_iff, D.int.injEq, D.bl.injEq, D.str.injEq, D.tup.injEq, D.lst.injEq, D.own.injEq, decide_eq_true_eq, Bool.not_eq_true', decide_eq_false_iff_not, if_true, if_false, ite_true, ite_false, Bool.false_eq_true, reduceCtorEq, false_and, exists_false, Option.map_some, Option.map_none, Option.bind_some, Option.getD_some]
    · simp only [strsOf, strsOf_mapf, Option.map_some]
      simp only [finish_same (low_str _ _), len_app, Str.join, List.sum_cons, List.sum_nil, strLen, sSay, w_var, w_con, w_glob, w_bin, w_neg, w_not, w_and, w_or, w_ifx, w_cmp, w_tup, w_frz, w_own, w_sub, w_slc, w_call, w_callk, w_bi, w_isi, w_me, w_tab, w_ono, w_oyes, w_nil, w_cons, w_tnil, w_tcons, w_disp, w_comp, w_cat, w_rep, w_nslc, w_rev, w_ival, w_irng, w_gname, w_gtup, w_gsub, w_gsnil, w_gscons, w_sexpr, w_asg, w_par, w_ret, w_retN, w_ifs, w_for, w_pass, w_brk, w_cont, w_snil, w_scons, nxt_nx, nxt_rt, nxt_bk, nxt_ct, fin_rt, fin_nx, is_ok, is_no, is_bind, is_guard, is_of, bin_addI, bin_addS, bin_addT, bin_sub, bin_mul, bin_mulT, bin_fdiv, bin_mod, bin_pow, look_int, look_str, look_bl, look_non, look_tup, look_lst, look_sq, items_tup, items_lst, items_sq, list_lst, list_sq, cmp_lt, cmp_le, cmp_gt, cmp_ge, cmp_eq, cmp_ne, eq_int, eq_str, eq_bl, cmp_isN, cmp_isB, cmp_isnot, cmp_inT, cmp_inL, cmp_ninL, sub_tup, sub_lst, sub_sq, atP0, atP1, atP2, atP3, atP4, atP5, len_tup, len_lst, len_sq, len_str, bi_abs, bi_int, bi_strI, bi_strS, bi_tupL, bi_tupT, bi_tupS, bi_max2, bi_min2, bi_all, bi_any, bi_sum, me_join, it_tup, it_lst, it_sq, slc_tup, opt_none, opt_some, cut1, exists_and_left, List.singleton_append, pick, isTupD, typed, isTy, wipeE, Int.reduceEq, Int.reduceLT, Int.reduceSub, Int.reduceNeg, ex_if, ex_some, ex_map, List.any_cons, List.any_nil, Bool.or_false, Bool.false_or, Bool.or_true, Bool.true_or, decide_true, decide_false, List.getElem?_cons_zero, List.getElem?_cons_succ, Option.some.injEq, exists_eq_left', exists_eq_left, exists_eq_right, true_and, and_true, List.map_cons, List.map_nil, List.set_cons_zero, List.set_cons_succ, List.length_cons, List.length_nil, List.cons_append, List.nil_append, List.reduceReplicate, Nat.reduceSub, Nat.reduceAdd, Nat.reduceLT, Nat.reduceLeDiff, Nat.zero_lt_succ, Nat.lt_add_left_iff_pos, Nat.succ_lt_succ_iff, D.int.injEq, D.bl.injEq, D.str.injEq, D.tup.injEq, D.lst.injEq, D.own.injEq, decide_eq_true_eq, Bool.not_eq_true', decide_eq_false_iff_not, if_true, if_false, ite_true, ite_false, Bool.false_eq_true, reduceCtorEq, false_and, exists_false, Option.map_some, Option.map_none, Option.bind_some, Option.getD_some]
      omega
theorem said_saying {k : Nat} {s : Say} (h : SmS k s) (hk : k ≤ 12) : callF tab G wf (n + k + 2) 27 [sayD s] S = .ok (.str (sSay s)) S := by
  have hp := two_pow hk
  have l5 : (" " : Str).length = 1 := rfl
  induction h with
  | leaf k j h =>
    have hl := sSay_len (SmS.leaf k j h)
    simp only [sSay, len_app] at hl
    refine R.eq_of ?_
    rw [w_fn at27 rfl]
    simp only [f27, sayD, ok_sided, ok_leaf, any_leaf, Bool.and_self, h.w.b, w_var, w_con, w_glob, w_bin, w_neg, w_not, w_and, w_or, w_ifx, w_cmp, w_tup, w_frz, w_own, w_sub, w_slc, w_call, w_callk, w_bi, w_isi, w_me, w_tab, w_ono, w_oyes, w_nil, w_cons, w_tnil, w_tcons, w_disp, w_comp, w_cat, w_rep, w_nslc, w_rev, w_ival, w_irng, w_gname, w_gtup, w_gsub, w_gsnil, w_gscons, w_sexpr, w_asg, w_par, w_ret, w_retN, w_ifs, w_for, w_pass, w_brk, w_cont, w_snil, w_scons, nxt_nx, nxt_rt, nxt_bk, nxt_ct, fin_rt, fin_nx, is_ok, is_no, is_bind, is_guard, is_of, bin_addI, bin_addS, bin_addT, bin_sub, bin_mul, bin_mulT, bin_fdiv, bin_mod, bin_pow, look_int, look_str, look_bl, look_non, look_tup, look_lst, look_sq, items_tup, items_lst, items_sq, list_lst, list_sq, cmp_lt, cmp_le, cmp_gt, cmp_ge, cmp_eq, cmp_ne, eq_int, eq_str, eq_bl, cmp_isN, cmp_isB, cmp_isnot, cmp_inT, cmp_inL, cmp_ninL, sub_tup, sub_lst, sub_sq, atP0, atP1, atP2, atP3, atP4, atP5, len_tup, len_lst, len_sq, len_str, bi_abs, bi_int, bi_strI, bi_strS, bi_tupL, bi_tupT, bi_tupS, bi_max2, bi_min2, bi_all, bi_any, bi_sum, me_join, it_tup, it_lst, it_sq, slc_tup, opt_none, opt_some, cut1, exists_and_left, List.singleton_append, pick, isTupD, typed, isTy, wipeE, Int.reduceEq, Int.reduceLT, Int.reduceSub, Int.reduceNeg, ex_if, ex_some, ex_map, List.any_cons, List.any_nil, Bool.or_false, Bool.false_or, Bool.or_true, Bool.true_or, decide_true, decide_false, List.getElem?_cons_zero, List.getElem?_cons_succ, Option.some.injEq, exists_eq_left', exists_eq_left, exists_eq_right, true_and, and_true, List.map_cons, List.map_nil, List.set_cons_zero, List.set_cons_succ, List.length_cons, List.length_nil, List.cons_append, List.nil_append, List.reduceReplicate, Nat.reduceSub, Nat.reduceAdd, Nat.reduceLT, Nat.reduceLeDiff, Nat.zero_lt_succ, Nat.lt_add_left_iff_pos, Nat.succ_lt_succ_iff, D.int.injEq, D.bl.injEq, D.str.injEq, D.tup.injEq, D.lst.injEq, D.own.injEq, decide_eq_true_eq, Bool.not_eq_true', decide_eq_false_iff_not, if_true, if_false, ite_true, ite_false, Bool.false_eq_true, reduceCtorEq, false_and, exists_false, Option.map_some, Option.map_none, Option.bind_some, Option.getD_some]
    refine ⟨by decide, by rw [List.length_map]; exact Nat.le_trans h.l (by decide), Ev.comp_map _ iD (fun p => .str (strOfInt p)) rfl rfl (fun p hp => ?_) ?_⟩
    · simp only [iD, (h.s p hp).b, w_var, w_con, w_glob, w_bin, w_neg, w_not, w_and, w_or, w_ifx, w_cmp, w_tup, w_frz, w_own, w_sub, w_slc, w_call, w_callk, w_bi, w_isi, w_me, w_tab, w_ono, w_oyes, w_nil, w_cons, w_tnil, w_tcons, w_disp, w_comp, w_cat, w_rep, w_nslc, w_rev, w_ival, w_irng, w_gname, w_gtup, w_gsub, w_gsnil, w_gscons, w_sexpr, w_asg, w_par, w_ret, w_retN, w_ifs, w_for, w_pass, w_brk, w_cont, w_snil, w_scons, nxt_nx, nxt_rt, nxt_bk, nxt_ct, fin_rt, fin_nx, is_ok, is_no, is_bind, is_guard, is_of, bin_addI, bin_addS, bin_addT, bin_sub, bin_mul, bin_mulT, bin_fdiv, bin_mod, bin_pow, look_int, look_str, look_bl, look_non, look_tup, look_lst, look_sq, items_tup, items_lst, items_sq, list_lst, list_sq, cmp_lt, cmp_le, cmp_gt, cmp_ge, cmp_eq, cmp_ne, eq_int, eq_str, eq_bl, cmp_isN, cmp_isB, cmp_isnot, cmp_inT, cmp_inL, cmp_ninL, sub_tup, sub_lst, sub_sq, atP0, atP1, atP2, atP3, atP4, atP5, len_tup, len_lst, len_sq, len_str, bi_abs, bi_int, bi_strI, bi_strS, bi_tupL, bi_tupT, bi_tupS, bi_max2, bi_min2, bi_all, bi_any, bi_sum, me_join, it_tup, it_lst, it_sq, slc_tup, opt_none, opt_some, cut1, exists_and_left, List.singleton_append, pick, isTupD, typed, isTy, wipeE, Int.reduceEq, Int.reduceLT, Int.reduceSub, Int.reduceNeg, ex_if, ex_some, ex_map, List.any_cons, List.any_nil, Bool.or_false, Bool.false_or, Bool.or_true, Bool.true_or, decide_true, decide_false, List.getElem?_cons_zero, List.getElem?_cons_succ, Option.some.injEq, exists_eq_left', exists_eq_left, exists_eq_right, true_and, and_true, List.map_cons, List.map_nil, List.set_cons_zero, List.set_cons_succ, List.length_cons, List.length_nil, List.cons_append, List.nil_append, List.reduceReplicate, Nat.reduceSub, Nat.reduceAdd, Nat.reduceLT, Nat.reduceLeDiff, Nat.zero_lt_succ, Nat.lt_add_left_iff_pos, Nat.succ_lt_succ_iff, D.int.injEq, D.bl.injEq, D.str.injEq, D.tup.injEq, D.lst.injEq, D.own.injEq, decide_eq_true_eq, Bool.not_eq_true', decide_eq_false_iff_not, if_true, if_false, ite_true, ite_false, Bool.false_eq_true, reduceCtorEq, false_and, exists_false, Option.map_some, Option.map_none, Option.bind_some, Option.getD_some]
    · rw [strsOf_mapf]
      have e : ∀ xs : List Int, (" " : Str).join (xs.map strOfInt) = sSides xs := fun _ => rfl
      simp only [e, len_app, finish_same (low_str _ _), sSay, h.w.b, w_var, w_con, w_glob, w_bin, w_neg, w_not, w_and, w_or, w_ifx, w_cmp, w_tup, w_frz, w_own, w_sub, w_slc, w_call, w_callk, w_bi, w_isi, w_me, w_tab, w_ono, w_oyes, w_nil, w_cons, w_tnil, w_tcons, w_disp, w_comp, w_cat, w_rep, w_nslc, w_rev, w_ival, w_irng, w_gname, w_gtup, w_gsub, w_gsnil, w_gscons, w_sexpr, w_asg, w_par, w_ret, w_retN, w_ifs, w_for, w_pass, w_brk, w_cont, w_snil, w_scons, nxt_nx, nxt_rt, nxt_bk, nxt_ct, fin_rt, fin_nx, is_ok, is_no, is_bind, is_guard, is_of, bin_addI, bin_addS, bin_addT, bin_sub, bin_mul, bin_mulT, bin_fdiv, bin_mod, bin_pow, look_int, look_str, look_bl, look_non, look_tup, look_lst, look_sq, items_tup, items_lst, items_sq, list_lst, list_sq, cmp_lt, cmp_le, cmp_gt, cmp_ge, cmp_eq, cmp_ne, eq_int, eq_str, eq_bl, cmp_isN, cmp_isB, cmp_isnot, cmp_inT, cmp_inL, cmp_ninL, sub_tup, sub_lst, sub_sq, atP0, atP1, atP2, atP3, atP4, atP5, len_tup, len_lst, len_sq, len_str, bi_abs, bi_int, bi_strI, bi_strS, bi_tupL, bi_tupT, bi_tupS, bi_max2, bi_min2, bi_all, bi_any, bi_sum, me_join, it_tup, it_lst, it_sq, slc_tup, opt_none, opt_some, cut1, exists_and_left, List.singleton_append, pick, isTupD, typed, isTy, wipeE, Int.reduceEq, Int.reduceLT, Int.reduceSub, Int.reduceNeg, ex_if, ex_some, ex_map, List.any_cons, List.any_nil, Bool.or_false, Bool.false_or, Bool.or_true, Bool.true_or, decide_true, decide_false, List.getElem?_cons_zero, List.getElem?_cons_succ, Option.some.injEq, exists_eq_left', exists_eq_left, exists_eq_right, true_and, and_true, List.map_cons, List.map_nil, List.set_cons_zero, List.set_cons_succ, List.length_cons, List.length_nil, List.cons_append, List.nil_append, List.reduceReplicate, Nat.reduceSub, Nat.reduceAdd, Nat.reduceLT, Nat.reduceLeDiff, Nat.zero_lt_succ, Nat.lt_add_left_iff_pos, Nat.succ_lt_succ_iff, D.int.injEq, D.bl.injEq, D.str.injEq, D.tup.injEq, D.lst.injEq, D.own.injEq, decide_eq_true_eq, Bool.not_eq_true', decide_eq_false_iff_not, if_true, if_false, ite_true, ite_false, Bool.false_eq_true, reduceCtorEq, false_and, exists_false, Option.map_some, Option.map_none, Option.bind_some, Option.getD_some]
      refine ⟨join_guard (m := 12) (b := 302) (c := 1) (fun x hx => ?_) (by rw [List.length_map]; exact h.l) (Nat.le_refl _) (by decide), by omega⟩
      obtain ⟨p, hp, rfl⟩ := List.mem_map.mp hx
      exact (h.s p hp).l
  | @one k p h ih =>
    have hl := sSay_len (SmS.one h)
    have ih := ih (by omega) (by rw [Nat.pow_succ] at hp; omega)
    rw [show n + k + 2 = n + (k + 1) + 1 by omega] at ih
    simp only [sSay, len_app, Str.join] at hl
    refine R.eq_of ?_
    rw [w_fn at27 rfl]
    simp only [f27, sayD, ok_sided, ok_not, any_not, Bool.and_self, List.drop_succ_cons, List.drop_zero, w_var, w_con, w_glob, w_bin, w_neg, w_not, w_and, w_or, w_ifx, w_cmp, w_tup, w_frz, w_own, w_sub, w_slc, w_call, w_callk, w_bi, w_isi, w_me, w_tab, w_ono, w_oyes, w_nil, w_cons, w_tnil, w_tcons, w_disp, w_comp, w_cat, w_rep, w_nslc, w_rev, w_ival, w_irng, w_gname, w_gtup, w_gsub, w_gsnil, w_gscons, w_sexpr, w_asg, w_par, w_ret, w_retN, w_ifs, w_for, w_pass, w_brk, w_cont, w_snil, w_scons, nxt_nx, nxt_rt, nxt_bk, nxt_ct, fin_rt, fin_nx, is_ok, is_no, is_bind, is_guard, is_of, bin_addI, bin_addS, bin_addT, bin_sub, bin_mul, bin_mulT, bin_fdiv, bin_mod, bin_pow, look_int, look_str, look_bl, look_non, look_tup, look_lst, look_sq, items_tup, items_lst, items_sq, list_lst, list_sq, cmp_lt, cmp_le, cmp_gt, cmp_ge, cmp_eq, cmp_ne, eq_int, eq_str, eq_bl, cmp_isN, cmp_isB, cmp_isnot, cmp_inT, cmp_inL, cmp_ninL, sub_tup, sub_lst, sub_sq, atP0, atP1, atP2, atP3, atP4, atP5, len_tup, len_lst, len_sq, len_str, bi_abs, bi_int, bi_strI, bi_strS, bi_tupL, bi_tupT, bi_tupS, bi_max2, bi_min2, bi_all, bi_any, bi_sum, me_join, it_tup, it_lst, it_sq, slc_tup, opt_none, opt_some, cut1, exists_and_left, List.singleton_append, pick, isTupD, typed, isTy, wipeE, Int.reduceEq, Int.reduceLT, Int.reduceSub, Int.reduceNeg, ex_if, ex_some, ex_map, List.any_cons, List.any_nil, Bool.or_false, Bool.false_or, Bool.or_true, Bool.true_or, decide_true, decide_false, List.getElem?_cons_zero, List.getElem?_cons_succ, Option.some.injEq, exists_eq_left', exists_eq_left, exists_eq_right, true_and, and_true, List.map_cons, List.map_nil, List.set_cons_zero, List.set_cons_succ, List.length_cons, List.length_nil, List.cons_append, List.nil_append, List.reduceReplicate, Nat.reduceSub, Nat.reduceAdd, Nat.reduceLT, Nat.reduceLeDiff, Nat.zero_lt_succ, Nat.lt_add_left_iff_pos, Nat.succ_lt_succ_iff, D.int.injEq, D.bl.injEq, D.str.injEq, D.tup.injEq, D.lst.injEq, D.own.injEq, decide_eq_true_eq, Bool.not_eq_true', decide_eq_false_iff_not, if_true, if_false, ite_true, ite_false, Bool.false_eq_true, reduceCtorEq, false_and, exists_false, Option.map_some, Option.map_none, Option.bind_some, Option.getD_some]
    refine ⟨by decide, by decide, by decide, Ev.comp_map [_] sayD (fun p => .str (sSay p)) rfl rfl (fun p hp => ?_) ?_⟩
    · rw [List.mem_singleton] at hp
      subst hp
      simp only [ih, w_var, w_con, w_glob, w_bin, w_neg, w_not, w_and, w_or, w_ifx, w_cmp, w_tup, w_frz, w_own, w_sub, w_slc, w_call, w_callk, w_bi, w_isi, w_me, w_tab, w_ono, w_oyes, w_nil, w_cons, w_tnil, w_tcons, w_disp, w_comp, w_cat, w_rep, w_nslc, w_rev, w_ival, w_irng, w_gname, w_gtup, w_gsub, w_gsnil, w_gscons, w_sexpr, w_asg, w_par, w_ret, w_retN, w_ifs, w_for, w_pass, w_brk, w_cont, w_snil, w_scons, nxt_nx, nxt_rt, nxt_bk, nxt_ct, fin_rt, fin_nx, is_ok, is_no, is_bind, is_guard, is_of, bin_addI, bin_addS, bin_addT, bin_sub, bin_mul, bin_mulT, bin_fdiv, bin_mod, bin_pow, look_int, look_str, look_bl, look_non, look_tup, look_lst, look_sq, items_tup, items_lst, items_sq, list_lst, list_sq, cmp_lt, cmp_le, cmp_gt, cmp_ge, cmp_eq, cmp_ne, eq_int, eq_str, eq_bl, cmp_isN, cmp_isB, cmp_isnot, cmp_inT, cmp_inL, cmp_ninL, sub_tup, sub_lst, sub_sq, atP0, atP1, atP2, atP3, atP4, atP5, len_tup, len_lst, len_sq, len_str, bi_abs, bi_int, bi_strI, bi_strS, bi_tupL, bi_tupT, bi_tupS, bi_max2, bi_min2, bi_all, bi_any, bi_sum, me_join, it_tup, it_lst, it_sq, slc_tup, opt_none, opt_some, cut1, exists_and_left, List.singleton_append, pick, isTupD, typed, isTy, wipeE, Int.reduceEq, Int.reduceLT, Int.reduceSub, Int.reduceNeg, ex_if, ex_some, ex_map, List.any_cons, List.any_nil, Bool.or_false, Bool.false_or, Bool.or_true, Bool.true_or, decide_true, decide_false, List.getElem?_cons_zero, List.getElem?_cons_succ, Option.some.injEq, exists_eq_left', exists_eq_left, exists_eq_right, true_and, and_true, List.map_cons, List.map_nil, List.set_cons_zero, List.set_cons_succ, List.length_cons, List.length_nil, List.cons_append, List.nil_append, List.reduceReplicate, Nat.reduceSub, Nat.reduceAdd, Nat.reduceLT, Nat.reduceLeDiff, Nat.zero_lt_succ, Nat.lt_add_left_iff_pos, Nat.succ_lt_succ_iff, D.int.injEq, D.bl.injEq, D.str.injEq, D.tup.injEq, D.lst.injEq, D.own.injEq, decide_eq_true_eq, Bool.not_eq_true', decide_eq_false_iff_not, if_true, if_false, ite_true, ite_false, Bool.false_eq_true, reduceCtorEq, false_and, exists_false, Option.map_some, Option.map_none, Option.bind_some, Option.getD_some]
    · simp only [strsOf, strsOf_mapf, Option.map_some]
      simp only [finish_same (low_str _ _), len_app, Str.join, List.sum_cons, List.sum_nil, strLen, sSay, w_var, w_con, w_glob, w_bin, w_neg, w_not, w_and, w_or, w_ifx, w_cmp, w_tup, w_frz, w_own, w_sub, w_slc, w_call, w_callk, w_bi, w_isi, w_me, w_tab, w_ono, w_oyes, w_nil, w_cons, w_tnil, w_tcons, w_disp, w_comp, w_cat, w_rep, w_nslc, w_rev, w_ival, w_irng, w_gname, w_gtup, w_gsub, w_gsnil, w_gscons, w_sexpr, w_asg, w_par, w_ret, w_retN, w_ifs, w_for, w_pass, w_brk, w_cont, w_snil, w_scons, nxt_nx, nxt_rt, nxt_bk, nxt_ct, fin_rt, fin_nx, is_ok, is_no, is_bind, is_guard, is_of, bin_addI, bin_addS, bin_addT, bin_sub, bin_mul, bin_mulT, bin_fdiv, bin_mod, bin_pow, look_int, look_str, look_bl, look_non, look_tup, look_lst, look_sq, items_tup, items_lst, items_sq, list_lst, list_sq, cmp_lt, cmp_le, cmp_gt, cmp_ge, cmp_eq, cmp_ne, eq_int, eq_str, eq_bl, cmp_isN, cmp_isB, cmp_isnot, cmp_inT, cmp_inL, cmp_ninL, sub_tup, sub_lst, sub_sq, atP0, atP1, atP2, atP3, atP4, atP5, len_tup, len_lst, len_sq, len_str, bi_abs, bi_int, bi_strI, bi_strS, bi_tupL, bi_tupT, bi_tupS, bi_max2, bi_min2, bi_all, bi_any, bi_sum, me_join, it_tup, it_lst, it_sq, slc_tup, opt_none, opt_some, cut1, exists_and_left, List.singleton_append, pick, isTupD, typed, isTy, wipeE, Int.reduceEq, Int.reduceLT, Int.reduceSub, Int.reduceNeg, ex_if, ex_some, ex_map, List.any_cons, List.any_nil, Bool.or_false, Bool.false_or, Bool.or_true, Bool.true_or, decide_true, decide_false, List.getElem?_cons_zero, List.getElem?_cons_succ, Option.some.injEq, exists_eq_left', exists_eq_left, exists_eq_right, true_and, and_true, List.map_cons, List.map_nil, List.set_cons_zero, List.set_cons_succ, List.length_cons, List.length_nil, List.cons_append, List.nil_append, List.reduceReplicate, Nat.reduceSub, Nat.reduceAdd, Nat.reduceLT, Nat.reduceLeDiff, Nat.zero_lt_succ, Nat.lt_add_left_iff_pos, Nat.succ_lt_succ_iff, D.int.injEq, D.bl.injEq, D.str.injEq, D.tup.injEq, D.lst.injEq, D.own.injEq, decide_eq_true_eq, Bool.not_eq_true', decide_eq_false_iff_not, if_true, if_false, ite_true, ite_false, Bool.false_eq_true, reduceCtorEq, false_and, exists_false, Option.map_some, Option.map_none, Option.bind_some, Option.getD_some]
      omega
  | @two k j p q h h' ih ih' =>
    have hl := sSay_len (SmS.two j h h')
    have ih := ih (by omega) (by rw [Nat.pow_succ] at hp; omega)
    have ih' := ih' (by omega) (by rw [Nat.pow_succ] at hp; omega)
    rw [show n + k + 2 = n + (k + 1) + 1 by omega] at ih ih'
    simp only [sSay, len_app, Str.join] at hl
    refine R.eq_of ?_
    rw [w_fn at27 rfl]
    simp only [f27, sayD, ok_sided, ok_two, any_two, Bool.and_self, List.drop_succ_cons, List.drop_zero, w_var, w_con, w_glob, w_bin, w_neg, w_not, w_and, w_or, w_ifx, w_cmp, w_tup, w_frz, w_own, w_sub, w_slc, w_call, w_callk, w_bi, w_isi, w_me, w_tab, w_ono, w_oyes, w_nil, w_cons, w_tnil, w_tcons, w_disp, w_comp, w_cat, w_rep, w_nslc, w_rev, w_ival, w_irng, w_gname, w_gtup, w_gsub, w_gsnil, w_gscons, w_sexpr, w_asg, w_par, w_ret, w_retN, w_ifs, w_for, w_pass, w_brk, w_cont, w_snil, w_scons, nxt_nx, nxt_rt, nxt_bk, nxt_ct, fin_rt, fin_nx, is_ok, is_no, is_bind, is_guard, is_of, bin_addI, bin_addS, bin_addT, bin_sub, bin_mul, bin_mulT, bin_fdiv, bin_mod, bin_pow, look_int, look_str, look_bl, look_non, look_tup, look_lst, look_sq, items_tup, items_lst, items_sq, list_lst, list_sq, cmp_lt, cmp_le, cmp_gt, cmp_ge, cmp_eq, cmp_ne, eq_int, eq_str, eq_bl, cmp_isN, cmp_isB, cmp_isnot, cmp_inT, cmp_inL, cmp_ninL, sub_tup, sub_lst, sub_sq, atP0, atP1, atP2, atP3, atP4, atP5, len_tup, len_lst, len_sq, len_str, bi_abs, bi_int, bi_strI, bi_strS, bi_tupL, bi_tupT, bi_tupS, bi_max2, bi_min2, bi_all, bi_any, bi_sum, me_join, it_tup, it_lst, it_sq, slc_tup, opt_none, opt_some, cut1, exists_and_left, List.singleton_append, pick, isTupD, typed, isTy, wipeE, Int.reduceEq, Int.reduceLT, Int.reduceSub, Int.reduceNeg, ex_if, ex_some, ex_map, List.any_cons, List.any_nil, Bool.or_false, Bool.false_or, Bool.or_true, Bool.true_or, decide_true, decide_false, List.getElem?_cons_zero, List.getElem?_cons_succ, Option.some.injEq, exists_eq_left', exists_eq_left, exists_eq_right, true_and, and_true, List.map_cons, List.map_nil, List.set_cons_zero, List.set_cons_succ, List.length_cons, List.length_nil, List.cons_append, List.nil_append, List.reduceReplicate, Nat.reduceSub, Nat.reduceAdd, Nat.reduceLT, Nat.reduceLeDiff, Nat.zero_lt_succ, Nat.lt_add_left_iff_pos, Nat.succ_lt_succ_iff, D.int.injEq, D.bl.injEq, D.str.injEq, D.tup.injEq, D.lst.injEq, D.own.injEq, decide_eq_true_eq, Bool.not_eq_true', decide_eq_false_iff_not, if_true, if_false, ite_true, ite_false, Bool.false_eq_true, reduceCtorEq, false_and, exists_false, Option.map_some, Option.map_none, Option.bind_some, Option.getD_some]
    refine ⟨by decide, by decide, by decide, Ev.comp_map [_, _] sayD (fun p => .str (sSay p)) rfl rfl (fun p hp => ?_) ?_⟩
    · rcases List.mem_cons.mp hp with rfl | hp
      · simp only [ih, w_var, w_con, w_glob, w_bin, w_neg, w_not, w_and, w_or, w_ifx, w_cmp, w_tup, w_frz, w_own, w_sub, w_slc, w_call, w_callk, w_bi, w_isi, w_me, w_tab, w_ono, w_oyes, w_nil, w_cons, w_tnil, w_tcons, w_disp, w_comp, w_cat, w_rep, w_nslc, w_rev, w_ival, w_irng, w_gname, w_gtup, w_gsub, w_gsnil, w_gscons, w_sexpr, w_asg, w_par, w_ret, w_retN, w_ifs, w_for, w_pass, w_brk, w_cont, w_snil, w_scons, nxt_nx, nxt_rt, nxt_bk, nxt_ct, fin_rt, fin_nx, is_ok, is_no, is_bind, is_guard, is_of, bin_addI, bin_addS, bin_addT, bin_sub, bin_mul, bin_mulT, bin_fdiv, bin_mod, bin_pow, look_int, look_str, look_bl, look_non, look_tup, look_lst, look_sq, items_tup, items_lst, items_sq, list_lst, list_sq, cmp_lt, cmp_le, cmp_gt, cmp_ge, cmp_eq, cmp_ne, eq_int, eq_str, eq_bl, cmp_isN, cmp_isB, cmp_isnot, cmp_inT, cmp_inL, cmp_ninL, sub_tup, sub_lst, sub_sq, atP0, atP1, atP2, atP3, atP4, atP5, len_tup, len_lst, len_sq, len_str, bi_abs, bi_int, bi_strI, bi_strS, bi_tupL, bi_tupT, bi_tupS, bi_max2, bi_min2, bi_all, bi_any, bi_sum, me_join, it_tup, it_lst, it_sq, slc_tup, opt_none, opt_some, cut1, exists_and_left, List.singleton_append, pick, isTupD, typed, isTy, wipeE, Int.reduceEq, Int.reduceLT, Int.reduceSub, Int.reduceNeg, ex_if, ex_some, ex_map, List.any_cons, List.any_nil, Bool.or_false, Bool.false_or, Bool.or_true, Bool.true_or, decide_true, decide_false, List.getElem?_cons_zero, List.getElem?_cons_succ, Option.some.injEq, exists_eq_left', exists_eq_left, exists_eq_right, true_and, and_true, List.map_cons, List.map_nil, List.set_cons_zero, List.set_cons_succ, List.length_cons, List.length_nil, List.cons_append, List.nil_append, List.reduceReplicate, Nat.reduceSub, Nat.reduceAdd, Nat.reduceLT, Nat.reduceLeDiff, Nat.zero_lt_succ, Nat.lt_add_left_iff_pos, Nat.succ_lt_succ_iff, D.int.injEq, D.bl.injEq, D.str.injEq, D.tup.injEq, D.lst.injEq, D.own.injEq, decide_eq_true_eq, Bool.not_eq_true', decide_eq_false_iff_not, if_true, if_false, ite_true, ite_false, Bool.false_eq_true, reduceCtorEq, false_and, exists_false, Option.map_some, Option.map_none, Option.bind_some, Option.getD_some]
      · rw [List.mem_singleton] at hp
        subst hp
        simp only [ih', w_var, w_con, w_glob, w_bin, w_neg, w_not, w_and, w_or, w_ifx, w_cmp, w_tup, w_frz, w_own, w_sub, w_slc, w_call, w_callk, w_bi, w_isi, w_me, w_tab, w_ono, w_oyes, w_nil, w_cons, w_tnil, w_tcons, w_disp, w_comp, w_cat, w_rep, w_nslc, w_rev, w_ival, w_irng, w_gname, w_gtup, w_gsub, w_gsnil, w_gscons, w_sexpr, w_asg, w_par, w_ret, w_retN, w_ifs, w_for, w_pass, w_brk, w_cont, w_snil, w_scons, nxt_nx, nxt_rt, nxt_bk, nxt_ct, fin_rt, fin_nx, is_ok, is_no, is_bind, is_guard, is_of, bin_addI, bin_addS, bin_addT, bin_sub, bin_mul, bin_mulT, bin_fdiv, bin_mod, bin_pow, look_int, look_str, look_bl, look_non, look_tup, look_lst, look_sq, items_tup, items_lst, items_sq, list_lst, list_sq, cmp_lt, cmp_le, cmp_gt, cmp_ge, cmp_eq, cmp_ne, eq_int, eq_str, eq_bl, cmp_isN, cmp_isB, cmp_isnot, cmp_inT, cmp_inL, cmp_ninL, sub_tup, sub_lst, sub_sq, atP0, atP1, atP2, atP3, atP4, atP5, len_tup, len_lst, len_sq, len_str, bi_abs, bi_int, bi_strI, bi_strS, bi_tupL, bi_tupT, bi_tupS, bi_max2, bi_min2, bi_all, bi_any, bi_sum, me_join, it_tup, it_lst, it_sq, slc_tup, opt_none, opt_some, cut1, exists_and_left, List.singleton_append, pick, isTupD, typed, isTy, wipeE, Int.reduceEq, Int.reduceLT, Int.reduceSub, Int.reduceNeg, ex_if, ex_some, ex_map, List.any_cons, List.any_nil, Bool.or_false, Bool.false_or, Bool.or_true, Bool.true_or, decide_true, decide_false, List.getElem?_cons_zero, List.getElem?_cons_succ, Option.some.injEq, exists_eq_left', exists_eq_left, exists_eq_right, true_and, and_true, List.map_cons, List.map_nil, List.set_cons_zero, List.set_cons_succ, List.length_cons, List.length_nil, List.cons_append, List.nil_append, List.reduceReplicate, Nat.reduceSub, Nat.reduceAdd, Nat.reduceLT, Nat.reduceLeDiff, Nat.zero_lt_succ, Nat.lt_add_left_iff_pos, Nat.succ_lt_succ_iff, D.int.injEq, D.bl.injEq, D.str.injEq, D.tup.injEq, D.lst.injEq, D.own.injEq, decide_eq_true_eq, Bool.not_eq_true', decide_eq_false_iff_not, if_true, if_false, ite_true, ite_false, Bool.false_eq_true, reduceCtorEq, false_and, exists_false, Option.map_some, Option.map_none, Option.bind_some, Option.getD_some]
    · simp only [strsOf, strsOf_mapf, Option.map_some]
      simp only [finish_same (low_str _ _), len_app, Str.join, List.sum_cons, List.sum_nil, strLen, sSay, w_var, w_con, w_glob, w_bin, w_neg, w_not, w_and, w_or, w_ifx, w_cmp, w_tup, w_frz, w_own, w_sub, w_slc, w_call, w_callk, w_bi, w_isi, w_me, w_tab, w_ono, w_oyes, w_nil, w_cons, w_tnil, w_tcons, w_disp, w_comp, w_cat, w_rep, w_nslc, w_rev, w_ival, w_irng, w_gname, w_gtup, w_gsub, w_gsnil, w_gscons, w_sexpr, w_asg, w_par, w_ret, w_retN, w_ifs, w_for, w_pass, w_brk, w_cont, w_snil, w_scons, nxt_nx, nxt_rt, nxt_bk, nxt_ct, fin_rt, fin_nx, is_ok, is_no, is_bind, is_guard, is_of, bin_addI, bin_addS, bin_addT, bin_sub, bin_mul, bin_mulT, bin_fdiv, bin_mod, bin_pow, look_int, look_str, look_bl, look_non, look_tup, look_lst, look_sq, items_tup, items_lst, items_sq, list_lst, list_sq, cmp_lt, cmp_le, cmp_gt, cmp_ge, cmp_eq, cmp_ne, eq_int, eq_str, eq_bl, cmp_isN, cmp_isB, cmp_isnot, cmp_inT, cmp_inL, cmp_ninL, sub_tup, sub_lst, sub_sq, atP0, atP1, atP2, atP3, atP4, atP5, len_tup, len_lst, len_sq, len_str, bi_abs, bi_int, bi_strI, bi_strS, bi_tupL, bi_tupT, bi_tupS, bi_max2, bi_min2, bi_all, bi_any, bi_sum, me_join, it_tup, it_lst, it_sq, slc_tup, opt_none, opt_some, cut1, exists_and_left, List.singleton_append, pick, isTupD, typed, isTy, wipeE, Int.reduceEq, Int.reduceLT, Int.reduceSub, Int.reduceNeg, ex_if, ex_some, ex_map, List.any_cons, List.any_nil, Bool.or_false, Bool.false_or, Bool.or_true, Bool.true_or, decide_true, decide_false, List.getElem?_cons_zero, List.getElem?_cons_succ, Option.some.injEq, exists_eq_left', exists_eq_left, exists_eq_right, true_and, and_true, List.map_cons, List.map_nil, List.set_cons_zero, List.set_cons_succ, List.length_cons, List.length_nil, List.cons_append, List.nil_append, List.reduceReplicate, Nat.reduceSub, Nat.reduceAdd, Nat.reduceLT, Nat.reduceLeDiff, Nat.zero_lt_succ, Nat.lt_add_left_iff_pos, Nat.succ_lt_succ_iff, D.int.injEq, D.bl.injEq, D.str.injEq, D.tup.injEq, D.lst.injEq, D.own.injEq, decide_eq_true_eq, Bool.not_eq_true', decide_eq_false_iff_not, if_true, if_false, ite_true, ite_false, Bool.false_eq_true, reduceCtorEq, false_and, exists_false, Option.map_some, Option.map_none, Option.bind_some, Option.getD_some]
      omega
theorem same (x : Str) : callF tab G wf (n + 1) 10 [.str x, .str x] S = .ok (.bl true) S := by
  refine R.eq_of ?_
  rw [w_fn at10 rfl]
  simp only [f10, finish_same (low_bl _ _), w_var, w_con, w_glob, w_bin, w_neg, w_not, w_and, w_or, w_ifx, w_cmp, w_tup, w_frz, w_own, w_sub, w_slc, w_call, w_callk, w_bi, w_isi, w_me, w_tab, w_ono, w_oyes, w_nil, w_cons, w_tnil, w_tcons, w_disp, w_comp, w_cat, w_rep, w_nslc, w_rev, w_ival, w_irng, w_gname, w_gtup, w_gsub, w_gsnil, w_gscons, w_sexpr, w_asg, w_par, w_ret, w_retN, w_ifs, w_for, w_pass, w_brk, w_cont, w_snil, w_scons, nxt_nx, nxt_rt, nxt_bk, nxt_ct, fin_rt, fin_nx, is_ok, is_no, is_bind, is_guard, is_of, bin_addI, bin_addS, bin_addT, bin_sub, bin_mul, bin_mulT, bin_fdiv, bin_mod, bin_pow, look_int, look_str, look_bl, look_non, look_tup, look_lst, look_sq, items_tup, items_lst, items_sq, list_lst, list_sq, cmp_lt, cmp_le, cmp_gt, cmp_ge, cmp_eq, cmp_ne, eq_int, eq_str, eq_bl, cmp_isN, cmp_isB, cmp_isnot, cmp_inT, cmp_inL, cmp_ninL, sub_tup, sub_lst, sub_sq, atP0, atP1, atP2, atP3, atP4, atP5, len_tup, len_lst, len_sq, len_str, bi_abs, bi_int, bi_strI, bi_strS, bi_tupL, bi_tupT, bi_tupS, bi_max2, bi_min2, bi_all, bi_any, bi_sum, me_join, it_tup, it_lst, it_sq, slc_tup, opt_none, opt_some, cut1, exists_and_left, List.singleton_append, pick, isTupD, typed, isTy, wipeE, Int.reduceEq, Int.reduceLT, Int.reduceSub, Int.reduceNeg, ex_if, ex_some, ex_map, List.any_cons, List.any_nil, Bool.or_false, Bool.false_or, Bool.or_true, Bool.true_or, decide_true, decide_false, List.getElem?_cons_zero, List.getElem?_cons_succ, Option.some.injEq, exists_eq_left', exists_eq_left, exists_eq_right, true_and, and_true, List.map_cons, List.map_nil, List.set_cons_zero, List.set_cons_succ, List.length_cons, List.length_nil, List.cons_append, List.nil_append, List.reduceReplicate, Nat.reduceSub, Nat.reduceAdd, Nat.reduceLT, Nat.reduceLeDiff, Nat.zero_lt_succ, Nat.lt_add_left_iff_pos, Nat.succ_lt_succ_iff, D.int.injEq, D.bl.injEq, D.str.injEq, D.tup.injEq, D.lst.injEq, D.own.injEq, decide_eq_true_eq, Bool.not_eq_true', decide_eq_false_iff_not, if_true, if_false, ite_true, ite_false, Bool.false_eq_true, reduceCtorEq, false_and, exists_false, Option.map_some, Option.map_none, Option.bind_some, Option.getD_some]
/-! ### all seven -/
inductive Th where
  | num (p : Int × Int)
  | point (ps : List (Int × Int))
  | row (ws : List (Option Int))
  | wish (ws : List (Option Int))
  | book (b : Int × List (List Int × Int))
  | say (s : Say)
  | quest (q : List Int × Int)
def thD : Th → D
  | .num p => nD p
  | .point ps => .tup (ps.map nD)
  | .row ws => .tup (ws.map wD)
  | .wish ws => .tup (ws.map wD)
  | .book b => bD b
  | .say s => sayD s
  | .quest q => qD q
def thS : Th → Str
  | .num p => sNum p
  | .point ps => sPoint ps
  | .row ws => sWish ws
  | .wish ws => sWish ws
  | .book b => sBook b
  | .say s => sSay s
  | .quest q => sQ q
def thN : Th → Int
  | .num _ => 0
  | .point _ => 1
  | .row _ => 2
  | .wish _ => 3
  | .book _ => 4
  | .say _ => 5
  | .quest _ => 6
def SmT : Th → Prop
  | .num p => SmN p
  | .point ps => (∀ p ∈ ps, SmN p) ∧ ps.length ≤ 12
  | .row ws => (∀ w ∈ ws, Sign w) ∧ ws.length ≤ 20
  | .wish ws => (∀ w ∈ ws, Sign w) ∧ ws.length ≤ 20
  | .book b => SmB b
  | .say s => SmS 12 s
  | .quest q => SmQ q
theorem shown {t : Th} (h : SmT t) (b : Bool) : callF tab G wf (n + 20) 28 [.int (thN t), thD t, .bl b] S = .ok (.str (thS t)) S := by
  refine R.eq_of ?_
  rw [w_fn at28 rfl]
  cases t with
  | num p => simp only [f28, thN, thD, thS, show_number (n := n + 18) h, Int.reduceEq, finish_same (low_str _ _), ite_self, w_var, w_con, w_glob, w_bin, w_neg, w_not, w_and, w_or, w_ifx, w_cmp, w_tup, w_frz, w_own, w_sub, w_slc, w_call, w_callk, w_bi, w_isi, w_me, w_tab, w_ono, w_oyes, w_nil, w_cons, w_tnil, w_tcons, w_disp, w_comp, w_cat, w_rep, w_nslc, w_rev, w_ival, w_irng, w_gname, w_gtup, w_gsub, w_gsnil, w_gscons, w_sexpr, w_asg, w_par, w_ret, w_retN, w_ifs, w_for, w_pass, w_brk, w_cont, w_snil, w_scons, nxt_nx, nxt_rt, nxt_bk, nxt_ct, fin_rt, fin_nx, is_ok, is_no, is_bind, is_guard, is_of, bin_addI, bin_addS, bin_addT, bin_sub, bin_mul, bin_mulT, bin_fdiv, bin_mod, bin_pow, look_int, look_str, look_bl, look_non, look_tup, look_lst, look_sq, items_tup, items_lst, items_sq, list_lst, list_sq, cmp_lt, cmp_le, cmp_gt, cmp_ge, cmp_eq, cmp_ne, eq_int, eq_str, eq_bl, cmp_isN, cmp_isB, cmp_isnot, cmp_inT, cmp_inL, cmp_ninL, sub_tup, sub_lst, sub_sq, atP0, atP1, atP2, atP3, atP4, atP5, len_tup, len_lst, len_sq, len_str, bi_abs, bi_int, bi_strI, bi_strS, bi_tupL, bi_tupT, bi_tupS, bi_max2, bi_min2, bi_all, bi_any, bi_sum, me_join, it_tup, it_lst, it_sq, slc_tup, opt_none, opt_some, cut1, exists_and_left, List.singleton_append, pick, isTupD, typed, isTy, wipeE, Int.reduceEq, Int.reduceLT, Int.reduceSub, Int.reduceNeg, ex_if, ex_some, ex_map, List.any_cons, List.any_nil, Bool.or_false, Bool.false_or, Bool.or_true, Bool.true_or, decide_true, decide_false, List.getElem?_cons_zero, List.getElem?_cons_succ, Option.some.injEq, exists_eq_left', exists_eq_left, exists_eq_right, true_and, and_true, List.map_cons, List.map_nil, List.set_cons_zero, List.set_cons_succ, List.length_cons, List.length_nil, List.cons_append, List.nil_append, List.reduceReplicate, Nat.reduceSub, Nat.reduceAdd, Nat.reduceLT, Nat.reduceLeDiff, Nat.zero_lt_succ, Nat.lt_add_left_iff_pos, Nat.succ_lt_succ_iff, D.int.injEq, D.bl.injEq, D.str.injEq, D.tup.injEq, D.lst.injEq, D.own.injEq, decide_eq_true_eq, Bool.not_eq_true', decide_eq_false_iff_not, if_true, if_false, ite_true, ite_false, Bool.false_eq_true, reduceCtorEq, false_and, exists_false, Option.map_some, Option.map_none, Option.bind_some, Option.getD_some]
  | point ps => simp only [f28, thN, thD, thS, show_point (n := n + 17) h.1 h.2, Int.reduceEq, finish_same (low_str _ _), ite_self, w_var, w_con, w_glob, w_bin, w_neg, w_not, w_and, w_or, w_ifx, w_cmp, w_tup, w_frz, w_own, w_sub, w_slc, w_call, w_callk, w_bi, w_isi, w_me, w_tab, w_ono, w_oyes, w_nil, w_cons, w_tnil, w_tcons, w_disp, w_comp, w_cat, w_rep, w_nslc, w_rev, w_ival, w_irng, w_gname, w_gtup, w_gsub, w_gsnil, w_gscons, w_sexpr, w_asg, w_par, w_ret, w_retN, w_ifs, w_for, w_pass, w_brk, w_cont, w_snil, w_scons, nxt_nx, nxt_rt, nxt_bk, nxt_ct, fin_rt, fin_nx, is_ok, is_no, is_bind, is_guard, is_of, bin_addI, bin_addS, bin_addT, bin_sub, bin_mul, bin_mulT, bin_fdiv, bin_mod, bin_pow, look_int, look_str, look_bl, look_non, look_tup, look_lst, look_sq, items_tup, items_lst, items_sq, list_lst, list_sq, cmp_lt, cmp_le, cmp_gt, cmp_ge, cmp_eq, cmp_ne, eq_int, eq_str, eq_bl, cmp_isN, cmp_isB, cmp_isnot, cmp_inT, cmp_inL, cmp_ninL, sub_tup, sub_lst, sub_sq, atP0, atP1, atP2, atP3, atP4, atP5, len_tup, len_lst, len_sq, len_str, bi_abs, bi_int, bi_strI, bi_strS, bi_tupL, bi_tupT, bi_tupS, bi_max2, bi_min2, bi_all, bi_any, bi_sum, me_join, it_tup, it_lst, it_sq, slc_tup, opt_none, opt_some, cut1, exists_and_left, List.singleton_append, pick, isTupD, typed, isTy, wipeE, Int.reduceEq, Int.reduceLT, Int.reduceSub, Int.reduceNeg, ex_if, ex_some, ex_map, List.any_cons, List.any_nil, Bool.or_false, Bool.false_or, Bool.or_true, Bool.true_or, decide_true, decide_false, List.getElem?_cons_zero, List.getElem?_cons_succ, Option.some.injEq, exists_eq_left', exists_eq_left, exists_eq_right, true_and, and_true, List.map_cons, List.map_nil, List.set_cons_zero, List.set_cons_succ, List.length_cons, List.length_nil, List.cons_append, List.nil_append, List.reduceReplicate, Nat.reduceSub, Nat.reduceAdd, Nat.reduceLT, Nat.reduceLeDiff, Nat.zero_lt_succ, Nat.lt_add_left_iff_pos, Nat.succ_lt_succ_iff, D.int.injEq, D.bl.injEq, D.str.injEq, D.tup.injEq, D.lst.injEq, D.own.injEq, decide_eq_true_eq, Bool.not_eq_true', decide_eq_false_iff_not, if_true, if_false, ite_true, ite_false, Bool.false_eq_true, reduceCtorEq, false_and, exists_false, Option.map_some, Option.map_none, Option.bind_some, Option.getD_some]
  | row ps => simp only [f28, thN, thD, thS, show_row (n := n + 17) h.1 h.2, Int.reduceEq, finish_same (low_str _ _), ite_self, w_var, w_con, w_glob, w_bin, w_neg, w_not, w_and, w_or, w_ifx, w_cmp, w_tup, w_frz, w_own, w_sub, w_slc, w_call, w_callk, w_bi, w_isi, w_me, w_tab, w_ono, w_oyes, w_nil, w_cons, w_tnil, w_tcons, w_disp, w_comp, w_cat, w_rep, w_nslc, w_rev, w_ival, w_irng, w_gname, w_gtup, w_gsub, w_gsnil, w_gscons, w_sexpr, w_asg, w_par, w_ret, w_retN, w_ifs, w_for, w_pass, w_brk, w_cont, w_snil, w_scons, nxt_nx, nxt_rt, nxt_bk, nxt_ct, fin_rt, fin_nx, is_ok, is_no, is_bind, is_guard, is_of, bin_addI, bin_addS, bin_addT, bin_sub, bin_mul, bin_mulT, bin_fdiv, bin_mod, bin_pow, look_int, look_str, look_bl, look_non, look_tup, look_lst, look_sq, items_tup, items_lst, items_sq, list_lst, list_sq, cmp_lt, cmp_le, cmp_gt, cmp_ge, cmp_eq, cmp_ne, eq_int, eq_str, eq_bl, cmp_isN, cmp_isB, cmp_isnot, cmp_inT, cmp_inL, cmp_ninL, sub_tup, sub_lst, sub_sq, atP0, atP1, atP2, atP3, atP4, atP5, len_tup, len_lst, len_sq, len_str, bi_abs, bi_int, bi_strI, bi_strS, bi_tupL, bi_tupT, bi_tupS, bi_max2, bi_min2, bi_all, bi_any, bi_sum, me_join, it_tup, it_lst, it_sq, slc_tup, opt_none, opt_some, cut1, exists_and_left, List.singleton_append, pick, isTupD, typed, isTy, wipeE, Int.reduceEq, Int.reduceLT, Int.reduceSub, Int.reduceNeg, ex_if, ex_some, ex_map, List.any_cons, List.any_nil, Bool.or_false, Bool.false_or, Bool.or_true, Bool.true_or, decide_true, decide_false, List.getElem?_cons_zero, List.getElem?_cons_succ, Option.some.injEq, exists_eq_left', exists_eq_left, exists_eq_right, true_and, and_true, List.map_cons, List.map_nil, List.set_cons_zero, List.set_cons_succ, List.length_cons, List.length_nil, List.cons_append, List.nil_append, List.reduceReplicate, Nat.reduceSub, Nat.reduceAdd, Nat.reduceLT, Nat.reduceLeDiff, Nat.zero_lt_succ, Nat.lt_add_left_iff_pos, Nat.succ_lt_succ_iff, D.int.injEq, D.bl.injEq, D.str.injEq, D.tup.injEq, D.lst.injEq, D.own.injEq, decide_eq_true_eq, Bool.not_eq_true', decide_eq_false_iff_not, if_true, if_false, ite_true, ite_false, Bool.false_eq_true, reduceCtorEq, false_and, exists_false, Option.map_some, Option.map_none, Option.bind_some, Option.getD_some]
  | wish ps => simp only [f28, thN, thD, thS, show_wish (n := n + 18) h.1 h.2, Int.reduceEq, finish_same (low_str _ _), ite_self, w_var, w_con, w_glob, w_bin, w_neg, w_not, w_and, w_or, w_ifx, w_cmp, w_tup, w_frz, w_own, w_sub, w_slc, w_call, w_callk, w_bi, w_isi, w_me, w_tab, w_ono, w_oyes, w_nil, w_cons, w_tnil, w_tcons, w_disp, w_comp, w_cat, w_rep, w_nslc, w_rev, w_ival, w_irng, w_gname, w_gtup, w_gsub, w_gsnil, w_gscons, w_sexpr, w_asg, w_par, w_ret, w_retN, w_ifs, w_for, w_pass, w_brk, w_cont, w_snil, w_scons, nxt_nx, nxt_rt, nxt_bk, nxt_ct, fin_rt, fin_nx, is_ok, is_no, is_bind, is_guard, is_of, bin_addI, bin_addS, bin_addT, bin_sub, bin_mul, bin_mulT, bin_fdiv, bin_mod, bin_pow, look_int, look_str, look_bl, look_non, look_tup, look_lst, look_sq, items_tup, items_lst, items_sq, list_lst, list_sq, cmp_lt, cmp_le, cmp_gt, cmp_ge, cmp_eq, cmp_ne, eq_int, eq_str, eq_bl, cmp_isN, cmp_isB, cmp_isnot, cmp_inT, cmp_inL, cmp_ninL, sub_tup, sub_lst, sub_sq, atP0, atP1, atP2, atP3, atP4, atP5, len_tup, len_lst, len_sq, len_str, bi_abs, bi_int, bi_strI, bi_strS, bi_tupL, bi_tupT, bi_tupS, bi_max2, bi_min2, bi_all, bi_any, bi_sum, me_join, it_tup, it_lst, it_sq, slc_tup, opt_none, opt_some, cut1, exists_and_left, List.singleton_append, pick, isTupD, typed, isTy, wipeE, Int.reduceEq, Int.reduceLT, Int.reduceSub, Int.reduceNeg, ex_if, ex_some, ex_map, List.any_cons, List.any_nil, Bool.or_false, Bool.false_or, Bool.or_true, Bool.true_or, decide_true, decide_false, List.getElem?_cons_zero, List.getElem?_cons_succ, Option.some.injEq, exists_eq_left', exists_eq_left, exists_eq_right, true_and, and_true, List.map_cons, List.map_nil, List.set_cons_zero, List.set_cons_succ, List.length_cons, List.length_nil, List.cons_append, List.nil_append, List.reduceReplicate, Nat.reduceSub, Nat.reduceAdd, Nat.reduceLT, Nat.reduceLeDiff, Nat.zero_lt_succ, Nat.lt_add_left_iff_pos, Nat.succ_lt_succ_iff, D.int.injEq, D.bl.injEq, D.str.injEq, D.tup.injEq, D.lst.injEq, D.own.injEq, decide_eq_true_eq, Bool.not_eq_true', decide_eq_false_iff_not, if_true, if_false, ite_true, ite_false, Bool.false_eq_true, reduceCtorEq, false_and, exists_false, Option.map_some, Option.map_none, Option.bind_some, Option.getD_some]
  | book ps => simp only [f28, thN, thD, thS, show_book (n := n + 16) h, Int.reduceEq, finish_same (low_str _ _), ite_self, w_var, w_con, w_glob, w_bin, w_neg, w_not, w_and, w_or, w_ifx, w_cmp, w_tup, w_frz, w_own, w_sub, w_slc, w_call, w_callk, w_bi, w_isi, w_me, w_tab, w_ono, w_oyes, w_nil, w_cons, w_tnil, w_tcons, w_disp, w_comp, w_cat, w_rep, w_nslc, w_rev, w_ival, w_irng, w_gname, w_gtup, w_gsub, w_gsnil, w_gscons, w_sexpr, w_asg, w_par, w_ret, w_retN, w_ifs, w_for, w_pass, w_brk, w_cont, w_snil, w_scons, nxt_nx, nxt_rt, nxt_bk, nxt_ct, fin_rt, fin_nx, is_ok, is_no, is_bind, is_guard, is_of, bin_addI, bin_addS, bin_addT, bin_sub, bin_mul, bin_mulT, bin_fdiv, bin_mod, bin_pow, look_int, look_str, look_bl, look_non, look_tup, look_lst, look_sq, items_tup, items_lst, items_sq, list_lst, list_sq, cmp_lt, cmp_le, cmp_gt, cmp_ge, cmp_eq, cmp_ne, eq_int, eq_str, eq_bl, cmp_isN, cmp_isB, cmp_isnot, cmp_inT, cmp_inL, cmp_ninL, sub_tup, sub_lst, sub_sq, atP0, atP1, atP2, atP3, atP4, atP5, len_tup, len_lst, len_sq, len_str, bi_abs, bi_int, bi_strI, bi_strS, bi_tupL, bi_tupT, bi_tupS, bi_max2, bi_min2, bi_all, bi_any, bi_sum, me_join, it_tup, it_lst, it_sq, slc_tup, opt_none, opt_some, cut1, exists_and_left, List.singleton_append, pick, isTupD, typed, isTy, wipeE, Int.reduceEq, Int.reduceLT, Int.reduceSub, Int.reduceNeg, ex_if, ex_some, ex_map, List.any_cons, List.any_nil, Bool.or_false, Bool.false_or, Bool.or_true, Bool.true_or, decide_true, decide_false, List.getElem?_cons_zero, List.getElem?_cons_succ, Option.some.injEq, exists_eq_left', exists_eq_left, exists_eq_right, true_and, and_true, List.map_cons, List.map_nil, List.set_cons_zero, List.set_cons_succ, List.length_cons, List.length_nil, List.cons_append, List.nil_append, List.reduceReplicate, Nat.reduceSub, Nat.reduceAdd, Nat.reduceLT, Nat.reduceLeDiff, Nat.zero_lt_succ, Nat.lt_add_left_iff_pos, Nat.succ_lt_succ_iff, D.int.injEq, D.bl.injEq, D.str.injEq, D.tup.injEq, D.lst.injEq, D.own.injEq, decide_eq_true_eq, Bool.not_eq_true', decide_eq_false_iff_not, if_true, if_false, ite_true, ite_false, Bool.false_eq_true, reduceCtorEq, false_and, exists_false, Option.map_some, Option.map_none, Option.bind_some, Option.getD_some]
  | say s => simp only [f28, thN, thD, thS, show_saying (n := n + 5) h (Nat.le_refl _), Int.reduceEq, finish_same (low_str _ _), ite_self, w_var, w_con, w_glob, w_bin, w_neg, w_not, w_and, w_or, w_ifx, w_cmp, w_tup, w_frz, w_own, w_sub, w_slc, w_call, w_callk, w_bi, w_isi, w_me, w_tab, w_ono, w_oyes, w_nil, w_cons, w_tnil, w_tcons, w_disp, w_comp, w_cat, w_rep, w_nslc, w_rev, w_ival, w_irng, w_gname, w_gtup, w_gsub, w_gsnil, w_gscons, w_sexpr, w_asg, w_par, w_ret, w_retN, w_ifs, w_for, w_pass, w_brk, w_cont, w_snil, w_scons, nxt_nx, nxt_rt, nxt_bk, nxt_ct, fin_rt, fin_nx, is_ok, is_no, is_bind, is_guard, is_of, bin_addI, bin_addS, bin_addT, bin_sub, bin_mul, bin_mulT, bin_fdiv, bin_mod, bin_pow, look_int, look_str, look_bl, look_non, look_tup, look_lst, look_sq, items_tup, items_lst, items_sq, list_lst, list_sq, cmp_lt, cmp_le, cmp_gt, cmp_ge, cmp_eq, cmp_ne, eq_int, eq_str, eq_bl, cmp_isN, cmp_isB, cmp_isnot, cmp_inT, cmp_inL, cmp_ninL, sub_tup, sub_lst, sub_sq, atP0, atP1, atP2, atP3, atP4, atP5, len_tup, len_lst, len_sq, len_str, bi_abs, bi_int, bi_strI, bi_strS, bi_tupL, bi_tupT, bi_tupS, bi_max2, bi_min2, bi_all, bi_any, bi_sum, me_join, it_tup, it_lst, it_sq, slc_tup, opt_none, opt_some, cut1, exists_and_left, List.singleton_append, pick, isTupD, typed, isTy, wipeE, Int.reduceEq, Int.reduceLT, Int.reduceSub, Int.reduceNeg, ex_if, ex_some, ex_map, List.any_cons, List.any_nil, Bool.or_false, Bool.false_or, Bool.or_true, Bool.true_or, decide_true, decide_false, List.getElem?_cons_zero, List.getElem?_cons_succ, Option.some.injEq, exists_eq_left', exists_eq_left, exists_eq_right, true_and, and_true, List.map_cons, List.map_nil, List.set_cons_zero, List.set_cons_succ, List.length_cons, List.length_nil, List.cons_append, List.nil_append, List.reduceReplicate, Nat.reduceSub, Nat.reduceAdd, Nat.reduceLT, Nat.reduceLeDiff, Nat.zero_lt_succ, Nat.lt_add_left_iff_pos, Nat.succ_lt_succ_iff, D.int.injEq, D.bl.injEq, D.str.injEq, D.tup.injEq, D.lst.injEq, D.own.injEq, decide_eq_true_eq, Bool.not_eq_true', decide_eq_false_iff_not, if_true, if_false, ite_true, ite_false, Bool.false_eq_true, reduceCtorEq, false_and, exists_false, Option.map_some, Option.map_none, Option.bind_some, Option.getD_some]
  | quest s => simp only [f28, thN, thD, thS, show_question (n := n + 17) h, Int.reduceEq, finish_same (low_str _ _), ite_self, w_var, w_con, w_glob, w_bin, w_neg, w_not, w_and, w_or, w_ifx, w_cmp, w_tup, w_frz, w_own, w_sub, w_slc, w_call, w_callk, w_bi, w_isi, w_me, w_tab, w_ono, w_oyes, w_nil, w_cons, w_tnil, w_tcons, w_disp, w_comp, w_cat, w_rep, w_nslc, w_rev, w_ival, w_irng, w_gname, w_gtup, w_gsub, w_gsnil, w_gscons, w_sexpr, w_asg, w_par, w_ret, w_retN, w_ifs, w_for, w_pass, w_brk, w_cont, w_snil, w_scons, nxt_nx, nxt_rt, nxt_bk, nxt_ct, fin_rt, fin_nx, is_ok, is_no, is_bind, is_guard, is_of, bin_addI, bin_addS, bin_addT, bin_sub, bin_mul, bin_mulT, bin_fdiv, bin_mod, bin_pow, look_int, look_str, look_bl, look_non, look_tup, look_lst, look_sq, items_tup, items_lst, items_sq, list_lst, list_sq, cmp_lt, cmp_le, cmp_gt, cmp_ge, cmp_eq, cmp_ne, eq_int, eq_str, eq_bl, cmp_isN, cmp_isB, cmp_isnot, cmp_inT, cmp_inL, cmp_ninL, sub_tup, sub_lst, sub_sq, atP0, atP1, atP2, atP3, atP4, atP5, len_tup, len_lst, len_sq, len_str, bi_abs, bi_int, bi_strI, bi_strS, bi_tupL, bi_tupT, bi_tupS, bi_max2, bi_min2, bi_all, bi_any, bi_sum, me_join, it_tup, it_lst, it_sq, slc_tup, opt_none, opt_some, cut1, exists_and_left, List.singleton_append, pick, isTupD, typed, isTy, wipeE, Int.reduceEq, Int.reduceLT, Int.reduceSub, Int.reduceNeg, ex_if, ex_some, ex_map, List.any_cons, List.any_nil, Bool.or_false, Bool.false_or, Bool.or_true, Bool.true_or, decide_true, decide_false, List.getElem?_cons_zero, List.getElem?_cons_succ, Option.some.injEq, exists_eq_left', exists_eq_left, exists_eq_right, true_and, and_true, List.map_cons, List.map_nil, List.set_cons_zero, List.set_cons_succ, List.length_cons, List.length_nil, List.cons_append, List.nil_append, List.reduceReplicate, Nat.reduceSub, Nat.reduceAdd, Nat.reduceLT, Nat.reduceLeDiff, Nat.zero_lt_succ, Nat.lt_add_left_iff_pos, Nat.succ_lt_succ_iff, D.int.injEq, D.bl.injEq, D.str.injEq, D.tup.injEq, D.lst.injEq, D.own.injEq, decide_eq_true_eq, Bool.not_eq_true', decide_eq_false_iff_not, if_true, if_false, ite_true, ite_false, Bool.false_eq_true, reduceCtorEq, false_and, exists_false, Option.map_some, Option.map_none, Option.bind_some, Option.getD_some]
end K47

namespace K47
open PySem Ev
variable {wf n : Nat} {S : Sto} {w k : Nat}
theorem draw {m : Int} (hm : 0 < m) (hb : bits m < 9000) (h : Well w (k + 1) S) : (callF tab G wf (n + 1) 9 [.own w, .int m] S).Is fun d S' => ∃ v : Int, d = .int v ∧ 0 ≤ v ∧ v < m ∧ Dr w k S S' := by
  have hw := h.lt
  obtain ⟨x, y, c, hS, hx, hy, hy2, hc, hc2⟩ := h
  have r0 : ∀ i, subD S (.own w) (.int i) = atP [.int x, .int y, .int c] i := fun i => sub_own _ i _ hS
  have r1 : ∀ o i, subD (S.set w (.lst o)) (.own w) (.int i) = atP o i := fun o i => sub_own _ i _ (List.getElem?_set_self hw)
  have p0 : ∀ v, putD (.own w) (.int 0) v S = .ok () (S.set w (.lst [v, .int y, .int c])) := fun v => put_at (p := 0) hS rfl v
  have p2 : ∀ v, putD (.own w) (.int 2) v S = .ok () (S.set w (.lst [.int x, .int y, v])) := fun v => put_at (p := 2) hS rfl v
  have hm0 : modOk m = true := by simp only [modOk, decide_eq_true_eq]; omega
  have hd0 : divOk m = true := by simp only [divOk, Bool.and_eq_true, decide_eq_true_eq]; exact ⟨by omega, hb⟩
  have fin : ∀ (x' c' : Int) (d : Int), 0 ≤ x' → 0 ≤ c' → c' + k ≤ 2 ^ 60 → 0 ≤ d → d < m → (finish false S (.int d) (S.set w (.lst [.int x', .int y, .int c']))).Is fun d S' => ∃ v : Int, d = .int v ∧ 0 ≤ v ∧ v < m ∧ Dr w k S S' := fun x' c' d h1 h2 h3 h4 h5 => by
    have W : Well w k (S.set w (.lst [.int x', .int y, .int c'])) := ⟨x', y, c', List.getElem?_set_self hw, h1, hy, hy2, h2, h3⟩
    rw [finish_well (Up.set _) W (low_int _ _), is_ok]
    exact ⟨d, rfl, h4, h5, (Up.set _).take, by rw [List.length_take, List.length_set]; omega, W.take hw⟩
  rw [w_fn at9 rfl]
  simp only [f9, r0, r1, p0, p2, hm0, hd0, w_var, w_con, w_glob, w_bin, w_neg, w_not, w_and, w_or, w_ifx, w_cmp, w_tup, w_frz, w_own, w_sub, w_slc, w_call, w_callk, w_bi, w_isi, w_me, w_tab, w_ono, w_oyes, w_nil, w_cons, w_tnil, w_tcons, w_disp, w_comp, w_cat, w_rep, w_nslc, w_rev, w_ival, w_irng, w_gname, w_gtup, w_gsub, w_gsnil, w_gscons, w_sexpr, w_asg, w_par, w_ret, w_retN, w_ifs, w_for, w_pass, w_brk, w_cont, w_snil, w_scons, nxt_nx, nxt_rt, nxt_bk, nxt_ct, fin_rt, fin_nx, is_ok, is_no, is_bind, is_guard, is_of, bin_addI, bin_addS, bin_addT, bin_sub, bin_mul, bin_mulT, bin_fdiv, bin_mod, bin_pow, look_int, look_str, look_bl, look_non, look_tup, look_lst, look_sq, items_tup, items_lst, items_sq, list_lst, list_sq, cmp_lt, cmp_le, cmp_gt, cmp_ge, cmp_eq, cmp_ne, eq_int, eq_str, eq_bl, cmp_isN, cmp_isB, cmp_isnot, cmp_inT, cmp_inL, cmp_ninL, sub_tup, sub_lst, sub_sq, atP0, atP1, atP2, atP3, atP4, atP5, len_tup, len_lst, len_sq, len_str, bi_abs, bi_int, bi_strI, bi_strS, bi_tupL, bi_tupT, bi_tupS, bi_max2, bi_min2, bi_all, bi_any, bi_sum, me_join, it_tup, it_lst, it_sq, slc_tup, opt_none, opt_some, cut1, exists_and_left, List.singleton_append, pick, isTupD, typed, isTy, wipeE, Int.reduceEq, Int.reduceLT, Int.reduceSub, Int.reduceNeg, ex_if, ex_some, ex_map, List.any_cons, List.any_nil, Bool.or_false, Bool.false_or, Bool.or_true, Bool.true_or, decide_true, decide_false, List.getElem?_cons_zero, List.getElem?_cons_succ, Option.some.injEq, exists_eq_left', exists_eq_left, exists_eq_right, true_and, and_true, List.map_cons, List.map_nil, List.set_cons_zero, List.set_cons_succ, List.length_cons, List.length_nil, List.cons_append, List.nil_append, List.reduceReplicate, Nat.reduceSub, Nat.reduceAdd, Nat.reduceLT, Nat.reduceLeDiff, Nat.zero_lt_succ, Nat.lt_add_left_iff_pos, Nat.succ_lt_succ_iff, D.int.injEq, D.bl.injEq, D.str.injEq, D.tup.injEq, D.lst.injEq, D.own.injEq, decide_eq_true_eq, Bool.not_eq_true', decide_eq_false_iff_not, if_true, if_false, ite_true, ite_false, Bool.false_eq_true, reduceCtorEq, false_and, exists_false, Option.map_some, Option.map_none, Option.bind_some, Option.getD_some]
  split
  · exact fin _ _ _ (Int.fdiv_nonneg hx (Int.le_of_lt hm)) hc (by omega) (fmod_pos _ hm) (fmod_lt _ hm)
  · have q1 : (0 : Int) < 10 ^ Int.toNat 29 + 319 := by decide
    have q2 := fmod_pos ((y + 49979693 * (c + 1)) ^ Int.toNat 3) q1
    have q3 := fmod_lt ((y + 49979693 * (c + 1)) ^ Int.toNat 3) q1
    have q4 : (10 : Int) ^ Int.toNat 29 + 319 < 2 ^ 100 := by decide
    refine ⟨mul_ok (by decide) (Nat.lt_of_lt_of_le (bits_of (k := 64) (by omega) (by omega) (by decide)) (by decide)), pow_ok (by decide) (by decide) (Nat.lt_of_lt_of_le (bits_of (k := 101) (by omega) (by omega) (by decide)) (by decide)), by decide, by decide,
      pow_ok (by decide) (by decide) (Nat.lt_of_lt_of_le (bits_of (k := 101) (by omega) (by omega) (by decide)) (by decide)), by decide, by decide, by decide, by decide, fin _ _ _ hx (by omega) (by omega) (fmod_pos _ hm) (fmod_lt _ hm)⟩
/-! ### powers of ten -/
theorem power {k : Nat} (hk : k ≤ 300) : callF tab G wf (n + 1) 15 [.int k] S = .ok (.int (10 ^ k)) S := by
  refine R.eq_of ?_
  rw [w_fn at15 rfl]
  simp only [f15, rng_nat (k := k) (Nat.le_trans hk (by decide)), w_var, w_con, w_glob, w_bin, w_neg, w_not, w_and, w_or, w_ifx, w_cmp, w_tup, w_frz, w_own, w_sub, w_slc, w_call, w_callk, w_bi, w_isi, w_me, w_tab, w_ono, w_oyes, w_nil, w_cons, w_tnil, w_tcons, w_disp, w_comp, w_cat, w_rep, w_nslc, w_rev, w_ival, w_irng, w_gname, w_gtup, w_gsub, w_gsnil, w_gscons, w_sexpr, w_asg, w_par, w_ret, w_retN, w_ifs, w_for, w_pass, w_brk, w_cont, w_snil, w_scons, nxt_nx, nxt_rt, nxt_bk, nxt_ct, fin_rt, fin_nx, is_ok, is_no, is_bind, is_guard, is_of, bin_addI, bin_addS, bin_addT, bin_sub, bin_mul, bin_mulT, bin_fdiv, bin_mod, bin_pow, look_int, look_str, look_bl, look_non, look_tup, look_lst, look_sq, items_tup, items_lst, items_sq, list_lst, list_sq, cmp_lt, cmp_le, cmp_gt, cmp_ge, cmp_eq, cmp_ne, eq_int, eq_str, eq_bl, cmp_isN, cmp_isB, cmp_isnot, cmp_inT, cmp_inL, cmp_ninL, sub_tup, sub_lst, sub_sq, atP0, atP1, atP2, atP3, atP4, atP5, len_tup, len_lst, len_sq, len_str, bi_abs, bi_int, bi_strI, bi_strS, bi_tupL, bi_tupT, bi_tupS, bi_max2, bi_min2, bi_all, bi_any, bi_sum, me_join, it_tup, it_lst, it_sq, slc_tup, opt_none, opt_some, cut1, exists_and_left, List.singleton_append, pick, isTupD, typed, isTy, wipeE, Int.reduceEq, Int.reduceLT, Int.reduceSub, Int.reduceNeg, ex_if, ex_some, ex_map, List.any_cons, List.any_nil, Bool.or_false, Bool.false_or, Bool.or_true, Bool.true_or, decide_true, decide_false, List.getElem?_cons_zero, List.getElem?_cons_succ, Option.some.injEq, exists_eq_left', exists_eq_left, exists_eq_right, true_and, and_true, List.map_cons, List.map_nil, List.set_cons_zero, List.set_cons_succ, List.length_cons, List.length_nil, List.cons_append, List.nil_append, List.reduceReplicate, Nat.reduceSub, Nat.reduceAdd, Nat.reduceLT, Nat.reduceLeDiff, Nat.zero_lt_succ, Nat.lt_add_left_iff_pos, Nat.succ_lt_succ_iff, D.int.injEq, D.bl.injEq, D.str.injEq, D.tup.injEq, D.lst.injEq, D.own.injEq, decide_eq_true_eq, Bool.not_eq_true', decide_eq_false_iff_not, if_true, if_false, ite_true, ite_false, Bool.false_eq_true, reduceCtorEq, false_and, exists_false, Option.map_some, Option.map_none, Option.bind_some, Option.getD_some]
  refine w_forL (fun j e S' => j ≤ k ∧ S' = S ∧ ∃ z, e = [some (.int k), some (.int (10 ^ j)), z]) ⟨Nat.zero_le _, rfl, none, rfl⟩ (fun _ _ _ _ _ => ok_nil) (fun j x e S' hx ⟨hj, hS, z, he⟩ => ?_) (fun e S' ⟨hj, hS, z, he⟩ => ?_)
  · obtain ⟨rfl, hlt⟩ := rangeL_get hx
    subst hS he
    have hb := pow10_bits (k := j) (by omega)
    simp only [mul_ok (i := 10 ^ j) (j := 10) (Nat.lt_trans hb (by decide)) (by decide), w_var, w_con, w_glob, w_bin, w_neg, w_not, w_and, w_or, w_ifx, w_cmp, w_tup, w_frz, w_own, w_sub, w_slc, w_call, w_callk, w_bi, w_isi, w_me, w_tab, w_ono, w_oyes, w_nil, w_cons, w_tnil, w_tcons, w_disp, w_comp, w_cat, w_rep, w_nslc, w_rev, w_ival, w_irng, w_gname, w_gtup, w_gsub, w_gsnil, w_gscons, w_sexpr, w_asg, w_par, w_ret, w_retN, w_ifs, w_for, w_pass, w_brk, w_cont, w_snil, w_scons, nxt_nx, nxt_rt, nxt_bk, nxt_ct, fin_rt, fin_nx, is_ok, is_no, is_bind, is_guard, is_of, bin_addI, bin_addS, bin_addT, bin_sub, bin_mul, bin_mulT, bin_fdiv, bin_mod, bin_pow, look_int, look_str, look_bl, look_non, look_tup, look_lst, look_sq, items_tup, items_lst, items_sq, list_lst, list_sq, cmp_lt, cmp_le, cmp_gt, cmp_ge, cmp_eq, cmp_ne, eq_int, eq_str, eq_bl, cmp_isN, cmp_isB, cmp_isnot, cmp_inT, cmp_inL, cmp_ninL, sub_tup, sub_lst, sub_sq, atP0, atP1, atP2, atP3, atP4, atP5, len_tup, len_lst, len_sq, len_str, bi_abs, bi_int, bi_strI, bi_strS, bi_tupL, bi_tupT, bi_tupS, bi_max2, bi_min2, bi_all, bi_any, bi_sum, me_join, it_tup, it_lst, it_sq, slc_tup, opt_none, opt_some, cut1, exists_and_left, List.singleton_append, pick, isTupD, typed, isTy, wipeE, Int.reduceEq, Int.reduceLT, Int.reduceSub, Int.reduceNeg, ex_if, ex_some, ex_map, List.any_cons, List.any_nil, Bool.or_false, Bool.false_or, Bool.or_true, Bool.true_or, decide_true, decide_false, List.getElem?_cons_zero, List.getElem?_cons_succ, Option.some.injEq, exists_eq_left', exists_eq_left, exists_eq_right, true_and, and_true, List.map_cons, List.map_nil, List.set_cons_zero, List.set_cons_succ, List.length_cons, List.length_nil, List.cons_append, List.nil_append, List.reduceReplicate, Nat.reduceSub, Nat.reduceAdd, Nat.reduceLT, Nat.reduceLeDiff, Nat.zero_lt_succ, Nat.lt_add_left_iff_pos, Nat.succ_lt_succ_iff, D.int.injEq, D.bl.injEq, D.str.injEq, D.tup.injEq, D.lst.injEq, D.own.injEq, decide_eq_true_eq, Bool.not_eq_true', decide_eq_false_iff_not, if_true, if_false, ite_true, ite_false, Bool.false_eq_true, reduceCtorEq, false_and, exists_false, Option.map_some, Option.map_none, Option.bind_some, Option.getD_some]
    exact ⟨hlt, _, by rw [Int.pow_succ]⟩
  · rw [rangeL_len] at he
    subst hS he
    simp only [finish_same (low_int _ _), w_var, w_con, w_glob, w_bin, w_neg, w_not, w_and, w_or, w_ifx, w_cmp, w_tup, w_frz, w_own, w_sub, w_slc, w_call, w_callk, w_bi, w_isi, w_me, w_tab, w_ono, w_oyes, w_nil, w_cons, w_tnil, w_tcons, w_disp, w_comp, w_cat, w_rep, w_nslc, w_rev, w_ival, w_irng, w_gname, w_gtup, w_gsub, w_gsnil, w_gscons, w_sexpr, w_asg, w_par, w_ret, w_retN, w_ifs, w_for, w_pass, w_brk, w_cont, w_snil, w_scons, nxt_nx, nxt_rt, nxt_bk, nxt_ct, fin_rt, fin_nx, is_ok, is_no, is_bind, is_guard, is_of, bin_addI, bin_addS, bin_addT, bin_sub, bin_mul, bin_mulT, bin_fdiv, bin_mod, bin_pow, look_int, look_str, look_bl, look_non, look_tup, look_lst, look_sq, items_tup, items_lst, items_sq, list_lst, list_sq, cmp_lt, cmp_le, cmp_gt, cmp_ge, cmp_eq, cmp_ne, eq_int, eq_str, eq_bl, cmp_isN, cmp_isB, cmp_isnot, cmp_inT, cmp_inL, cmp_ninL, sub_tup, sub_lst, sub_sq, atP0, atP1, atP2, atP3, atP4, atP5, len_tup, len_lst, len_sq, len_str, bi_abs, bi_int, bi_strI, bi_strS, bi_tupL, bi_tupT, bi_tupS, bi_max2, bi_min2, bi_all, bi_any, bi_sum, me_join, it_tup, it_lst, it_sq, slc_tup, opt_none, opt_some, cut1, exists_and_left, List.singleton_append, pick, isTupD, typed, isTy, wipeE, Int.reduceEq, Int.reduceLT, Int.reduceSub, Int.reduceNeg, ex_if, ex_some, ex_map, List.any_cons, List.any_nil, Bool.or_false, Bool.false_or, Bool.or_true, Bool.true_or, decide_true, decide_false, List.getElem?_cons_zero, List.getElem?_cons_succ, Option.some.injEq, exists_eq_left', exists_eq_left, exists_eq_right, true_and, and_true, List.map_cons, List.map_nil, List.set_cons_zero, List.set_cons_succ, List.length_cons, List.length_nil, List.cons_append, List.nil_append, List.reduceReplicate, Nat.reduceSub, Nat.reduceAdd, Nat.reduceLT, Nat.reduceLeDiff, Nat.zero_lt_succ, Nat.lt_add_left_iff_pos, Nat.succ_lt_succ_iff, D.int.injEq, D.bl.injEq, D.str.injEq, D.tup.injEq, D.lst.injEq, D.own.injEq, decide_eq_true_eq, Bool.not_eq_true', decide_eq_false_iff_not, if_true, if_false, ite_true, ite_false, Bool.false_eq_true, reduceCtorEq, false_and, exists_false, Option.map_some, Option.map_none, Option.bind_some, Option.getD_some]
theorem pow_log {m : Nat} (h : m ≤ 300) : bits ((10 : Int) ^ m) < 9000 := Nat.lt_trans (pow10_bits (by omega)) (by decide)
theorem pow_pos (m : Nat) : (0 : Int) < 10 ^ m := Int.pow_pos (by decide)
/-- an int that is drawn: of at most `most` digits and a little -/
theorem integer {most : Nat} (h1 : 1 ≤ most) (hm : most ≤ 300) (h : Well w (k + 5) S) : (callF tab G wf (n + 2) 16 [.own w, .int most] S).Is fun d S' => ∃ v : Int, d = .int v ∧ v.natAbs ≤ 10 ^ most ∧ Dr w k S S' := by
  rw [w_fn at16 rfl]
  simp only [f16, w_var, w_con, w_glob, w_bin, w_neg, w_not, w_and, w_or, w_ifx, w_cmp, w_tup, w_frz, w_own, w_sub, w_slc, w_call, w_callk, w_bi, w_isi, w_me, w_tab, w_ono, w_oyes, w_nil, w_cons, w_tnil, w_tcons, w_disp, w_comp, w_cat, w_rep, w_nslc, w_rev, w_ival, w_irng, w_gname, w_gtup, w_gsub, w_gsnil, w_gscons, w_sexpr, w_asg, w_par, w_ret, w_retN, w_ifs, w_for, w_pass, w_brk, w_cont, w_snil, w_scons, nxt_nx, nxt_rt, nxt_bk, nxt_ct, fin_rt, fin_nx, is_ok, is_no, is_bind, is_guard, is_of, bin_addI, bin_addS, bin_addT, bin_sub, bin_mul, bin_mulT, bin_fdiv, bin_mod, bin_pow, look_int, look_str, look_bl, look_non, look_tup, look_lst, look_sq, items_tup, items_lst, items_sq, list_lst, list_sq, cmp_lt, cmp_le, cmp_gt, cmp_ge, cmp_eq, cmp_ne, eq_int, eq_str, eq_bl, cmp_isN, cmp_isB, cmp_isnot, cmp_inT, cmp_inL, cmp_ninL, sub_tup, sub_lst, sub_sq, atP0, atP1, atP2, atP3, atP4, atP5, len_tup, len_lst, len_sq, len_str, bi_abs, bi_int, bi_strI, bi_strS, bi_tupL, bi_tupT, bi_tupS, bi_max2, bi_min2, bi_all, bi_any, bi_sum, me_join, it_tup, it_lst, it_sq, slc_tup, opt_none, opt_some, cut1, exists_and_left, List.singleton_append, pick, isTupD, typed, isTy, wipeE, Int.reduceEq, Int.reduceLT, Int.reduceSub, Int.reduceNeg, ex_if, ex_some, ex_map, List.any_cons, List.any_nil, Bool.or_false, Bool.false_or, Bool.or_true, Bool.true_or, decide_true, decide_false, List.getElem?_cons_zero, List.getElem?_cons_succ, Option.some.injEq, exists_eq_left', exists_eq_left, exists_eq_right, true_and, and_true, List.map_cons, List.map_nil, List.set_cons_zero, List.set_cons_succ, List.length_cons, List.length_nil, List.cons_append, List.nil_append, List.reduceReplicate, Nat.reduceSub, Nat.reduceAdd, Nat.reduceLT, Nat.reduceLeDiff, Nat.zero_lt_succ, Nat.lt_add_left_iff_pos, Nat.succ_lt_succ_iff, D.int.injEq, D.bl.injEq, D.str.injEq, D.tup.injEq, D.lst.injEq, D.own.injEq, decide_eq_true_eq, Bool.not_eq_true', decide_eq_false_iff_not, if_true, if_false, ite_true, ite_false, Bool.false_eq_true, reduceCtorEq, false_and, exists_false, Option.map_some, Option.map_none, Option.bind_some, Option.getD_some]
  have hp : (1 : Int) ≤ 10 ^ most := by have := pow_pos most; omega
  have h10 : (10 : Int) ≤ 10 ^ most := by
    have := pow10_le h1
    omega
  have hcast : ((10 ^ most : Nat) : Int) = 10 ^ most := by simp
  have smb : ∀ {v : Int}, -(10 ^ most) ≤ v → v ≤ 10 ^ most → v.natAbs ≤ 10 ^ most := fun {v} a b => by omega
  have bb : ∀ {v : Int}, -(10 ^ most) ≤ v → v ≤ 10 ^ most → bits v < BIG := fun {v} a b => Nat.lt_trans (abs_bits hm (smb a b)) (by decide)
  refine (draw (m := 6) (by decide) (by decide) (h.less (j := k + 4 + 1) (by omega))).mono fun d S1 ⟨v1, e1, a1, b1, D1⟩ => ?_
  subst e1
  refine (draw (m := 2) (by decide) (by decide) (D1.well.less (j := k + 3 + 1) (by omega))).mono fun d S2 ⟨v2, e2, a2, b2, D2⟩ => ?_
  subst e2
  have D2 := D1.trans D2
  have hv2 : v2 = 0 ∨ v2 = 1 := by omega
  have hs : 1 - 2 * v2 = 1 ∨ 1 - 2 * v2 = -1 := by omega
  have bs : bits (1 - 2 * v2) < BIG := by rcases hs with e | e <;> rw [e] <;> decide
  have pm : ∀ {z : Int}, 0 ≤ z → z ≤ 10 ^ most → ((1 - 2 * v2) * z).natAbs ≤ 10 ^ most := fun {z} a b => by rcases hs with e | e <;> rw [e] <;> omega
  simp only [mul_ok (i := 2) (j := v2) (by decide) (by rcases hv2 with e | e <;> rw [e] <;> decide), w_var, w_con, w_glob, w_bin, w_neg, w_not, w_and, w_or, w_ifx, w_cmp, w_tup, w_frz, w_own, w_sub, w_slc, w_call, w_callk, w_bi, w_isi, w_me, w_tab, w_ono, w_oyes, w_nil, w_cons, w_tnil, w_tcons, w_disp, w_comp, w_cat, w_rep, w_nslc, w_rev, w_ival, w_irng, w_gname, w_gtup, w_gsub, w_gsnil, w_gscons, w_sexpr, w_asg, w_par, w_ret, w_retN, w_ifs, w_for, w_pass, w_brk, w_cont, w_snil, w_scons, nxt_nx, nxt_rt, nxt_bk, nxt_ct, fin_rt, fin_nx, is_ok, is_no, is_bind, is_guard, is_of, bin_addI, bin_addS, bin_addT, bin_sub, bin_mul, bin_mulT, bin_fdiv, bin_mod, bin_pow, look_int, look_str, look_bl, look_non, look_tup, look_lst, look_sq, items_tup, items_lst, items_sq, list_lst, list_sq, cmp_lt, cmp_le, cmp_gt, cmp_ge, cmp_eq, cmp_ne, eq_int, eq_str, eq_bl, cmp_isN, cmp_isB, cmp_isnot, cmp_inT, cmp_inL, cmp_ninL, sub_tup, sub_lst, sub_sq, atP0, atP1, atP2, atP3, atP4, atP5, len_tup, len_lst, len_sq, len_str, bi_abs, bi_int, bi_strI, bi_strS, bi_tupL, bi_tupT, bi_tupS, bi_max2, bi_min2, bi_all, bi_any, bi_sum, me_join, it_tup, it_lst, it_sq, slc_tup, opt_none, opt_some, cut1, exists_and_left, List.singleton_append, pick, isTupD, typed, isTy, wipeE, Int.reduceEq, Int.reduceLT, Int.reduceSub, Int.reduceNeg, ex_if, ex_some, ex_map, List.any_cons, List.any_nil, Bool.or_false, Bool.false_or, Bool.or_true, Bool.true_or, decide_true, decide_false, List.getElem?_cons_zero, List.getElem?_cons_succ, Option.some.injEq, exists_eq_left', exists_eq_left, exists_eq_right, true_and, and_true, List.map_cons, List.map_nil, List.set_cons_zero, List.set_cons_succ, List.length_cons, List.length_nil, List.cons_append, List.nil_append, List.reduceReplicate, Nat.reduceSub, Nat.reduceAdd, Nat.reduceLT, Nat.reduceLeDiff, Nat.zero_lt_succ, Nat.lt_add_left_iff_pos, Nat.succ_lt_succ_iff, D.int.injEq, D.bl.injEq, D.str.injEq, D.tup.injEq, D.lst.injEq, D.own.injEq, decide_eq_true_eq, Bool.not_eq_true', decide_eq_false_iff_not, if_true, if_false, ite_true, ite_false, Bool.false_eq_true, reduceCtorEq, false_and, exists_false, Option.map_some, Option.map_none, Option.bind_some, Option.getD_some]
  split
  · refine (draw (m := 10) (by decide) (by decide) (D2.well.less (j := k + 1) (by omega))).mono fun d S3 ⟨v3, e3, a3, b3, D3⟩ => ?_
    subst e3
    simp only [mul_ok bs (bb (v := v3) (by omega) (by omega)), finish_dr (D2.trans D3) (low_int _ _), w_var, w_con, w_glob, w_bin, w_neg, w_not, w_and, w_or, w_ifx, w_cmp, w_tup, w_frz, w_own, w_sub, w_slc, w_call, w_callk, w_bi, w_isi, w_me, w_tab, w_ono, w_oyes, w_nil, w_cons, w_tnil, w_tcons, w_disp, w_comp, w_cat, w_rep, w_nslc, w_rev, w_ival, w_irng, w_gname, w_gtup, w_gsub, w_gsnil, w_gscons, w_sexpr, w_asg, w_par, w_ret, w_retN, w_ifs, w_for, w_pass, w_brk, w_cont, w_snil, w_scons, nxt_nx, nxt_rt, nxt_bk, nxt_ct, fin_rt, fin_nx, is_ok, is_no, is_bind, is_guard, is_of, bin_addI, bin_addS, bin_addT, bin_sub, bin_mul, bin_mulT, bin_fdiv, bin_mod, bin_pow, look_int, look_str, look_bl, look_non, look_tup, look_lst, look_sq, items_tup, items_lst, items_sq, list_lst, list_sq, cmp_lt, cmp_le, cmp_gt, cmp_ge, cmp_eq, cmp_ne, eq_int, eq_str, eq_bl, cmp_isN, cmp_isB, cmp_isnot, cmp_inT, cmp_inL, cmp_ninL, sub_tup, sub_lst, sub_sq, atP0, atP1, atP2, atP3, atP4, atP5, len_tup, len_lst, len_sq, len_str, bi_abs, bi_int, bi_strI, bi_strS, bi_tupL, bi_tupT, bi_tupS, bi_max2, bi_min2, bi_all, bi_any, bi_sum, me_join, it_tup, it_lst, it_sq, slc_tup, opt_none, opt_some, cut1, exists_and_left, List.singleton_append, pick, isTupD, typed, isTy, wipeE, Int.reduceEq, Int.reduceLT, Int.reduceSub, Int.reduceNeg, ex_if, ex_some, ex_map, List.any_cons, List.any_nil, Bool.or_false, Bool.false_or, Bool.or_true, Bool.true_or, decide_true, decide_false, List.getElem?_cons_zero, List.getElem?_cons_succ, Option.some.injEq, exists_eq_left', exists_eq_left, exists_eq_right, true_and, and_true, List.map_cons, List.map_nil, List.set_cons_zero, List.set_cons_succ, List.length_cons, List.length_nil, List.cons_append, List.nil_append, List.reduceReplicate, Nat.reduceSub, Nat.reduceAdd, Nat.reduceLT, Nat.reduceLeDiff, Nat.zero_lt_succ, Nat.lt_add_left_iff_pos, Nat.succ_lt_succ_iff, D.int.injEq, D.bl.injEq, D.str.injEq, D.tup.injEq, D.lst.injEq, D.own.injEq, decide_eq_true_eq, Bool.not_eq_true', decide_eq_false_iff_not, if_true, if_false, ite_true, ite_false, Bool.false_eq_true, reduceCtorEq, false_and, exists_false, Option.map_some, Option.map_none, Option.bind_some, Option.getD_some]
    exact ⟨pm a3 (by omega), D2.trans D3⟩
  · split
    · simp only [power (n := n) hm, w_var, w_con, w_glob, w_bin, w_neg, w_not, w_and, w_or, w_ifx, w_cmp, w_tup, w_frz, w_own, w_sub, w_slc, w_call, w_callk, w_bi, w_isi, w_me, w_tab, w_ono, w_oyes, w_nil, w_cons, w_tnil, w_tcons, w_disp, w_comp, w_cat, w_rep, w_nslc, w_rev, w_ival, w_irng, w_gname, w_gtup, w_gsub, w_gsnil, w_gscons, w_sexpr, w_asg, w_par, w_ret, w_retN, w_ifs, w_for, w_pass, w_brk, w_cont, w_snil, w_scons, nxt_nx, nxt_rt, nxt_bk, nxt_ct, fin_rt, fin_nx, is_ok, is_no, is_bind, is_guard, is_of, bin_addI, bin_addS, bin_addT, bin_sub, bin_mul, bin_mulT, bin_fdiv, bin_mod, bin_pow, look_int, look_str, look_bl, look_non, look_tup, look_lst, look_sq, items_tup, items_lst, items_sq, list_lst, list_sq, cmp_lt, cmp_le, cmp_gt, cmp_ge, cmp_eq, cmp_ne, eq_int, eq_str, eq_bl, cmp_isN, cmp_isB, cmp_isnot, cmp_inT, cmp_inL, cmp_ninL, sub_tup, sub_lst, sub_sq, atP0, atP1, atP2, atP3, atP4, atP5, len_tup, len_lst, len_sq, len_str, bi_abs, bi_int, bi_strI, bi_strS, bi_tupL, bi_tupT, bi_tupS, bi_max2, bi_min2, bi_all, bi_any, bi_sum, me_join, it_tup, it_lst, it_sq, slc_tup, opt_none, opt_some, cut1, exists_and_left, List.singleton_append, pick, isTupD, typed, isTy, wipeE, Int.reduceEq, Int.reduceLT, Int.reduceSub, Int.reduceNeg, ex_if, ex_some, ex_map, List.any_cons, List.any_nil, Bool.or_false, Bool.false_or, Bool.or_true, Bool.true_or, decide_true, decide_false, List.getElem?_cons_zero, List.getElem?_cons_succ, Option.some.injEq, exists_eq_left', exists_eq_left, exists_eq_right, true_and, and_true, List.map_cons, List.map_nil, List.set_cons_zero, List.set_cons_succ, List.length_cons, List.length_nil, List.cons_append, List.nil_append, List.reduceReplicate, Nat.reduceSub, Nat.reduceAdd, Nat.reduceLT, Nat.reduceLeDiff, Nat.zero_lt_succ, Nat.lt_add_left_iff_pos, Nat.succ_lt_succ_iff, D.int.injEq, D.bl.injEq, D.str.injEq, D.tup.injEq, D.lst.injEq, D.own.injEq, decide_eq_true_eq, Bool.not_eq_true', decide_eq_false_iff_not, if_true, if_false, ite_true, ite_false, Bool.false_eq_true, reduceCtorEq, false_and, exists_false, Option.map_some, Option.map_none, Option.bind_some, Option.getD_some]
      refine (draw (m := 9) (by decide) (by decide) (D2.well.less (j := k + 1) (by omega))).mono fun d S3 ⟨v3, e3, a3, b3, D3⟩ => ?_
      subst e3
      simp only [mul_ok bs (bb (v := 10 ^ most - 1 - v3) (by omega) (by omega)), finish_dr (D2.trans D3) (low_int _ _), w_var, w_con, w_glob, w_bin, w_neg, w_not, w_and, w_or, w_ifx, w_cmp, w_tup, w_frz, w_own, w_sub, w_slc, w_call, w_callk, w_bi, w_isi, w_me, w_tab, w_ono, w_oyes, w_nil, w_cons, w_tnil, w_tcons, w_disp, w_comp, w_cat, w_rep, w_nslc, w_rev, w_ival, w_irng, w_gname, w_gtup, w_gsub, w_gsnil, w_gscons, w_sexpr, w_asg, w_par, w_ret, w_retN, w_ifs, w_for, w_pass, w_brk, w_cont, w_snil, w_scons, nxt_nx, nxt_rt, nxt_bk, nxt_ct, fin_rt, fin_nx, is_ok, is_no, is_bind, is_guard, is_of, bin_addI, bin_addS, bin_addT, bin_sub, bin_mul, bin_mulT, bin_fdiv, bin_mod, bin_pow, look_int, look_str, look_bl, look_non, look_tup, look_lst, look_sq, items_tup, items_lst, items_sq, list_lst, list_sq, cmp_lt, cmp_le, cmp_gt, cmp_ge, cmp_eq, cmp_ne, eq_int, eq_str, eq_bl, cmp_isN, cmp_isB, cmp_isnot, cmp_inT, cmp_inL, cmp_ninL, sub_tup, sub_lst, sub_sq, atP0, atP1, atP2, atP3, atP4, atP5, len_tup, len_lst, len_sq, len_str, bi_abs, bi_int, bi_strI, bi_strS, bi_tupL, bi_tupT, bi_tupS, bi_max2, bi_min2, bi_all, bi_any, bi_sum, me_join, it_tup, it_lst, it_sq, slc_tup, opt_none, opt_some, cut1, exists_and_left, List.singleton_append, pick, isTupD, typed, isTy, wipeE, Int.reduceEq, Int.reduceLT, Int.reduceSub, Int.reduceNeg, ex_if, ex_some, ex_map, List.any_cons, List.any_nil, Bool.or_false, Bool.false_or, Bool.or_true, Bool.true_or, decide_true, decide_false, List.getElem?_cons_zero, List.getElem?_cons_succ, Option.some.injEq, exists_eq_left', exists_eq_left, exists_eq_right, true_and, and_true, List.map_cons, List.map_nil, List.set_cons_zero, List.set_cons_succ, List.length_cons, List.length_nil, List.cons_append, List.nil_append, List.reduceReplicate, Nat.reduceSub, Nat.reduceAdd, Nat.reduceLT, Nat.reduceLeDiff, Nat.zero_lt_succ, Nat.lt_add_left_iff_pos, Nat.succ_lt_succ_iff, D.int.injEq, D.bl.injEq, D.str.injEq, D.tup.injEq, D.lst.injEq, D.own.injEq, decide_eq_true_eq, Bool.not_eq_true', decide_eq_false_iff_not, if_true, if_false, ite_true, ite_false, Bool.false_eq_true, reduceCtorEq, false_and, exists_false, Option.map_some, Option.map_none, Option.bind_some, Option.getD_some]
      exact ⟨pm (by omega) (by omega), D2.trans D3⟩
    · split
      · simp only [power (n := n) hm, w_var, w_con, w_glob, w_bin, w_neg, w_not, w_and, w_or, w_ifx, w_cmp, w_tup, w_frz, w_own, w_sub, w_slc, w_call, w_callk, w_bi, w_isi, w_me, w_tab, w_ono, w_oyes, w_nil, w_cons, w_tnil, w_tcons, w_disp, w_comp, w_cat, w_rep, w_nslc, w_rev, w_ival, w_irng, w_gname, w_gtup, w_gsub, w_gsnil, w_gscons, w_sexpr, w_asg, w_par, w_ret, w_retN, w_ifs, w_for, w_pass, w_brk, w_cont, w_snil, w_scons, nxt_nx, nxt_rt, nxt_bk, nxt_ct, fin_rt, fin_nx, is_ok, is_no, is_bind, is_guard, is_of, bin_addI, bin_addS, bin_addT, bin_sub, bin_mul, bin_mulT, bin_fdiv, bin_mod, bin_pow, look_int, look_str, look_bl, look_non, look_tup, look_lst, look_sq, items_tup, items_lst, items_sq, list_lst, list_sq, cmp_lt, cmp_le, cmp_gt, cmp_ge, cmp_eq, cmp_ne, eq_int, eq_str, eq_bl, cmp_isN, cmp_isB, cmp_isnot, cmp_inT, cmp_inL, cmp_ninL, sub_tup, sub_lst, sub_sq, atP0, atP1, atP2, atP3, atP4, atP5, len_tup, len_lst, len_sq, len_str, bi_abs, bi_int, bi_strI, bi_strS, bi_tupL, bi_tupT, bi_tupS, bi_max2, bi_min2, bi_all, bi_any, bi_sum, me_join, it_tup, it_lst, it_sq, slc_tup, opt_none, opt_some, cut1, exists_and_left, List.singleton_append, pick, isTupD, typed, isTy, wipeE, Int.reduceEq, Int.reduceLT, Int.reduceSub, Int.reduceNeg, ex_if, ex_some, ex_map, List.any_cons, List.any_nil, Bool.or_false, Bool.false_or, Bool.or_true, Bool.true_or, decide_true, decide_false, List.getElem?_cons_zero, List.getElem?_cons_succ, Option.some.injEq, exists_eq_left', exists_eq_left, exists_eq_right, true_and, and_true, List.map_cons, List.map_nil, List.set_cons_zero, List.set_cons_succ, List.length_cons, List.length_nil, List.cons_append, List.nil_append, List.reduceReplicate, Nat.reduceSub, Nat.reduceAdd, Nat.reduceLT, Nat.reduceLeDiff, Nat.zero_lt_succ, Nat.lt_add_left_iff_pos, Nat.succ_lt_succ_iff, D.int.injEq, D.bl.injEq, D.str.injEq, D.tup.injEq, D.lst.injEq, D.own.injEq, decide_eq_true_eq, Bool.not_eq_true', decide_eq_false_iff_not, if_true, if_false, ite_true, ite_false, Bool.false_eq_true, reduceCtorEq, false_and, exists_false, Option.map_some, Option.map_none, Option.bind_some, Option.getD_some]
        refine (draw (m := 10 ^ most) (pow_pos most) (pow_log hm) (D2.well.less (j := k + 1) (by omega))).mono fun d S3 ⟨v3, e3, a3, b3, D3⟩ => ?_
        subst e3
        simp only [mul_ok bs (bb (v := v3) (by omega) (by omega)), finish_dr (D2.trans D3) (low_int _ _), w_var, w_con, w_glob, w_bin, w_neg, w_not, w_and, w_or, w_ifx, w_cmp, w_tup, w_frz, w_own, w_sub, w_slc, w_call, w_callk, w_bi, w_isi, w_me, w_tab, w_ono, w_oyes, w_nil, w_cons, w_tnil, w_tcons, w_disp, w_comp, w_cat, w_rep, w_nslc, w_rev, w_ival, w_irng, w_gname, w_gtup, w_gsub, w_gsnil, w_gscons, w_sexpr, w_asg, w_par, w_ret, w_retN, w_ifs, w_for, w_pass, w_brk, w_cont, w_snil, w_scons, nxt_nx, nxt_rt, nxt_bk, nxt_ct, fin_rt, fin_nx, is_ok, is_no, is_bind, is_guard, is_of, bin_addI, bin_addS, bin_addT, bin_sub, bin_mul, bin_mulT, bin_fdiv, bin_mod, bin_pow, look_int, look_str, look_bl, look_non, look_tup, look_lst, look_sq, items_tup, items_lst, items_sq, list_lst, list_sq, cmp_lt, cmp_le, cmp_gt, cmp_ge, cmp_eq, cmp_ne, eq_int, eq_str, eq_bl, cmp_isN, cmp_isB, cmp_isnot, cmp_inT, cmp_inL, cmp_ninL, sub_tup, sub_lst, sub_sq, atP0, atP1, atP2, atP3, atP4, atP5, len_tup, len_lst, len_sq, len_str, bi_abs, bi_int, bi_strI, bi_strS, bi_tupL, bi_tupT, bi_tupS, bi_max2, bi_min2, bi_all, bi_any, bi_sum, me_join, it_tup, it_lst, it_sq, slc_tup, opt_none, opt_some, cut1, exists_and_left, List.singleton_append, pick, isTupD, typed, isTy, wipeE, Int.reduceEq, Int.reduceLT, Int.reduceSub, Int.reduceNeg, ex_if, ex_some, ex_map, List.any_cons, List.any_nil, Bool.or_false, Bool.false_or, Bool.or_true, Bool.true_or, decide_true, decide_false, List.getElem?_cons_zero, List.getElem?_cons_succ, Option.some.injEq, exists_eq_left', exists_eq_left, exists_eq_right, true_and, and_true, List.map_cons, List.map_nil, List.set_cons_zero, List.set_cons_succ, List.length_cons, List.length_nil, List.cons_append, List.nil_append, List.reduceReplicate, Nat.reduceSub, Nat.reduceAdd, Nat.reduceLT, Nat.reduceLeDiff, Nat.zero_lt_succ, Nat.lt_add_left_iff_pos, Nat.succ_lt_succ_iff, D.int.injEq, D.bl.injEq, D.str.injEq, D.tup.injEq, D.lst.injEq, D.own.injEq, decide_eq_true_eq, Bool.not_eq_true', decide_eq_false_iff_not, if_true, if_false, ite_true, ite_false, Bool.false_eq_true, reduceCtorEq, false_and, exists_false, Option.map_some, Option.map_none, Option.bind_some, Option.getD_some]
        exact ⟨pm (by omega) (by omega), D2.trans D3⟩
      · refine (draw (m := most) (by omega) (Nat.lt_trans (bits_of (k := 10) (by omega) (by omega) (by decide)) (by decide)) (D2.well.less (j := k + 1 + 1) (by omega))).mono fun d S3 ⟨v3, e3, a3, b3, D3⟩ => ?_
        obtain ⟨j, rfl⟩ := Int.eq_ofNat_of_zero_le a3
        subst e3
        have D3 := D2.trans D3
        simp only [power (n := n) (k := j) (by omega), w_var, w_con, w_glob, w_bin, w_neg, w_not, w_and, w_or, w_ifx, w_cmp, w_tup, w_frz, w_own, w_sub, w_slc, w_call, w_callk, w_bi, w_isi, w_me, w_tab, w_ono, w_oyes, w_nil, w_cons, w_tnil, w_tcons, w_disp, w_comp, w_cat, w_rep, w_nslc, w_rev, w_ival, w_irng, w_gname, w_gtup, w_gsub, w_gsnil, w_gscons, w_sexpr, w_asg, w_par, w_ret, w_retN, w_ifs, w_for, w_pass, w_brk, w_cont, w_snil, w_scons, nxt_nx, nxt_rt, nxt_bk, nxt_ct, fin_rt, fin_nx, is_ok, is_no, is_bind, is_guard, is_of, bin_addI, bin_addS, bin_addT, bin_sub, bin_mul, bin_mulT, bin_fdiv, bin_mod, bin_pow, look_int, look_str, look_bl, look_non, look_tup, look_lst, look_sq, items_tup, items_lst, items_sq, list_lst, list_sq, cmp_lt, cmp_le, cmp_gt, cmp_ge, cmp_eq, cmp_ne, eq_int, eq_str, eq_bl, cmp_isN, cmp_isB, cmp_isnot, cmp_inT, cmp_inL, cmp_ninL, sub_tup, sub_lst, sub_sq, atP0, atP1, atP2, atP3, atP4, atP5, len_tup, len_lst, len_sq, len_str, bi_abs, bi_int, bi_strI, bi_strS, bi_tupL, bi_tupT, bi_tupS, bi_max2, bi_min2, bi_all, bi_any, bi_sum, me_join, it_tup, it_lst, it_sq, slc_tup, opt_none, opt_some, cut1, exists_and_left, List.singleton_append, pick, isTupD, typed, isTy, wipeE, Int.reduceEq, Int.reduceLT, Int.reduceSub, Int.reduceNeg, ex_if, ex_some, ex_map, List.any_cons, List.any_nil, Bool.or_false, Bool.false_or, Bool.or_true, Bool.true_or, decide_true, decide_false, List.getElem?_cons_zero, List.getElem?_cons_succ, Option.some.injEq, exists_eq_left', exists_eq_left, exists_eq_right, true_and, and_true, List.map_cons, List.map_nil, List.set_cons_zero, List.set_cons_succ, List.length_cons, List.length_nil, List.cons_append, List.nil_append, List.reduceReplicate, Nat.reduceSub, Nat.reduceAdd, Nat.reduceLT, Nat.reduceLeDiff, Nat.zero_lt_succ, Nat.lt_add_left_iff_pos, Nat.succ_lt_succ_iff, D.int.injEq, D.bl.injEq, D.str.injEq, D.tup.injEq, D.lst.injEq, D.own.injEq, decide_eq_true_eq, Bool.not_eq_true', decide_eq_false_iff_not, if_true, if_false, ite_true, ite_false, Bool.false_eq_true, reduceCtorEq, false_and, exists_false, Option.map_some, Option.map_none, Option.bind_some, Option.getD_some]
        refine (draw (m := 2) (by decide) (by decide) (D3.well.less (j := k + 1) (by omega))).mono fun d S4 ⟨v4, e4, a4, b4, D4⟩ => ?_
        subst e4
        have hj : (10 : Int) ^ j * 10 ≤ 10 ^ most := by
          rw [← Int.pow_succ]
          exact pow10_le (by omega)
        have hj0 := pow_pos j
        simp only [mul_ok bs (bb (v := 10 ^ j + v4) (by omega) (by omega)), finish_dr (D3.trans D4) (low_int _ _), w_var, w_con, w_glob, w_bin, w_neg, w_not, w_and, w_or, w_ifx, w_cmp, w_tup, w_frz, w_own, w_sub, w_slc, w_call, w_callk, w_bi, w_isi, w_me, w_tab, w_ono, w_oyes, w_nil, w_cons, w_tnil, w_tcons, w_disp, w_comp, w_cat, w_rep, w_nslc, w_rev, w_ival, w_irng, w_gname, w_gtup, w_gsub, w_gsnil, w_gscons, w_sexpr, w_asg, w_par, w_ret, w_retN, w_ifs, w_for, w_pass, w_brk, w_cont, w_snil, w_scons, nxt_nx, nxt_rt, nxt_bk, nxt_ct, fin_rt, fin_nx, is_ok, is_no, is_bind, is_guard, is_of, bin_addI, bin_addS, bin_addT, bin_sub, bin_mul, bin_mulT, bin_fdiv, bin_mod, bin_pow, look_int, look_str, look_bl, look_non, look_tup, look_lst, look_sq, items_tup, items_lst, items_sq, list_lst, list_sq, cmp_lt, cmp_le, cmp_gt, cmp_ge, cmp_eq, cmp_ne, eq_int, eq_str, eq_bl, cmp_isN, cmp_isB, cmp_isnot, cmp_inT, cmp_inL, cmp_ninL, sub_tup, sub_lst, sub_sq, atP0, atP1, atP2, atP3, atP4, atP5, len_tup, len_lst, len_sq, len_str, bi_abs, bi_int, bi_strI, bi_strS, bi_tupL, bi_tupT, bi_tupS, bi_max2, bi_min2, bi_all, bi_any, bi_sum, me_join, it_tup, it_lst, it_sq, slc_tup, opt_none, opt_some, cut1, exists_and_left, List.singleton_append, pick, isTupD, typed, isTy, wipeE, Int.reduceEq, Int.reduceLT, Int.reduceSub, Int.reduceNeg, ex_if, ex_some, ex_map, List.any_cons, List.any_nil, Bool.or_false, Bool.false_or, Bool.or_true, Bool.true_or, decide_true, decide_false, List.getElem?_cons_zero, List.getElem?_cons_succ, Option.some.injEq, exists_eq_left', exists_eq_left, exists_eq_right, true_and, and_true, List.map_cons, List.map_nil, List.set_cons_zero, List.set_cons_succ, List.length_cons, List.length_nil, List.cons_append, List.nil_append, List.reduceReplicate, Nat.reduceSub, Nat.reduceAdd, Nat.reduceLT, Nat.reduceLeDiff, Nat.zero_lt_succ, Nat.lt_add_left_iff_pos, Nat.succ_lt_succ_iff, D.int.injEq, D.bl.injEq, D.str.injEq, D.tup.injEq, D.lst.injEq, D.own.injEq, decide_eq_true_eq, Bool.not_eq_true', decide_eq_false_iff_not, if_true, if_false, ite_true, ite_false, Bool.false_eq_true, reduceCtorEq, false_and, exists_false, Option.map_some, Option.map_none, Option.bind_some, Option.getD_some]
        exact ⟨pm (by omega) (by omega), D3.trans D4⟩
/-! ### Euclid -/
theorem fdiv_le (a : Int) {g : Int} (h : 0 < g) : (a.fdiv g).natAbs ≤ a.natAbs := by
  rw [Int.fdiv_eq_ediv_of_nonneg a (Int.le_of_lt h)]
  exact Int.natAbs_ediv_le_natAbs a g
theorem big_bits {x : Int} (h0 : 0 ≤ x) (h : x ≤ 10 ^ 300) : bits x < 9000 := by
  refine Nat.lt_trans (abs_bits (m := 300) (Nat.le_refl _) ?_) (by decide)
  have : ((10 ^ 300 : Nat) : Int) = 10 ^ 300 := by simp
  omega
theorem low {t b : Int} (hw : 10 ^ 310 ≤ wf) (hb : 0 < b) (ht : t.natAbs ≤ 10 ^ 300) (hb2 : b.natAbs ≤ 10 ^ 300) : (callF tab G wf (n + 1) 11 [.int t, .int b] S).Is fun d S' => ∃ u v : Int, d = .tup [.int u, .int v] ∧ u.natAbs ≤ t.natAbs ∧ v.natAbs ≤ b.natAbs ∧ S' = S := by
  have hc : ((10 ^ 300 : Nat) : Int) = 10 ^ 300 := by simp
  have hw2 : (10 : Nat) ^ 300 < 10 ^ 310 := by decide +kernel
  rw [w_fn at11 rfl]
  simp only [f11, w_var, w_con, w_glob, w_bin, w_neg, w_not, w_and, w_or, w_ifx, w_cmp, w_tup, w_frz, w_own, w_sub, w_slc, w_call, w_callk, w_bi, w_isi, w_me, w_tab, w_ono, w_oyes, w_nil, w_cons, w_tnil, w_tcons, w_disp, w_comp, w_cat, w_rep, w_nslc, w_rev, w_ival, w_irng, w_gname, w_gtup, w_gsub, w_gsnil, w_gscons, w_sexpr, w_asg, w_par, w_ret, w_retN, w_ifs, w_for, w_pass, w_brk, w_cont, w_snil, w_scons, nxt_nx, nxt_rt, nxt_bk, nxt_ct, fin_rt, fin_nx, is_ok, is_no, is_bind, is_guard, is_of, bin_addI, bin_addS, bin_addT, bin_sub, bin_mul, bin_mulT, bin_fdiv, bin_mod, bin_pow, look_int, look_str, look_bl, look_non, look_tup, look_lst, look_sq, items_tup, items_lst, items_sq, list_lst, list_sq, cmp_lt, cmp_le, cmp_gt, cmp_ge, cmp_eq, cmp_ne, eq_int, eq_str, eq_bl, cmp_isN, cmp_isB, cmp_isnot, cmp_inT, cmp_inL, cmp_ninL, sub_tup, sub_lst, sub_sq, atP0, atP1, atP2, atP3, atP4, atP5, len_tup, len_lst, len_sq, len_str, bi_abs, bi_int, bi_strI, bi_strS, bi_tupL, bi_tupT, bi_tupS, bi_max2, bi_min2, bi_all, bi_any, bi_sum, me_join, it_tup, it_lst, it_sq, slc_tup, opt_none, opt_some, cut1, exists_and_left, List.singleton_append, pick, isTupD, typed, isTy, wipeE, Int.reduceEq, Int.reduceLT, Int.reduceSub, Int.reduceNeg, ex_if, ex_some, ex_map, List.any_cons, List.any_nil, Bool.or_false, Bool.false_or, Bool.or_true, Bool.true_or, decide_true, decide_false, List.getElem?_cons_zero, List.getElem?_cons_succ, Option.some.injEq, exists_eq_left', exists_eq_left, exists_eq_right, true_and, and_true, List.map_cons, List.map_nil, List.set_cons_zero, List.set_cons_succ, List.length_cons, List.length_nil, List.cons_append, List.nil_append, List.reduceReplicate, Nat.reduceSub, Nat.reduceAdd, Nat.reduceLT, Nat.reduceLeDiff, Nat.zero_lt_succ, Nat.lt_add_left_iff_pos, Nat.succ_lt_succ_iff, D.int.injEq, D.bl.injEq, D.str.injEq, D.tup.injEq, D.lst.injEq, D.own.injEq, decide_eq_true_eq, Bool.not_eq_true', decide_eq_false_iff_not, if_true, if_false, ite_true, ite_false, Bool.false_eq_true, reduceCtorEq, false_and, exists_false, Option.map_some, Option.map_none, Option.bind_some, Option.getD_some]
  refine w_while (fun m e S' => S' = S ∧ ∃ x y : Int, e = [some (.int t), some (.int b), some (.int x), some (.int y)] ∧ m = y.toNat ∧ 0 ≤ x ∧ 0 ≤ y ∧ (0 < x ∨ 0 < y) ∧ x ≤ 10 ^ 300 ∧ y ≤ 10 ^ 300)
    ⟨rfl, _, b, rfl, rfl, by split <;> omega, by omega, .inr hb, by split <;> omega, by omega⟩ (by show b.toNat < wf; omega) fun m e S' ⟨hS, x, y, he, hm, hx, hy, hxy, hxl, hyl⟩ => ?_
  subst hS he
  simp only [w_var, w_con, w_glob, w_bin, w_neg, w_not, w_and, w_or, w_ifx, w_cmp, w_tup, w_frz, w_own, w_sub, w_slc, w_call, w_callk, w_bi, w_isi, w_me, w_tab, w_ono, w_oyes, w_nil, w_cons, w_tnil, w_tcons, w_disp, w_comp, w_cat, w_rep, w_nslc, w_rev, w_ival, w_irng, w_gname, w_gtup, w_gsub, w_gsnil, w_gscons, w_sexpr, w_asg, w_par, w_ret, w_retN, w_ifs, w_for, w_pass, w_brk, w_cont, w_snil, w_scons, nxt_nx, nxt_rt, nxt_bk, nxt_ct, fin_rt, fin_nx, is_ok, is_no, is_bind, is_guard, is_of, bin_addI, bin_addS, bin_addT, bin_sub, bin_mul, bin_mulT, bin_fdiv, bin_mod, bin_pow, look_int, look_str, look_bl, look_non, look_tup, look_lst, look_sq, items_tup, items_lst, items_sq, list_lst, list_sq, cmp_lt, cmp_le, cmp_gt, cmp_ge, cmp_eq, cmp_ne, eq_int, eq_str, eq_bl, cmp_isN, cmp_isB, cmp_isnot, cmp_inT, cmp_inL, cmp_ninL, sub_tup, sub_lst, sub_sq, atP0, atP1, atP2, atP3, atP4, atP5, len_tup, len_lst, len_sq, len_str, bi_abs, bi_int, bi_strI, bi_strS, bi_tupL, bi_tupT, bi_tupS, bi_max2, bi_min2, bi_all, bi_any, bi_sum, me_join, it_tup, it_lst, it_sq, slc_tup, opt_none, opt_some, cut1, exists_and_left, List.singleton_append, pick, isTupD, typed, isTy, wipeE, Int.reduceEq, Int.reduceLT, Int.reduceSub, Int.reduceNeg, ex_if, ex_some, ex_map, List.any_cons, List.any_nil, Bool.or_false, Bool.false_or, Bool.or_true, Bool.true_or, decide_true, decide_false, List.getElem?_cons_zero, List.getElem?_cons_succ, Option.some.injEq, exists_eq_left', exists_eq_left, exists_eq_right, true_and, and_true, List.map_cons, List.map_nil, List.set_cons_zero, List.set_cons_succ, List.length_cons, List.length_nil, List.cons_append, List.nil_append, List.reduceReplicate, Nat.reduceSub, Nat.reduceAdd, Nat.reduceLT, Nat.reduceLeDiff, Nat.zero_lt_succ, Nat.lt_add_left_iff_pos, Nat.succ_lt_succ_iff, D.int.injEq, D.bl.injEq, D.str.injEq, D.tup.injEq, D.lst.injEq, D.own.injEq, decide_eq_true_eq, Bool.not_eq_true', decide_eq_false_iff_not, if_true, if_false, ite_true, ite_false, Bool.false_eq_true, reduceCtorEq, false_and, exists_false, Option.map_some, Option.map_none, Option.bind_some, Option.getD_some]
  split
  · rename_i h
    have h : y ≠ 0 := by simpa using h
    have hy0 : 0 < y := by omega
    have h1 := fmod_pos x hy0
    have h2 := fmod_lt x hy0
    simp only [mod_ok h, w_var, w_con, w_glob, w_bin, w_neg, w_not, w_and, w_or, w_ifx, w_cmp, w_tup, w_frz, w_own, w_sub, w_slc, w_call, w_callk, w_bi, w_isi, w_me, w_tab, w_ono, w_oyes, w_nil, w_cons, w_tnil, w_tcons, w_disp, w_comp, w_cat, w_rep, w_nslc, w_rev, w_ival, w_irng, w_gname, w_gtup, w_gsub, w_gsnil, w_gscons, w_sexpr, w_asg, w_par, w_ret, w_retN, w_ifs, w_for, w_pass, w_brk, w_cont, w_snil, w_scons, nxt_nx, nxt_rt, nxt_bk, nxt_ct, fin_rt, fin_nx, is_ok, is_no, is_bind, is_guard, is_of, bin_addI, bin_addS, bin_addT, bin_sub, bin_mul, bin_mulT, bin_fdiv, bin_mod, bin_pow, look_int, look_str, look_bl, look_non, look_tup, look_lst, look_sq, items_tup, items_lst, items_sq, list_lst, list_sq, cmp_lt, cmp_le, cmp_gt, cmp_ge, cmp_eq, cmp_ne, eq_int, eq_str, eq_bl, cmp_isN, cmp_isB, cmp_isnot, cmp_inT, cmp_inL, cmp_ninL, sub_tup, sub_lst, sub_sq, atP0, atP1, atP2, atP3, atP4, atP5, len_tup, len_lst, len_sq, len_str, bi_abs, bi_int, bi_strI, bi_strS, bi_tupL, bi_tupT, bi_tupS, bi_max2, bi_min2, bi_all, bi_any, bi_sum, me_join, it_tup, it_lst, it_sq, slc_tup, opt_none, opt_some, cut1, exists_and_left, List.singleton_append, pick, isTupD, typed, isTy, wipeE, Int.reduceEq, Int.reduceLT, Int.reduceSub, Int.reduceNeg, ex_if, ex_some, ex_map, List.any_cons, List.any_nil, Bool.or_false, Bool.false_or, Bool.or_true, Bool.true_or, decide_true, decide_false, List.getElem?_cons_zero, List.getElem?_cons_succ, Option.some.injEq, exists_eq_left', exists_eq_left, exists_eq_right, true_and, and_true, List.map_cons, List.map_nil, List.set_cons_zero, List.set_cons_succ, List.length_cons, List.length_nil, List.cons_append, List.nil_append, List.reduceReplicate, Nat.reduceSub, Nat.reduceAdd, Nat.reduceLT, Nat.reduceLeDiff, Nat.zero_lt_succ, Nat.lt_add_left_iff_pos, Nat.succ_lt_succ_iff, D.int.injEq, D.bl.injEq, D.str.injEq, D.tup.injEq, D.lst.injEq, D.own.injEq, decide_eq_true_eq, Bool.not_eq_true', decide_eq_false_iff_not, if_true, if_false, ite_true, ite_false, Bool.false_eq_true, reduceCtorEq, false_and, exists_false, Option.map_some, Option.map_none, Option.bind_some, Option.getD_some]
    exact ⟨_, by omega, _, _, rfl, rfl, hy, h1, .inl hy0, hyl, by omega⟩
  · rename_i h
    have h : y = 0 := by simpa using h
    subst h
    have hx0 : 0 < x := by omega
    simp only [div_ok (j := x) (by omega) (big_bits hx hxl), w_var, w_con, w_glob, w_bin, w_neg, w_not, w_and, w_or, w_ifx, w_cmp, w_tup, w_frz, w_own, w_sub, w_slc, w_call, w_callk, w_bi, w_isi, w_me, w_tab, w_ono, w_oyes, w_nil, w_cons, w_tnil, w_tcons, w_disp, w_comp, w_cat, w_rep, w_nslc, w_rev, w_ival, w_irng, w_gname, w_gtup, w_gsub, w_gsnil, w_gscons, w_sexpr, w_asg, w_par, w_ret, w_retN, w_ifs, w_for, w_pass, w_brk, w_cont, w_snil, w_scons, nxt_nx, nxt_rt, nxt_bk, nxt_ct, fin_rt, fin_nx, is_ok, is_no, is_bind, is_guard, is_of, bin_addI, bin_addS, bin_addT, bin_sub, bin_mul, bin_mulT, bin_fdiv, bin_mod, bin_pow, look_int, look_str, look_bl, look_non, look_tup, look_lst, look_sq, items_tup, items_lst, items_sq, list_lst, list_sq, cmp_lt, cmp_le, cmp_gt, cmp_ge, cmp_eq, cmp_ne, eq_int, eq_str, eq_bl, cmp_isN, cmp_isB, cmp_isnot, cmp_inT, cmp_inL, cmp_ninL, sub_tup, sub_lst, sub_sq, atP0, atP1, atP2, atP3, atP4, atP5, len_tup, len_lst, len_sq, len_str, bi_abs, bi_int, bi_strI, bi_strS, bi_tupL, bi_tupT, bi_tupS, bi_max2, bi_min2, bi_all, bi_any, bi_sum, me_join, it_tup, it_lst, it_sq, slc_tup, opt_none, opt_some, cut1, exists_and_left, List.singleton_append, pick, isTupD, typed, isTy, wipeE, Int.reduceEq, Int.reduceLT, Int.reduceSub, Int.reduceNeg, ex_if, ex_some, ex_map, List.any_cons, List.any_nil, Bool.or_false, Bool.false_or, Bool.or_true, Bool.true_or, decide_true, decide_false, List.getElem?_cons_zero, List.getElem?_cons_succ, Option.some.injEq, exists_eq_left', exists_eq_left, exists_eq_right, true_and, and_true, List.map_cons, List.map_nil, List.set_cons_zero, List.set_cons_succ, List.length_cons, List.length_nil, List.cons_append, List.nil_append, List.reduceReplicate, Nat.reduceSub, Nat.reduceAdd, Nat.reduceLT, Nat.reduceLeDiff, Nat.zero_lt_succ, Nat.lt_add_left_iff_pos, Nat.succ_lt_succ_iff, D.int.injEq, D.bl.injEq, D.str.injEq, D.tup.injEq, D.lst.injEq, D.own.injEq, decide_eq_true_eq, Bool.not_eq_true', decide_eq_false_iff_not, if_true, if_false, ite_true, ite_false, Bool.false_eq_true, reduceCtorEq, false_and, exists_false, Option.map_some, Option.map_none, Option.bind_some, Option.getD_some]
    refine ⟨by decide, ?_⟩
    rw [finish_same rfl, is_ok]
    exact ⟨_, _, rfl, fdiv_le t hx0, fdiv_le b hx0, rfl⟩
/-! ### numbers, sides -/
theorem sm_of {v : Int} {m : Nat} (hm : m ≤ 300) (h : v.natAbs ≤ 10 ^ m) : Sm v := by
  have h1 : 10 ^ m ≤ 10 ^ 300 := Nat.pow_le_pow_right (by decide) hm
  have h2 : (10 : Nat) ^ 300 < 10 ^ 301 := by decide +kernel
  unfold Sm
  omega
theorem number {most : Nat} (hw : 10 ^ 310 ≤ wf) (h1 : 1 ≤ most) (hm : most ≤ 300) (h : Well w (k + 11) S) : (callF tab G wf (n + 3) 17 [.own w, .int most] S).Is fun d S' => ∃ p : Int × Int, d = nD p ∧ SmN p ∧ Dr w k S S' := by
  have h300 : 10 ^ most ≤ 10 ^ 300 := Nat.pow_le_pow_right (by decide) hm
  have p1 : 1 ≤ 10 ^ most := Nat.one_le_pow _ _ (by decide)
  rw [w_fn at17 rfl]
  simp only [f17, w_var, w_con, w_glob, w_bin, w_neg, w_not, w_and, w_or, w_ifx, w_cmp, w_tup, w_frz, w_own, w_sub, w_slc, w_call, w_callk, w_bi, w_isi, w_me, w_tab, w_ono, w_oyes, w_nil, w_cons, w_tnil, w_tcons, w_disp, w_comp, w_cat, w_rep, w_nslc, w_rev, w_ival, w_irng, w_gname, w_gtup, w_gsub, w_gsnil, w_gscons, w_sexpr, w_asg, w_par, w_ret, w_retN, w_ifs, w_for, w_pass, w_brk, w_cont, w_snil, w_scons, nxt_nx, nxt_rt, nxt_bk, nxt_ct, fin_rt, fin_nx, is_ok, is_no, is_bind, is_guard, is_of, bin_addI, bin_addS, bin_addT, bin_sub, bin_mul, bin_mulT, bin_fdiv, bin_mod, bin_pow, look_int, look_str, look_bl, look_non, look_tup, look_lst, look_sq, items_tup, items_lst, items_sq, list_lst, list_sq, cmp_lt, cmp_le, cmp_gt, cmp_ge, cmp_eq, cmp_ne, eq_int, eq_str, eq_bl, cmp_isN, cmp_isB, cmp_isnot, cmp_inT, cmp_inL, cmp_ninL, sub_tup, sub_lst, sub_sq, atP0, atP1, atP2, atP3, atP4, atP5, len_tup, len_lst, len_sq, len_str, bi_abs, bi_int, bi_strI, bi_strS, bi_tupL, bi_tupT, bi_tupS, bi_max2, bi_min2, bi_all, bi_any, bi_sum, me_join, it_tup, it_lst, it_sq, slc_tup, opt_none, opt_some, cut1, exists_and_left, List.singleton_append, pick, isTupD, typed, isTy, wipeE, Int.reduceEq, Int.reduceLT, Int.reduceSub, Int.reduceNeg, ex_if, ex_some, ex_map, List.any_cons, List.any_nil, Bool.or_false, Bool.false_or, Bool.or_true, Bool.true_or, decide_true, decide_false, List.getElem?_cons_zero, List.getElem?_cons_succ, Option.some.injEq, exists_eq_left', exists_eq_left, exists_eq_right, true_and, and_true, List.map_cons, List.map_nil, List.set_cons_zero, List.set_cons_succ, List.length_cons, List.length_nil, List.cons_append, List.nil_append, List.reduceReplicate, Nat.reduceSub, Nat.reduceAdd, Nat.reduceLT, Nat.reduceLeDiff, Nat.zero_lt_succ, Nat.lt_add_left_iff_pos, Nat.succ_lt_succ_iff, D.int.injEq, D.bl.injEq, D.str.injEq, D.tup.injEq, D.lst.injEq, D.own.injEq, decide_eq_true_eq, Bool.not_eq_true', decide_eq_false_iff_not, if_true, if_false, ite_true, ite_false, Bool.false_eq_true, reduceCtorEq, false_and, exists_false, Option.map_some, Option.map_none, Option.bind_some, Option.getD_some]
  refine (integer h1 hm (h.less (j := k + 6 + 5) (by omega))).mono fun d S1 ⟨x, e1, hx, D1⟩ => ?_
  subst e1
  simp only [w_var, w_con, w_glob, w_bin, w_neg, w_not, w_and, w_or, w_ifx, w_cmp, w_tup, w_frz, w_own, w_sub, w_slc, w_call, w_callk, w_bi, w_isi, w_me, w_tab, w_ono, w_oyes, w_nil, w_cons, w_tnil, w_tcons, w_disp, w_comp, w_cat, w_rep, w_nslc, w_rev, w_ival, w_irng, w_gname, w_gtup, w_gsub, w_gsnil, w_gscons, w_sexpr, w_asg, w_par, w_ret, w_retN, w_ifs, w_for, w_pass, w_brk, w_cont, w_snil, w_scons, nxt_nx, nxt_rt, nxt_bk, nxt_ct, fin_rt, fin_nx, is_ok, is_no, is_bind, is_guard, is_of, bin_addI, bin_addS, bin_addT, bin_sub, bin_mul, bin_mulT, bin_fdiv, bin_mod, bin_pow, look_int, look_str, look_bl, look_non, look_tup, look_lst, look_sq, items_tup, items_lst, items_sq, list_lst, list_sq, cmp_lt, cmp_le, cmp_gt, cmp_ge, cmp_eq, cmp_ne, eq_int, eq_str, eq_bl, cmp_isN, cmp_isB, cmp_isnot, cmp_inT, cmp_inL, cmp_ninL, sub_tup, sub_lst, sub_sq, atP0, atP1, atP2, atP3, atP4, atP5, len_tup, len_lst, len_sq, len_str, bi_abs, bi_int, bi_strI, bi_strS, bi_tupL, bi_tupT, bi_tupS, bi_max2, bi_min2, bi_all, bi_any, bi_sum, me_join, it_tup, it_lst, it_sq, slc_tup, opt_none, opt_some, cut1, exists_and_left, List.singleton_append, pick, isTupD, typed, isTy, wipeE, Int.reduceEq, Int.reduceLT, Int.reduceSub, Int.reduceNeg, ex_if, ex_some, ex_map, List.any_cons, List.any_nil, Bool.or_false, Bool.false_or, Bool.or_true, Bool.true_or, decide_true, decide_false, List.getElem?_cons_zero, List.getElem?_cons_succ, Option.some.injEq, exists_eq_left', exists_eq_left, exists_eq_right, true_and, and_true, List.map_cons, List.map_nil, List.set_cons_zero, List.set_cons_succ, List.length_cons, List.length_nil, List.cons_append, List.nil_append, List.reduceReplicate, Nat.reduceSub, Nat.reduceAdd, Nat.reduceLT, Nat.reduceLeDiff, Nat.zero_lt_succ, Nat.lt_add_left_iff_pos, Nat.succ_lt_succ_iff, D.int.injEq, D.bl.injEq, D.str.injEq, D.tup.injEq, D.lst.injEq, D.own.injEq, decide_eq_true_eq, Bool.not_eq_true', decide_eq_false_iff_not, if_true, if_false, ite_true, ite_false, Bool.false_eq_true, reduceCtorEq, false_and, exists_false, Option.map_some, Option.map_none, Option.bind_some, Option.getD_some]
  refine ⟨by decide, (draw (m := 3) (by decide) (by decide) (D1.well.less (j := k + 5 + 1) (by omega))).mono fun d S2 ⟨v, e2, a2, b2, D2⟩ => ?_⟩
  subst e2
  have D2 := D1.trans D2
  have hb : ∃ z : Int, atP [.int 1, .int 1, .int (if x < 0 then -x else x)] v = some (.int z) ∧ 0 ≤ z ∧ z.natAbs ≤ 10 ^ most := by
    have hv : v = 0 ∨ v = 1 ∨ v = 2 := by omega
    rcases hv with rfl | rfl | rfl
    · exact ⟨1, by rw [atP0]; rfl, by decide, by simpa using p1⟩
    · exact ⟨1, by rw [atP1]; rfl, by decide, by simpa using p1⟩
    · exact ⟨_, by rw [atP2]; rfl, by split <;> omega, by split <;> omega⟩
  obtain ⟨z, hz, z0, zl⟩ := hb
  simp only [hz, w_var, w_con, w_glob, w_bin, w_neg, w_not, w_and, w_or, w_ifx, w_cmp, w_tup, w_frz, w_own, w_sub, w_slc, w_call, w_callk, w_bi, w_isi, w_me, w_tab, w_ono, w_oyes, w_nil, w_cons, w_tnil, w_tcons, w_disp, w_comp, w_cat, w_rep, w_nslc, w_rev, w_ival, w_irng, w_gname, w_gtup, w_gsub, w_gsnil, w_gscons, w_sexpr, w_asg, w_par, w_ret, w_retN, w_ifs, w_for, w_pass, w_brk, w_cont, w_snil, w_scons, nxt_nx, nxt_rt, nxt_bk, nxt_ct, fin_rt, fin_nx, is_ok, is_no, is_bind, is_guard, is_of, bin_addI, bin_addS, bin_addT, bin_sub, bin_mul, bin_mulT, bin_fdiv, bin_mod, bin_pow, look_int, look_str, look_bl, look_non, look_tup, look_lst, look_sq, items_tup, items_lst, items_sq, list_lst, list_sq, cmp_lt, cmp_le, cmp_gt, cmp_ge, cmp_eq, cmp_ne, eq_int, eq_str, eq_bl, cmp_isN, cmp_isB, cmp_isnot, cmp_inT, cmp_inL, cmp_ninL, sub_tup, sub_lst, sub_sq, atP0, atP1, atP2, atP3, atP4, atP5, len_tup, len_lst, len_sq, len_str, bi_abs, bi_int, bi_strI, bi_strS, bi_tupL, bi_tupT, bi_tupS, bi_max2, bi_min2, bi_all, bi_any, bi_sum, me_join, it_tup, it_lst, it_sq, slc_tup, opt_none, opt_some, cut1, exists_and_left, List.singleton_append, pick, isTupD, typed, isTy, wipeE, Int.reduceEq, Int.reduceLT, Int.reduceSub, Int.reduceNeg, ex_if, ex_some, ex_map, List.any_cons, List.any_nil, Bool.or_false, Bool.false_or, Bool.or_true, Bool.true_or, decide_true, decide_false, List.getElem?_cons_zero, List.getElem?_cons_succ, Option.some.injEq, exists_eq_left', exists_eq_left, exists_eq_right, true_and, and_true, List.map_cons, List.map_nil, List.set_cons_zero, List.set_cons_succ, List.length_cons, List.length_nil, List.cons_append, List.nil_append, List.reduceReplicate, Nat.reduceSub, Nat.reduceAdd, Nat.reduceLT, Nat.reduceLeDiff, Nat.zero_lt_succ, Nat.lt_add_left_iff_pos, Nat.succ_lt_succ_iff, D.int.injEq, D.bl.injEq, D.str.injEq, D.tup.injEq, D.lst.injEq, D.own.injEq, decide_eq_true_eq, Bool.not_eq_true', decide_eq_false_iff_not, if_true, if_false, ite_true, ite_false, Bool.false_eq_true, reduceCtorEq, false_and, exists_false, Option.map_some, Option.map_none, Option.bind_some, Option.getD_some]
  refine (integer h1 hm D2.well).mono fun d S3 ⟨y, e3, hy, D3⟩ => ?_
  subst e3
  have D3 := D2.trans D3
  refine (low hw (by split <;> omega) (by omega) (by split <;> omega)).mono fun d S4 ⟨u, v, e4, hu, hv, e5⟩ => ?_
  subst e4 e5
  rw [finish_dr D3 rfl, is_ok]
  refine ⟨(u, v), rfl, ⟨sm_of hm (by omega), sm_of hm ?_⟩, D3⟩
  have : (if z > 1 then z else 1).natAbs ≤ 10 ^ most := by split <;> omega
  omega
structure SmQ3 (q : List Int × Int) : Prop where
  s : ∀ x ∈ q.1, x.natAbs ≤ 10 ^ 300
  l : q.1.length ≤ 12
  w : q.2.natAbs ≤ 10 ^ 300
theorem SmQ3.q {q : List Int × Int} (h : SmQ3 q) : SmQ q := ⟨fun x hx => sm_of (Nat.le_refl _) (h.s x hx), h.l, sm_of (Nat.le_refl _) h.w⟩
theorem draw_sided {most dd : Nat} (h1 : 1 ≤ most) (hm : most ≤ 300) (hd : 1 ≤ dd) (hd2 : dd ≤ 12) (h : Well w (k + 66) S) : (callF tab G wf (n + 3) 18 [.own w, .int dd, .int most] S).Is fun d S' => ∃ q : List Int × Int, d = qD q ∧ SmQ3 q ∧ q.1.length = dd ∧ Dr w k S S' := by
  have hlw := h.lt
  have h300 : 10 ^ most ≤ 10 ^ 300 := Nat.pow_le_pow_right (by decide) hm
  rw [w_fn at18 rfl]
  simp only [f18, rng_nat (k := dd) (Nat.le_trans hd2 (by decide)), w_var, w_con, w_glob, w_bin, w_neg, w_not, w_and, w_or, w_ifx, w_cmp, w_tup, w_frz, w_own, w_sub, w_slc, w_call, w_callk, w_bi, w_isi, w_me, w_tab, w_ono, w_oyes, w_nil, w_cons, w_tnil, w_tcons, w_disp, w_comp, w_cat, w_rep, w_nslc, w_rev, w_ival, w_irng, w_gname, w_gtup, w_gsub, w_gsnil, w_gscons, w_sexpr, w_asg, w_par, w_ret, w_retN, w_ifs, w_for, w_pass, w_brk, w_cont, w_snil, w_scons, nxt_nx, nxt_rt, nxt_bk, nxt_ct, fin_rt, fin_nx, is_ok, is_no, is_bind, is_guard, is_of, bin_addI, bin_addS, bin_addT, bin_sub, bin_mul, bin_mulT, bin_fdiv, bin_mod, bin_pow, look_int, look_str, look_bl, look_non, look_tup, look_lst, look_sq, items_tup, items_lst, items_sq, list_lst, list_sq, cmp_lt, cmp_le, cmp_gt, cmp_ge, cmp_eq, cmp_ne, eq_int, eq_str, eq_bl, cmp_isN, cmp_isB, cmp_isnot, cmp_inT, cmp_inL, cmp_ninL, sub_tup, sub_lst, sub_sq, atP0, atP1, atP2, atP3, atP4, atP5, len_tup, len_lst, len_sq, len_str, bi_abs, bi_int, bi_strI, bi_strS, bi_tupL, bi_tupT, bi_tupS, bi_max2, bi_min2, bi_all, bi_any, bi_sum, me_join, it_tup, it_lst, it_sq, slc_tup, opt_none, opt_some, cut1, exists_and_left, List.singleton_append, pick, isTupD, typed, isTy, wipeE, Int.reduceEq, Int.reduceLT, Int.reduceSub, Int.reduceNeg, ex_if, ex_some, ex_map, List.any_cons, List.any_nil, Bool.or_false, Bool.false_or, Bool.or_true, Bool.true_or, decide_true, decide_false, List.getElem?_cons_zero, List.getElem?_cons_succ, Option.some.injEq, exists_eq_left', exists_eq_left, exists_eq_right, true_and, and_true, List.map_cons, List.map_nil, List.set_cons_zero, List.set_cons_succ, List.length_cons, List.length_nil, List.cons_append, List.nil_append, List.reduceReplicate, Nat.reduceSub, Nat.reduceAdd, Nat.reduceLT, Nat.reduceLeDiff, Nat.zero_lt_succ, Nat.lt_add_left_iff_pos, Nat.succ_lt_succ_iff, D.int.injEq, D.bl.injEq, D.str.injEq, D.tup.injEq, D.lst.injEq, D.own.injEq, decide_eq_true_eq, Bool.not_eq_true', decide_eq_false_iff_not, if_true, if_false, ite_true, ite_false, Bool.false_eq_true, reduceCtorEq, false_and, exists_false, Option.map_some, Option.map_none, Option.bind_some, Option.getD_some]
  refine ⟨by rw [rangeL_len]; exact Nat.le_trans hd2 (by decide), w_compL (fun j ds S' => j ≤ dd ∧ Dr w (k + 6 + 5 * (dd - j)) S S' ∧ ∃ xs : List Int, ds = xs.map .int ∧ xs.length = j ∧ ∀ x ∈ xs, x.natAbs ≤ 10 ^ most) ⟨Nat.zero_le _, Dr.refl (h.less (by omega)), [], rfl, rfl, fun _ h => by cases h⟩ (fun _ _ _ _ _ => ok_nil) (fun j x ds S' hx ⟨hj, D1, xs, e1, l1, b1⟩ => ?_) (fun ds S1 ⟨hj, D1, xs, e1, l1, b1⟩ => ?_)⟩
  · obtain ⟨rfl, hlt⟩ := rangeL_get hx
    subst e1
    simp only [w_var, w_con, w_glob, w_bin, w_neg, w_not, w_and, w_or, w_ifx, w_cmp, w_tup, w_frz, w_own, w_sub, w_slc, w_call, w_callk, w_bi, w_isi, w_me, w_tab, w_ono, w_oyes, w_nil, w_cons, w_tnil, w_tcons, w_disp, w_comp, w_cat, w_rep, w_nslc, w_rev, w_ival, w_irng, w_gname, w_gtup, w_gsub, w_gsnil, w_gscons, w_sexpr, w_asg, w_par, w_ret, w_retN, w_ifs, w_for, w_pass, w_brk, w_cont, w_snil, w_scons, nxt_nx, nxt_rt, nxt_bk, nxt_ct, fin_rt, fin_nx, is_ok, is_no, is_bind, is_guard, is_of, bin_addI, bin_addS, bin_addT, bin_sub, bin_mul, bin_mulT, bin_fdiv, bin_mod, bin_pow, look_int, look_str, look_bl, look_non, look_tup, look_lst, look_sq, items_tup, items_lst, items_sq, list_lst, list_sq, cmp_lt, cmp_le, cmp_gt, cmp_ge, cmp_eq, cmp_ne, eq_int, eq_str, eq_bl, cmp_isN, cmp_isB, cmp_isnot, cmp_inT, cmp_inL, cmp_ninL, sub_tup, sub_lst, sub_sq, atP0, atP1, atP2, atP3, atP4, atP5, len_tup, len_lst, len_sq, len_str, bi_abs, bi_int, bi_strI, bi_strS, bi_tupL, bi_tupT, bi_tupS, bi_max2, bi_min2, bi_all, bi_any, bi_sum, me_join, it_tup, it_lst, it_sq, slc_tup, opt_none, opt_some, cut1, exists_and_left, List.singleton_append, pick, isTupD, typed, isTy, wipeE, Int.reduceEq, Int.reduceLT, Int.reduceSub, Int.reduceNeg, ex_if, ex_some, ex_map, List.any_cons, List.any_nil, Bool.or_false, Bool.false_or, Bool.or_true, Bool.true_or, decide_true, decide_false, List.getElem?_cons_zero, List.getElem?_cons_succ, Option.some.injEq, exists_eq_left', exists_eq_left, exists_eq_right, true_and, and_true, List.map_cons, List.map_nil, List.set_cons_zero, List.set_cons_succ, List.length_cons, List.length_nil, List.cons_append, List.nil_append, List.reduceReplicate, Nat.reduceSub, Nat.reduceAdd, Nat.reduceLT, Nat.reduceLeDiff, Nat.zero_lt_succ, Nat.lt_add_left_iff_pos, Nat.succ_lt_succ_iff, D.int.injEq, D.bl.injEq, D.str.injEq, D.tup.injEq, D.lst.injEq, D.own.injEq, decide_eq_true_eq, Bool.not_eq_true', decide_eq_false_iff_not, if_true, if_false, ite_true, ite_false, Bool.false_eq_true, reduceCtorEq, false_and, exists_false, Option.map_some, Option.map_none, Option.bind_some, Option.getD_some]
    refine (integer h1 hm (D1.well.less (j := k + 6 + 5 * (dd - (j + 1)) + 5) (by omega))).mono fun d S2 ⟨y, e2, hy, D2⟩ => ?_
    subst e2
    refine ⟨by omega, D1.trans D2, xs ++ [y], by rw [List.map_append]; rfl, by rw [List.length_append, l1]; rfl, fun z hz => ?_⟩
    rcases List.mem_append.mp hz with hz | hz
    · exact b1 z hz
    · rw [List.mem_singleton.mp hz]
      exact hy
  · rw [rangeL_len] at l1 D1
    subst e1
    have D1 : Dr w (k + 6) S S1 := ⟨D1.up, D1.len, D1.well.less (by omega)⟩
    have hgt := D1.len
    have tail : ∀ (T : Sto) (ys : List Int), T[S1.length]? = some (.lst (ys.map .int)) → Up w S T → Well w (k + 5) T → (∀ y ∈ ys, y.natAbs ≤ 10 ^ most) → ys.length = dd →
        ∃ z, biD BF.tuple1 T [D.own S1.length] = some z ∧ (callF tab G wf (n + 2) 16 [D.own w, D.int most] T).Is fun x S1 => 2 ≤ LIM ∧ (finish false S (D.tup [z, x]) S1).Is fun d S' => ∃ q : List Int × Int, d = qD q ∧ SmQ3 q ∧ q.1.length = dd ∧ Dr w k S S' := fun T ys hT hU hW hy hl => by
      refine ⟨_, bi_tupO _ _ hT, (integer h1 hm hW).mono fun d S2 ⟨v, e2, hv, D2⟩ => ⟨by decide, ?_⟩⟩
      subst e2
      have hlow : D.low S.length (.tup [.tup (ys.map D.int), .int v]) = true := by simp only [D.low, D.lowL, low_ints, Bool.and_self]
      rw [finish_well (hU.trans D2.up) D2.well hlow, is_ok]
      exact ⟨(ys, v), rfl, ⟨fun x hx => Nat.le_trans (hy x hx) h300, by show ys.length ≤ 12; omega, Nat.le_trans hv h300⟩, hl, (hU.trans D2.up).take, by rw [List.length_take]; have := (hU.trans D2.up).len; omega, D2.well.take hlw⟩
    have hP := get_push S1 (.lst (xs.map .int))
    have hr : D.okE DEEP (.lst (repL [D.int 0] (dd : Int).toNat)) = true := by
      have : repL [D.int 0] (dd : Int).toNat = (List.replicate dd (0 : Int)).map D.int := by
        rw [Int.toNat_natCast, repL_one, List.map_replicate]
      rw [this]
      exact okL_ints _
    refine ⟨by decide, ⟨by unfold LIM; omega, by unfold LIM; omega⟩, _, eq_own hP (okL_ints xs) hr, ?_⟩
    split
    · refine (draw (m := dd) (by omega) (Nat.lt_trans (bits_of (k := 10) (by omega) (by omega) (by decide)) (by decide)) ((D1.well.push [.lst (xs.map .int)]).less (j := k + 5 + 1) (by omega))).mono fun d S2 ⟨v, e2, a2, b2, D2⟩ => ?_
      obtain ⟨j, rfl⟩ := Int.eq_ofNat_of_zero_le a2
      subst e2
      have hm2 : S2[S1.length]? = some (.lst (xs.map .int)) := by
        rw [D2.up.at_ _ (by rw [List.length_append, List.length_singleton]; omega) (by omega)]
        exact hP
      have hlt := (List.getElem?_eq_some_iff.mp hm2).1
      rw [put_at hm2 (place_nat (by rw [List.length_map]; omega)), is_ok]
      refine tail _ (xs.set j 1) ?_ (((D1.up.push _).trans D2.up).setAbove (by omega) _) (D2.well.setAbove (by omega) _) (fun y hy => ?_) (by rw [List.length_set]; exact l1)
      · rw [List.getElem?_set_self hlt, List.map_set]
      · rcases List.mem_or_eq_of_mem_set hy with hy | hy
        · exact b1 y hy
        · rw [hy]
          exact Nat.one_le_pow _ _ (by decide)
    · exact tail _ xs hP (D1.up.push _) ((D1.well.push _).less (by omega)) b1 l1
end K47

namespace K47
open PySem Ev
variable {wf n : Nat} {S : Sto} {w k : Nat}
theorem fmod_nat (a b : Nat) : Int.fmod (a : Int) (b : Int) = ((a % b : Nat) : Int) := by
  rw [Int.fmod_eq_emod_of_nonneg _ (Int.natCast_nonneg b), Int.natCast_emod]
theorem gcd_step (a b : Nat) : Nat.gcd b (a % b) = Nat.gcd a b := by
  rw [Nat.gcd_comm a b, Nat.gcd_rec b a, Nat.gcd_comm]
theorem divided {xs : List Int} {sh : Int} (hw : 10 ^ 310 ≤ wf) (hx : ∀ x ∈ xs, x.natAbs ≤ 10 ^ 300) (hs : sh.natAbs ≤ 10 ^ 300) (hl : xs.length ≤ 12) (hne : ∃ x ∈ xs, x ≠ 0) :
    (callF tab G wf (n + 1) 12 [.tup (xs.map iD), .int sh] S).Is fun d S' => ∃ g : Nat, 0 < g ∧ (∀ x ∈ xs, x ≠ 0 → g ≤ x.natAbs) ∧ d = .tup [.tup ((xs.map fun x => x.fdiv g).map iD), .int (sh.fdiv g)] ∧ S' = S := by
  have hw2 : (10 : Nat) ^ 300 < 10 ^ 310 := by decide +kernel
  rw [w_fn at12 rfl]
  simp only [f12, w_var, w_con, w_glob, w_bin, w_neg, w_not, w_and, w_or, w_ifx, w_cmp, w_tup, w_frz, w_own, w_sub, w_slc, w_call, w_callk, w_bi, w_isi, w_me, w_tab, w_ono, w_oyes, w_nil, w_cons, w_tnil, w_tcons, w_disp, w_comp, w_cat, w_rep, w_nslc, w_rev, w_ival, w_irng, w_gname, w_gtup, w_gsub, w_gsnil, w_gscons, w_sexpr, w_asg, w_par, w_ret, w_retN, w_ifs, w_for, w_pass, w_brk, w_cont, w_snil, w_scons, nxt_nx, nxt_rt, nxt_bk, nxt_ct, fin_rt, fin_nx, is_ok, is_no, is_bind, is_guard, is_of, bin_addI, bin_addS, bin_addT, bin_sub, bin_mul, bin_mulT, bin_fdiv, bin_mod, bin_pow, look_int, look_str, look_bl, look_non, look_tup, look_lst, look_sq, items_tup, items_lst, items_sq, list_lst, list_sq, cmp_lt, cmp_le, cmp_gt, cmp_ge, cmp_eq, cmp_ne, eq_int, eq_str, eq_bl, cmp_isN, cmp_isB, cmp_isnot, cmp_inT, cmp_inL, cmp_ninL, sub_tup, sub_lst, sub_sq, atP0, atP1, atP2, atP3, atP4, atP5, len_tup, len_lst, len_sq, len_str, bi_abs, bi_int, bi_strI, bi_strS, bi_tupL, bi_tupT, bi_tupS, bi_max2, bi_min2, bi_all, bi_any, bi_sum, me_join, it_tup, it_lst, it_sq, slc_tup, opt_none, opt_some, cut1, exists_and_left, List.singleton_append, pick, isTupD, typed, isTy, wipeE, Int.reduceEq, Int.reduceLT, Int.reduceSub, Int.reduceNeg, ex_if, ex_some, ex_map, List.any_cons, List.any_nil, Bool.or_false, Bool.false_or, Bool.or_true, Bool.true_or, decide_true, decide_false, List.getElem?_cons_zero, List.getElem?_cons_succ, Option.some.injEq, exists_eq_left', exists_eq_left, exists_eq_right, true_and, and_true, List.map_cons, List.map_nil, List.set_cons_zero, List.set_cons_succ, List.length_cons, List.length_nil, List.cons_append, List.nil_append, List.reduceReplicate, Nat.reduceSub, Nat.reduceAdd, Nat.reduceLT, Nat.reduceLeDiff, Nat.zero_lt_succ, Nat.lt_add_left_iff_pos, Nat.succ_lt_succ_iff, D.int.injEq, D.bl.injEq, D.str.injEq, D.tup.injEq, D.lst.injEq, D.own.injEq, decide_eq_true_eq, Bool.not_eq_true', decide_eq_false_iff_not, if_true, if_false, ite_true, ite_false, Bool.false_eq_true, reduceCtorEq, false_and, exists_false, Option.map_some, Option.map_none, Option.bind_some, Option.getD_some]
  have h0 : (if sh < 0 then -sh else sh) = (sh.natAbs : Int) := by split <;> omega
  rw [h0]
  refine w_forL (fun j e S' => S' = S ∧ ∃ (g : Nat) (y z : Option D), e = [some (.tup (xs.map iD)), some (.int sh), some (.int g), y, z] ∧ g ≤ 10 ^ 300 ∧ ∀ x ∈ xs.take j, x ≠ 0 → 0 < g ∧ g ≤ x.natAbs)
    ⟨rfl, sh.natAbs, none, none, rfl, hs, fun x h => by cases h⟩ (fun _ _ _ _ _ => ok_nil) (fun j x e S' hxj ⟨hS, g, y, z, he, hg, hi⟩ => ?_) (fun e S' ⟨hS, g, y, z, he, hg, hi⟩ => ?_)
  · rw [List.getElem?_map] at hxj
    obtain ⟨x, hxe, rfl⟩ := Option.map_eq_some_iff.mp hxj
    clear hxj
    subst hS he
    simp only [iD, w_var, w_con, w_glob, w_bin, w_neg, w_not, w_and, w_or, w_ifx, w_cmp, w_tup, w_frz, w_own, w_sub, w_slc, w_call, w_callk, w_bi, w_isi, w_me, w_tab, w_ono, w_oyes, w_nil, w_cons, w_tnil, w_tcons, w_disp, w_comp, w_cat, w_rep, w_nslc, w_rev, w_ival, w_irng, w_gname, w_gtup, w_gsub, w_gsnil, w_gscons, w_sexpr, w_asg, w_par, w_ret, w_retN, w_ifs, w_for, w_pass, w_brk, w_cont, w_snil, w_scons, nxt_nx, nxt_rt, nxt_bk, nxt_ct, fin_rt, fin_nx, is_ok, is_no, is_bind, is_guard, is_of, bin_addI, bin_addS, bin_addT, bin_sub, bin_mul, bin_mulT, bin_fdiv, bin_mod, bin_pow, look_int, look_str, look_bl, look_non, look_tup, look_lst, look_sq, items_tup, items_lst, items_sq, list_lst, list_sq, cmp_lt, cmp_le, cmp_gt, cmp_ge, cmp_eq, cmp_ne, eq_int, eq_str, eq_bl, cmp_isN, cmp_isB, cmp_isnot, cmp_inT, cmp_inL, cmp_ninL, sub_tup, sub_lst, sub_sq, atP0, atP1, atP2, atP3, atP4, atP5, len_tup, len_lst, len_sq, len_str, bi_abs, bi_int, bi_strI, bi_strS, bi_tupL, bi_tupT, bi_tupS, bi_max2, bi_min2, bi_all, bi_any, bi_sum, me_join, it_tup, it_lst, it_sq, slc_tup, opt_none, opt_some, cut1, exists_and_left, List.singleton_append, pick, isTupD, typed, isTy, wipeE, Int.reduceEq, Int.reduceLT, Int.reduceSub, Int.reduceNeg, ex_if, ex_some, ex_map, List.any_cons, List.any_nil, Bool.or_false, Bool.false_or, Bool.or_true, Bool.true_or, decide_true, decide_false, List.getElem?_cons_zero, List.getElem?_cons_succ, Option.some.injEq, exists_eq_left', exists_eq_left, exists_eq_right, true_and, and_true, List.map_cons, List.map_nil, List.set_cons_zero, List.set_cons_succ, List.length_cons, List.length_nil, List.cons_append, List.nil_append, List.reduceReplicate, Nat.reduceSub, Nat.reduceAdd, Nat.reduceLT, Nat.reduceLeDiff, Nat.zero_lt_succ, Nat.lt_add_left_iff_pos, Nat.succ_lt_succ_iff, D.int.injEq, D.bl.injEq, D.str.injEq, D.tup.injEq, D.lst.injEq, D.own.injEq, decide_eq_true_eq, Bool.not_eq_true', decide_eq_false_iff_not, if_true, if_false, ite_true, ite_false, Bool.false_eq_true, reduceCtorEq, false_and, exists_false, Option.map_some, Option.map_none, Option.bind_some, Option.getD_some]
    have hxb := hx x (List.mem_of_getElem? hxe)
    rw [show (if x < 0 then -x else x) = (x.natAbs : Int) by split <;> omega]
    refine w_while (fun m e S2 => S2 = S' ∧ ∃ a b : Nat, e = [some (.tup (xs.map iD)), some (.int sh), some (.int a), some (.int x), some (.int b)] ∧ m = b ∧ Nat.gcd a b = Nat.gcd g x.natAbs ∧ a ≤ 10 ^ 300 ∧ b ≤ 10 ^ 300)
      ⟨rfl, g, x.natAbs, rfl, rfl, rfl, hg, hxb⟩ (by show x.natAbs < wf; omega) fun m e S2 ⟨hS2, a, b, he, hm, hgc, ha, hb⟩ => ?_
    subst hS2 he
    simp only [w_var, w_con, w_glob, w_bin, w_neg, w_not, w_and, w_or, w_ifx, w_cmp, w_tup, w_frz, w_own, w_sub, w_slc, w_call, w_callk, w_bi, w_isi, w_me, w_tab, w_ono, w_oyes, w_nil, w_cons, w_tnil, w_tcons, w_disp, w_comp, w_cat, w_rep, w_nslc, w_rev, w_ival, w_irng, w_gname, w_gtup, w_gsub, w_gsnil, w_gscons, w_sexpr, w_asg, w_par, w_ret, w_retN, w_ifs, w_for, w_pass, w_brk, w_cont, w_snil, w_scons, nxt_nx, nxt_rt, nxt_bk, nxt_ct, fin_rt, fin_nx, is_ok, is_no, is_bind, is_guard, is_of, bin_addI, bin_addS, bin_addT, bin_sub, bin_mul, bin_mulT, bin_fdiv, bin_mod, bin_pow, look_int, look_str, look_bl, look_non, look_tup, look_lst, look_sq, items_tup, items_lst, items_sq, list_lst, list_sq, cmp_lt, cmp_le, cmp_gt, cmp_ge, cmp_eq, cmp_ne, eq_int, eq_str, eq_bl, cmp_isN, cmp_isB, cmp_isnot, cmp_inT, cmp_inL, cmp_ninL, sub_tup, sub_lst, sub_sq, atP0, atP1, atP2, atP3, atP4, atP5, len_tup, len_lst, len_sq, len_str, bi_abs, bi_int, bi_strI, bi_strS, bi_tupL, bi_tupT, bi_tupS, bi_max2, bi_min2, bi_all, bi_any, bi_sum, me_join, it_tup, it_lst, it_sq, slc_tup, opt_none, opt_some, cut1, exists_and_left, List.singleton_append, pick, isTupD, typed, isTy, wipeE, Int.reduceEq, Int.reduceLT, Int.reduceSub, Int.reduceNeg, ex_if, ex_some, ex_map, List.any_cons, List.any_nil, Bool.or_false, Bool.false_or, Bool.or_true, Bool.true_or, decide_true, decide_false, List.getElem?_cons_zero, List.getElem?_cons_succ, Option.some.injEq, exists_eq_left', exists_eq_left, exists_eq_right, true_and, and_true, List.map_cons, List.map_nil, List.set_cons_zero, List.set_cons_succ, List.length_cons, List.length_nil, List.cons_append, List.nil_append, List.reduceReplicate, Nat.reduceSub, Nat.reduceAdd, Nat.reduceLT, Nat.reduceLeDiff, Nat.zero_lt_succ, Nat.lt_add_left_iff_pos, Nat.succ_lt_succ_iff, D.int.injEq, D.bl.injEq, D.str.injEq, D.tup.injEq, D.lst.injEq, D.own.injEq, decide_eq_true_eq, Bool.not_eq_true', decide_eq_false_iff_not, if_true, if_false, ite_true, ite_false, Bool.false_eq_true, reduceCtorEq, false_and, exists_false, Option.map_some, Option.map_none, Option.bind_some, Option.getD_some]
    split
    · rename_i h
      have h : b ≠ 0 := fun z => by rw [z] at h; exact absurd h (by decide)
      simp only [mod_ok (j := (b : Int)) (by omega), fmod_nat, w_var, w_con, w_glob, w_bin, w_neg, w_not, w_and, w_or, w_ifx, w_cmp, w_tup, w_frz, w_own, w_sub, w_slc, w_call, w_callk, w_bi, w_isi, w_me, w_tab, w_ono, w_oyes, w_nil, w_cons, w_tnil, w_tcons, w_disp, w_comp, w_cat, w_rep, w_nslc, w_rev, w_ival, w_irng, w_gname, w_gtup, w_gsub, w_gsnil, w_gscons, w_sexpr, w_asg, w_par, w_ret, w_retN, w_ifs, w_for, w_pass, w_brk, w_cont, w_snil, w_scons, nxt_nx, nxt_rt, nxt_bk, nxt_ct, fin_rt, fin_nx, is_ok, is_no, is_bind, is_guard, is_of, bin_addI, bin_addS, bin_addT, bin_sub, bin_mul, bin_mulT, bin_fdiv, bin_mod, bin_pow, look_int, look_str, look_bl, look_non, look_tup, look_lst, look_sq, items_tup, items_lst, items_sq, list_lst, list_sq, cmp_lt, cmp_le, cmp_gt, cmp_ge, cmp_eq, cmp_ne, eq_int, eq_str, eq_bl, cmp_isN, cmp_isB, cmp_isnot, cmp_inT, cmp_inL, cmp_ninL, sub_tup, sub_lst, sub_sq, atP0, atP1, atP2, atP3, atP4, atP5, len_tup, len_lst, len_sq, len_str, bi_abs, bi_int, bi_strI, bi_strS, bi_tupL, bi_tupT, bi_tupS, bi_max2, bi_min2, bi_all, bi_any, bi_sum, me_join, it_tup, it_lst, it_sq, slc_tup, opt_none, opt_some, cut1, exists_and_left, List.singleton_append, pick, isTupD, typed, isTy, wipeE, Int.reduceEq, Int.reduceLT, Int.reduceSub, Int.reduceNeg, ex_if, ex_some, ex_map, List.any_cons, List.any_nil, Bool.or_false, Bool.false_or, Bool.or_true, Bool.true_or, decide_true, decide_false, List.getElem?_cons_zero, List.getElem?_cons_succ, Option.some.injEq, exists_eq_left', exists_eq_left, exists_eq_right, true_and, and_true, List.map_cons, List.map_nil, List.set_cons_zero, List.set_cons_succ, List.length_cons, List.length_nil, List.cons_append, List.nil_append, List.reduceReplicate, Nat.reduceSub, Nat.reduceAdd, Nat.reduceLT, Nat.reduceLeDiff, Nat.zero_lt_succ, Nat.lt_add_left_iff_pos, Nat.succ_lt_succ_iff, D.int.injEq, D.bl.injEq, D.str.injEq, D.tup.injEq, D.lst.injEq, D.own.injEq, decide_eq_true_eq, Bool.not_eq_true', decide_eq_false_iff_not, if_true, if_false, ite_true, ite_false, Bool.false_eq_true, reduceCtorEq, false_and, exists_false, Option.map_some, Option.map_none, Option.bind_some, Option.getD_some]
      have hlt := Nat.mod_lt a (Nat.pos_of_ne_zero h)
      exact ⟨by decide, _, by omega, _, _, rfl, rfl, by rw [gcd_step, hgc], hb, by omega⟩
    · rename_i h
      have h : b = 0 := by
        by_cases z : b = 0
        · exact z
        · exact absurd (by simp [z]) h
      subst h
      rw [Nat.gcd_zero_right] at hgc
      try simp only [w_var, w_con, w_glob, w_bin, w_neg, w_not, w_and, w_or, w_ifx, w_cmp, w_tup, w_frz, w_own, w_sub, w_slc, w_call, w_callk, w_bi, w_isi, w_me, w_tab, w_ono, w_oyes, w_nil, w_cons, w_tnil, w_tcons, w_disp, w_comp, w_cat, w_rep, w_nslc, w_rev, w_ival, w_irng, w_gname, w_gtup, w_gsub, w_gsnil, w_gscons, w_sexpr, w_asg, w_par, w_ret, w_retN, w_ifs, w_for, w_pass, w_brk, w_cont, w_snil, w_scons, nxt_nx, nxt_rt, nxt_bk, nxt_ct, fin_rt, fin_nx, is_ok, is_no, is_bind, is_guard, is_of, bin_addI, bin_addS, bin_addT, bin_sub, bin_mul, bin_mulT, bin_fdiv, bin_mod, bin_pow, look_int, look_str, look_bl, look_non, look_tup, look_lst, look_sq, items_tup, items_lst, items_sq, list_lst, list_sq, cmp_lt, cmp_le, cmp_gt, cmp_ge, cmp_eq, cmp_ne, eq_int, eq_str, eq_bl, cmp_isN, cmp_isB, cmp_isnot, cmp_inT, cmp_inL, cmp_ninL, sub_tup, sub_lst, sub_sq, atP0, atP1, atP2, atP3, atP4, atP5, len_tup, len_lst, len_sq, len_str, bi_abs, bi_int, bi_strI, bi_strS, bi_tupL, bi_tupT, bi_tupS, bi_max2, bi_min2, bi_all, bi_any, bi_sum, me_join, it_tup, it_lst, it_sq, slc_tup, opt_none, opt_some, cut1, exists_and_left, List.singleton_append, pick, isTupD, typed, isTy, wipeE, Int.reduceEq, Int.reduceLT, Int.reduceSub, Int.reduceNeg, ex_if, ex_some, ex_map, List.any_cons, List.any_nil, Bool.or_false, Bool.false_or, Bool.or_true, Bool.true_or, decide_true, decide_false, List.getElem?_cons_zero, List.getElem?_cons_succ, Option.some.injEq, exists_eq_left', exists_eq_left, exists_eq_right, true_and, and_true, List.map_cons, List.map_nil, List.set_cons_zero, List.set_cons_succ, List.length_cons, List.length_nil, List.cons_append, List.nil_append, List.reduceReplicate, Nat.reduceSub, Nat.reduceAdd, Nat.reduceLT, Nat.reduceLeDiff, Nat.zero_lt_succ, Nat.lt_add_left_iff_pos, Nat.succ_lt_succ_iff, D.int.injEq, D.bl.injEq, D.str.injEq, D.tup.injEq, D.lst.injEq, D.own.injEq, decide_eq_true_eq, Bool.not_eq_true', decide_eq_false_iff_not, if_true, if_false, ite_true, ite_false, Bool.false_eq_true, reduceCtorEq, false_and, exists_false, Option.map_some, Option.map_none, Option.bind_some, Option.getD_some]
      refine ⟨a, _, _, rfl, ha, fun x' hx' hn => ?_⟩
      rw [List.take_add_one, hxe] at hx'
      rw [hgc]
      rcases List.mem_append.mp hx' with hx' | hx'
      · obtain ⟨g0, g1⟩ := hi x' hx' hn
        exact ⟨Nat.gcd_pos_of_pos_left _ g0, Nat.le_trans (Nat.gcd_le_left _ g0) g1⟩
      · have e : x' = x := by simpa using hx'
        subst e
        have hp : 0 < x'.natAbs := by omega
        exact ⟨Nat.gcd_pos_of_pos_right _ hp, Nat.gcd_le_right _ hp⟩
  · rw [List.length_map, List.take_length] at hi
    subst hS he
    obtain ⟨x0, hm0, hn0⟩ := hne
    have hg0 : 0 < g := (hi x0 hm0 hn0).1
    simp only [w_var, w_con, w_glob, w_bin, w_neg, w_not, w_and, w_or, w_ifx, w_cmp, w_tup, w_frz, w_own, w_sub, w_slc, w_call, w_callk, w_bi, w_isi, w_me, w_tab, w_ono, w_oyes, w_nil, w_cons, w_tnil, w_tcons, w_disp, w_comp, w_cat, w_rep, w_nslc, w_rev, w_ival, w_irng, w_gname, w_gtup, w_gsub, w_gsnil, w_gscons, w_sexpr, w_asg, w_par, w_ret, w_retN, w_ifs, w_for, w_pass, w_brk, w_cont, w_snil, w_scons, nxt_nx, nxt_rt, nxt_bk, nxt_ct, fin_rt, fin_nx, is_ok, is_no, is_bind, is_guard, is_of, bin_addI, bin_addS, bin_addT, bin_sub, bin_mul, bin_mulT, bin_fdiv, bin_mod, bin_pow, look_int, look_str, look_bl, look_non, look_tup, look_lst, look_sq, items_tup, items_lst, items_sq, list_lst, list_sq, cmp_lt, cmp_le, cmp_gt, cmp_ge, cmp_eq, cmp_ne, eq_int, eq_str, eq_bl, cmp_isN, cmp_isB, cmp_isnot, cmp_inT, cmp_inL, cmp_ninL, sub_tup, sub_lst, sub_sq, atP0, atP1, atP2, atP3, atP4, atP5, len_tup, len_lst, len_sq, len_str, bi_abs, bi_int, bi_strI, bi_strS, bi_tupL, bi_tupT, bi_tupS, bi_max2, bi_min2, bi_all, bi_any, bi_sum, me_join, it_tup, it_lst, it_sq, slc_tup, opt_none, opt_some, cut1, exists_and_left, List.singleton_append, pick, isTupD, typed, isTy, wipeE, Int.reduceEq, Int.reduceLT, Int.reduceSub, Int.reduceNeg, ex_if, ex_some, ex_map, List.any_cons, List.any_nil, Bool.or_false, Bool.false_or, Bool.or_true, Bool.true_or, decide_true, decide_false, List.getElem?_cons_zero, List.getElem?_cons_succ, Option.some.injEq, exists_eq_left', exists_eq_left, exists_eq_right, true_and, and_true, List.map_cons, List.map_nil, List.set_cons_zero, List.set_cons_succ, List.length_cons, List.length_nil, List.cons_append, List.nil_append, List.reduceReplicate, Nat.reduceSub, Nat.reduceAdd, Nat.reduceLT, Nat.reduceLeDiff, Nat.zero_lt_succ, Nat.lt_add_left_iff_pos, Nat.succ_lt_succ_iff, D.int.injEq, D.bl.injEq, D.str.injEq, D.tup.injEq, D.lst.injEq, D.own.injEq, decide_eq_true_eq, Bool.not_eq_true', decide_eq_false_iff_not, if_true, if_false, ite_true, ite_false, Bool.false_eq_true, reduceCtorEq, false_and, exists_false, Option.map_some, Option.map_none, Option.bind_some, Option.getD_some]
    have hc : ((10 ^ 300 : Nat) : Int) = 10 ^ 300 := by simp
    have hdv : divOk (g : Int) = true := div_ok (by omega) (big_bits (by omega) (by omega))
    refine ⟨by rw [List.length_map]; exact Nat.le_trans hl (by decide), Ev.comp_map xs iD (fun x => .int (x.fdiv g)) rfl rfl (fun x hx => ?_) ?_⟩
    · simp only [iD, hdv, w_var, w_con, w_glob, w_bin, w_neg, w_not, w_and, w_or, w_ifx, w_cmp, w_tup, w_frz, w_own, w_sub, w_slc, w_call, w_callk, w_bi, w_isi, w_me, w_tab, w_ono, w_oyes, w_nil, w_cons, w_tnil, w_tcons, w_disp, w_comp, w_cat, w_rep, w_nslc, w_rev, w_ival, w_irng, w_gname, w_gtup, w_gsub, w_gsnil, w_gscons, w_sexpr, w_asg, w_par, w_ret, w_retN, w_ifs, w_for, w_pass, w_brk, w_cont, w_snil, w_scons, nxt_nx, nxt_rt, nxt_bk, nxt_ct, fin_rt, fin_nx, is_ok, is_no, is_bind, is_guard, is_of, bin_addI, bin_addS, bin_addT, bin_sub, bin_mul, bin_mulT, bin_fdiv, bin_mod, bin_pow, look_int, look_str, look_bl, look_non, look_tup, look_lst, look_sq, items_tup, items_lst, items_sq, list_lst, list_sq, cmp_lt, cmp_le, cmp_gt, cmp_ge, cmp_eq, cmp_ne, eq_int, eq_str, eq_bl, cmp_isN, cmp_isB, cmp_isnot, cmp_inT, cmp_inL, cmp_ninL, sub_tup, sub_lst, sub_sq, atP0, atP1, atP2, atP3, atP4, atP5, len_tup, len_lst, len_sq, len_str, bi_abs, bi_int, bi_strI, bi_strS, bi_tupL, bi_tupT, bi_tupS, bi_max2, bi_min2, bi_all, bi_any, bi_sum, me_join, it_tup, it_lst, it_sq, slc_tup, opt_none, opt_some, cut1, exists_and_left, List.singleton_append, pick, isTupD, typed, isTy, wipeE, Int.reduceEq, Int.reduceLT, Int.reduceSub, Int.reduceNeg, ex_if, ex_some, ex_map, List.any_cons, List.any_nil, Bool.or_false, Bool.false_or, Bool.or_true, Bool.true_or, decide_true, decide_false, List.getElem?_cons_zero, List.getElem?_cons_succ, Option.some.injEq, exists_eq_left', exists_eq_left, exists_eq_right, true_and, and_true, List.map_cons, List.map_nil, List.set_cons_zero, List.set_cons_succ, List.length_cons, List.length_nil, List.cons_append, List.nil_append, List.reduceReplicate, Nat.reduceSub, Nat.reduceAdd, Nat.reduceLT, Nat.reduceLeDiff, Nat.zero_lt_succ, Nat.lt_add_left_iff_pos, Nat.succ_lt_succ_iff, D.int.injEq, D.bl.injEq, D.str.injEq, D.tup.injEq, D.lst.injEq, D.own.injEq, decide_eq_true_eq, Bool.not_eq_true', decide_eq_false_iff_not, if_true, if_false, ite_true, ite_false, Bool.false_eq_true, reduceCtorEq, false_and, exists_false, Option.map_some, Option.map_none, Option.bind_some, Option.getD_some]
    · refine ⟨hdv, by decide, ?_⟩
      have hm : (xs.map fun x => D.int (x.fdiv g)) = (xs.map fun x => x.fdiv g).map iD := by rw [List.map_map]; rfl
      have hlow : D.low S'.length (.tup [.tup ((xs.map fun x => x.fdiv g).map iD), .int (sh.fdiv g)]) = true := by
        simp only [D.low, D.lowL, Bool.and_true]
        exact low_ints _ _
      rw [hm, finish_same hlow, is_ok]
      exact ⟨g, hg0, fun x hx hn => (hi x hx hn).2, rfl, rfl⟩
theorem fdiv_ne {x : Int} {g : Nat} (h0 : 0 < g) (hx : x ≠ 0) (h : g ≤ x.natAbs) : x.fdiv g ≠ 0 := by
  rw [Int.fdiv_eq_ediv_of_nonneg x (Int.natCast_nonneg g)]
  by_cases hp : 0 < x
  · have := Int.le_ediv_of_mul_le (a := 1) (b := x) (c := g) (by omega) (by omega)
    omega
  · have := Int.ediv_neg_of_neg_of_pos (a := x) (b := g) (by omega) (by omega)
    omega
theorem low_q (b : Nat) (q : List Int × Int) : D.low b (qD q) = true := by
  simp only [qD, D.low, D.lowL, Bool.and_true]
  exact low_ints _ _
/-- the first question of its line -/
theorem ground {q : List Int × Int} (hw : 10 ^ 310 ≤ wf) (hx : ∀ x ∈ q.1, x.natAbs ≤ 10 ^ 300) (hs : q.2.natAbs ≤ 10 ^ 300) (hl : q.1.length ≤ 12) (hne : ∃ x ∈ q.1, x ≠ 0) :
    ∃ q' : List Int × Int, callF tab G wf (n + 2) 13 [.tup (q.1.map iD), .int q.2] S = .ok (qD q') S := by
  have : (callF tab G wf (n + 2) 13 [.tup (q.1.map iD), .int q.2] S).Is fun d S' => ∃ q' : List Int × Int, d = qD q' ∧ S' = S := by
    rw [w_fn at13 rfl]
    simp only [f13, w_var, w_con, w_glob, w_bin, w_neg, w_not, w_and, w_or, w_ifx, w_cmp, w_tup, w_frz, w_own, w_sub, w_slc, w_call, w_callk, w_bi, w_isi, w_me, w_tab, w_ono, w_oyes, w_nil, w_cons, w_tnil, w_tcons, w_disp, w_comp, w_cat, w_rep, w_nslc, w_rev, w_ival, w_irng, w_gname, w_gtup, w_gsub, w_gsnil, w_gscons, w_sexpr, w_asg, w_par, w_ret, w_retN, w_ifs, w_for, w_pass, w_brk, w_cont, w_snil, w_scons, nxt_nx, nxt_rt, nxt_bk, nxt_ct, fin_rt, fin_nx, is_ok, is_no, is_bind, is_guard, is_of, bin_addI, bin_addS, bin_addT, bin_sub, bin_mul, bin_mulT, bin_fdiv, bin_mod, bin_pow, look_int, look_str, look_bl, look_non, look_tup, look_lst, look_sq, items_tup, items_lst, items_sq, list_lst, list_sq, cmp_lt, cmp_le, cmp_gt, cmp_ge, cmp_eq, cmp_ne, eq_int, eq_str, eq_bl, cmp_isN, cmp_isB, cmp_isnot, cmp_inT, cmp_inL, cmp_ninL, sub_tup, sub_lst, sub_sq, atP0, atP1, atP2, atP3, atP4, atP5, len_tup, len_lst, len_sq, len_str, bi_abs, bi_int, bi_strI, bi_strS, bi_tupL, bi_tupT, bi_tupS, bi_max2, bi_min2, bi_all, bi_any, bi_sum, me_join, it_tup, it_lst, it_sq, slc_tup, opt_none, opt_some, cut1, exists_and_left, List.singleton_append, pick, isTupD, typed, isTy, wipeE, Int.reduceEq, Int.reduceLT, Int.reduceSub, Int.reduceNeg, ex_if, ex_some, ex_map, List.any_cons, List.any_nil, Bool.or_false, Bool.false_or, Bool.or_true, Bool.true_or, decide_true, decide_false, List.getElem?_cons_zero, List.getElem?_cons_succ, Option.some.injEq, exists_eq_left', exists_eq_left, exists_eq_right, true_and, and_true, List.map_cons, List.map_nil, List.set_cons_zero, List.set_cons_succ, List.length_cons, List.length_nil, List.cons_append, List.nil_append, List.reduceReplicate, Nat.reduceSub, Nat.reduceAdd, Nat.reduceLT, Nat.reduceLeDiff, Nat.zero_lt_succ, Nat.lt_add_left_iff_pos, Nat.succ_lt_succ_iff, D.int.injEq, D.bl.injEq, D.str.injEq, D.tup.injEq, D.lst.injEq, D.own.injEq, decide_eq_true_eq, Bool.not_eq_true', decide_eq_false_iff_not, if_true, if_false, ite_true, ite_false, Bool.false_eq_true, reduceCtorEq, false_and, exists_false, Option.map_some, Option.map_none, Option.bind_some, Option.getD_some]
    refine (divided hw hx hs hl hne).mono fun d S1 ⟨g, g0, gl, e, hS⟩ => ?_
    subst e hS
    obtain ⟨x0, hm0, hn0⟩ := hne
    simp only [w_var, w_con, w_glob, w_bin, w_neg, w_not, w_and, w_or, w_ifx, w_cmp, w_tup, w_frz, w_own, w_sub, w_slc, w_call, w_callk, w_bi, w_isi, w_me, w_tab, w_ono, w_oyes, w_nil, w_cons, w_tnil, w_tcons, w_disp, w_comp, w_cat, w_rep, w_nslc, w_rev, w_ival, w_irng, w_gname, w_gtup, w_gsub, w_gsnil, w_gscons, w_sexpr, w_asg, w_par, w_ret, w_retN, w_ifs, w_for, w_pass, w_brk, w_cont, w_snil, w_scons, nxt_nx, nxt_rt, nxt_bk, nxt_ct, fin_rt, fin_nx, is_ok, is_no, is_bind, is_guard, is_of, bin_addI, bin_addS, bin_addT, bin_sub, bin_mul, bin_mulT, bin_fdiv, bin_mod, bin_pow, look_int, look_str, look_bl, look_non, look_tup, look_lst, look_sq, items_tup, items_lst, items_sq, list_lst, list_sq, cmp_lt, cmp_le, cmp_gt, cmp_ge, cmp_eq, cmp_ne, eq_int, eq_str, eq_bl, cmp_isN, cmp_isB, cmp_isnot, cmp_inT, cmp_inL, cmp_ninL, sub_tup, sub_lst, sub_sq, atP0, atP1, atP2, atP3, atP4, atP5, len_tup, len_lst, len_sq, len_str, bi_abs, bi_int, bi_strI, bi_strS, bi_tupL, bi_tupT, bi_tupS, bi_max2, bi_min2, bi_all, bi_any, bi_sum, me_join, it_tup, it_lst, it_sq, slc_tup, opt_none, opt_some, cut1, exists_and_left, List.singleton_append, pick, isTupD, typed, isTy, wipeE, Int.reduceEq, Int.reduceLT, Int.reduceSub, Int.reduceNeg, ex_if, ex_some, ex_map, List.any_cons, List.any_nil, Bool.or_false, Bool.false_or, Bool.or_true, Bool.true_or, decide_true, decide_false, List.getElem?_cons_zero, List.getElem?_cons_succ, Option.some.injEq, exists_eq_left', exists_eq_left, exists_eq_right, true_and, and_true, List.map_cons, List.map_nil, List.set_cons_zero, List.set_cons_succ, List.length_cons, List.length_nil, List.cons_append, List.nil_append, List.reduceReplicate, Nat.reduceSub, Nat.reduceAdd, Nat.reduceLT, Nat.reduceLeDiff, Nat.zero_lt_succ, Nat.lt_add_left_iff_pos, Nat.succ_lt_succ_iff, D.int.injEq, D.bl.injEq, D.str.injEq, D.tup.injEq, D.lst.injEq, D.own.injEq, decide_eq_true_eq, Bool.not_eq_true', decide_eq_false_iff_not, if_true, if_false, ite_true, ite_false, Bool.false_eq_true, reduceCtorEq, false_and, exists_false, Option.map_some, Option.map_none, Option.bind_some, Option.getD_some]
    refine ⟨by rw [List.length_map, List.length_map]; exact Nat.le_trans hl (by decide), Ev.comp_filter (q.1.map fun x => x.fdiv g) iD iD (fun x => !decide (x = 0)) rfl rfl (fun x hx => ?_) ?_⟩
    · simp only [iD, w_var, w_con, w_glob, w_bin, w_neg, w_not, w_and, w_or, w_ifx, w_cmp, w_tup, w_frz, w_own, w_sub, w_slc, w_call, w_callk, w_bi, w_isi, w_me, w_tab, w_ono, w_oyes, w_nil, w_cons, w_tnil, w_tcons, w_disp, w_comp, w_cat, w_rep, w_nslc, w_rev, w_ival, w_irng, w_gname, w_gtup, w_gsub, w_gsnil, w_gscons, w_sexpr, w_asg, w_par, w_ret, w_retN, w_ifs, w_for, w_pass, w_brk, w_cont, w_snil, w_scons, nxt_nx, nxt_rt, nxt_bk, nxt_ct, fin_rt, fin_nx, is_ok, is_no, is_bind, is_guard, is_of, bin_addI, bin_addS, bin_addT, bin_sub, bin_mul, bin_mulT, bin_fdiv, bin_mod, bin_pow, look_int, look_str, look_bl, look_non, look_tup, look_lst, look_sq, items_tup, items_lst, items_sq, list_lst, list_sq, cmp_lt, cmp_le, cmp_gt, cmp_ge, cmp_eq, cmp_ne, eq_int, eq_str, eq_bl, cmp_isN, cmp_isB, cmp_isnot, cmp_inT, cmp_inL, cmp_ninL, sub_tup, sub_lst, sub_sq, atP0, atP1, atP2, atP3, atP4, atP5, len_tup, len_lst, len_sq, len_str, bi_abs, bi_int, bi_strI, bi_strS, bi_tupL, bi_tupT, bi_tupS, bi_max2, bi_min2, bi_all, bi_any, bi_sum, me_join, it_tup, it_lst, it_sq, slc_tup, opt_none, opt_some, cut1, exists_and_left, List.singleton_append, pick, isTupD, typed, isTy, wipeE, Int.reduceEq, Int.reduceLT, Int.reduceSub, Int.reduceNeg, ex_if, ex_some, ex_map, List.any_cons, List.any_nil, Bool.or_false, Bool.false_or, Bool.or_true, Bool.true_or, decide_true, decide_false, List.getElem?_cons_zero, List.getElem?_cons_succ, Option.some.injEq, exists_eq_left', exists_eq_left, exists_eq_right, true_and, and_true, List.map_cons, List.map_nil, List.set_cons_zero, List.set_cons_succ, List.length_cons, List.length_nil, List.cons_append, List.nil_append, List.reduceReplicate, Nat.reduceSub, Nat.reduceAdd, Nat.reduceLT, Nat.reduceLeDiff, Nat.zero_lt_succ, Nat.lt_add_left_iff_pos, Nat.succ_lt_succ_iff, D.int.injEq, D.bl.injEq, D.str.injEq, D.tup.injEq, D.lst.injEq, D.own.injEq, decide_eq_true_eq, Bool.not_eq_true', decide_eq_false_iff_not, if_true, if_false, ite_true, ite_false, Bool.false_eq_true, reduceCtorEq, false_and, exists_false, Option.map_some, Option.map_none, Option.bind_some, Option.getD_some]
      split <;> simp_all
    · have hmem : x0.fdiv g ∈ (q.1.map fun x => x.fdiv g).filter fun x => !decide (x = 0) := by
        rw [List.mem_filter]
        exact ⟨List.mem_map_of_mem hm0, by simp [fdiv_ne g0 hn0 (gl x0 hm0 hn0)]⟩
      obtain ⟨y, r, e⟩ : ∃ y r, ((q.1.map fun x => x.fdiv g).filter fun x => !decide (x = 0)) = y :: r := by
        cases h : (q.1.map fun x => x.fdiv g).filter fun x => !decide (x = 0) with
        | nil => rw [h] at hmem; cases hmem
        | cons y r => exact ⟨y, r, rfl⟩
      rw [e]
      simp only [iD, w_var, w_con, w_glob, w_bin, w_neg, w_not, w_and, w_or, w_ifx, w_cmp, w_tup, w_frz, w_own, w_sub, w_slc, w_call, w_callk, w_bi, w_isi, w_me, w_tab, w_ono, w_oyes, w_nil, w_cons, w_tnil, w_tcons, w_disp, w_comp, w_cat, w_rep, w_nslc, w_rev, w_ival, w_irng, w_gname, w_gtup, w_gsub, w_gsnil, w_gscons, w_sexpr, w_asg, w_par, w_ret, w_retN, w_ifs, w_for, w_pass, w_brk, w_cont, w_snil, w_scons, nxt_nx, nxt_rt, nxt_bk, nxt_ct, fin_rt, fin_nx, is_ok, is_no, is_bind, is_guard, is_of, bin_addI, bin_addS, bin_addT, bin_sub, bin_mul, bin_mulT, bin_fdiv, bin_mod, bin_pow, look_int, look_str, look_bl, look_non, look_tup, look_lst, look_sq, items_tup, items_lst, items_sq, list_lst, list_sq, cmp_lt, cmp_le, cmp_gt, cmp_ge, cmp_eq, cmp_ne, eq_int, eq_str, eq_bl, cmp_isN, cmp_isB, cmp_isnot, cmp_inT, cmp_inL, cmp_ninL, sub_tup, sub_lst, sub_sq, atP0, atP1, atP2, atP3, atP4, atP5, len_tup, len_lst, len_sq, len_str, bi_abs, bi_int, bi_strI, bi_strS, bi_tupL, bi_tupT, bi_tupS, bi_max2, bi_min2, bi_all, bi_any, bi_sum, me_join, it_tup, it_lst, it_sq, slc_tup, opt_none, opt_some, cut1, exists_and_left, List.singleton_append, pick, isTupD, typed, isTy, wipeE, Int.reduceEq, Int.reduceLT, Int.reduceSub, Int.reduceNeg, ex_if, ex_some, ex_map, List.any_cons, List.any_nil, Bool.or_false, Bool.false_or, Bool.or_true, Bool.true_or, decide_true, decide_false, List.getElem?_cons_zero, List.getElem?_cons_succ, Option.some.injEq, exists_eq_left', exists_eq_left, exists_eq_right, true_and, and_true, List.map_cons, List.map_nil, List.set_cons_zero, List.set_cons_succ, List.length_cons, List.length_nil, List.cons_append, List.nil_append, List.reduceReplicate, Nat.reduceSub, Nat.reduceAdd, Nat.reduceLT, Nat.reduceLeDiff, Nat.zero_lt_succ, Nat.lt_add_left_iff_pos, Nat.succ_lt_succ_iff, D.int.injEq, D.bl.injEq, D.str.injEq, D.tup.injEq, D.lst.injEq, D.own.injEq, decide_eq_true_eq, Bool.not_eq_true', decide_eq_false_iff_not, if_true, if_false, ite_true, ite_false, Bool.false_eq_true, reduceCtorEq, false_and, exists_false, Option.map_some, Option.map_none, Option.bind_some, Option.getD_some]
      have hq : (D.tup [D.tup ((q.1.map fun x => x.fdiv g).map iD), D.int (q.2.fdiv g)]) = qD (q.1.map (fun x => x.fdiv g), q.2.fdiv g) := rfl
      split
      · refine ⟨by decide, ?_⟩
        rw [hq, finish_same (low_q _ _), is_ok]
        exact ⟨_, rfl, rfl⟩
      · refine ⟨by rw [List.length_map, List.length_map]; exact Nat.le_trans hl (by decide), Ev.comp_map (q.1.map fun x => x.fdiv g) iD (fun x => .int (0 - x)) rfl rfl (fun x hx => ?_) ⟨by decide, ?_⟩⟩
        · simp only [iD, w_var, w_con, w_glob, w_bin, w_neg, w_not, w_and, w_or, w_ifx, w_cmp, w_tup, w_frz, w_own, w_sub, w_slc, w_call, w_callk, w_bi, w_isi, w_me, w_tab, w_ono, w_oyes, w_nil, w_cons, w_tnil, w_tcons, w_disp, w_comp, w_cat, w_rep, w_nslc, w_rev, w_ival, w_irng, w_gname, w_gtup, w_gsub, w_gsnil, w_gscons, w_sexpr, w_asg, w_par, w_ret, w_retN, w_ifs, w_for, w_pass, w_brk, w_cont, w_snil, w_scons, nxt_nx, nxt_rt, nxt_bk, nxt_ct, fin_rt, fin_nx, is_ok, is_no, is_bind, is_guard, is_of, bin_addI, bin_addS, bin_addT, bin_sub, bin_mul, bin_mulT, bin_fdiv, bin_mod, bin_pow, look_int, look_str, look_bl, look_non, look_tup, look_lst, look_sq, items_tup, items_lst, items_sq, list_lst, list_sq, cmp_lt, cmp_le, cmp_gt, cmp_ge, cmp_eq, cmp_ne, eq_int, eq_str, eq_bl, cmp_isN, cmp_isB, cmp_isnot, cmp_inT, cmp_inL, cmp_ninL, sub_tup, sub_lst, sub_sq, atP0, atP1, atP2, atP3, atP4, atP5, len_tup, len_lst, len_sq, len_str, bi_abs, bi_int, bi_strI, bi_strS, bi_tupL, bi_tupT, bi_tupS, bi_max2, bi_min2, bi_all, bi_any, bi_sum, me_join, it_tup, it_lst, it_sq, slc_tup, opt_none, opt_some, cut1, exists_and_left, List.singleton_append, pick, isTupD, typed, isTy, wipeE, Int.reduceEq, Int.reduceLT, Int.reduceSub, Int.reduceNeg, ex_if, ex_some, ex_map, List.any_cons, List.any_nil, Bool.or_false, Bool.false_or, Bool.or_true, Bool.true_or, decide_true, decide_false, List.getElem?_cons_zero, List.getElem?_cons_succ, Option.some.injEq, exists_eq_left', exists_eq_left, exists_eq_right, true_and, and_true, List.map_cons, List.map_nil, List.set_cons_zero, List.set_cons_succ, List.length_cons, List.length_nil, List.cons_append, List.nil_append, List.reduceReplicate, Nat.reduceSub, Nat.reduceAdd, Nat.reduceLT, Nat.reduceLeDiff, Nat.zero_lt_succ, Nat.lt_add_left_iff_pos, Nat.succ_lt_succ_iff, D.int.injEq, D.bl.injEq, D.str.injEq, D.tup.injEq, D.lst.injEq, D.own.injEq, decide_eq_true_eq, Bool.not_eq_true', decide_eq_false_iff_not, if_true, if_false, ite_true, ite_false, Bool.false_eq_true, reduceCtorEq, false_and, exists_false, Option.map_some, Option.map_none, Option.bind_some, Option.getD_some]
        · have hm : ((q.1.map fun x => x.fdiv g).map fun x => D.int (0 - x)) = (q.1.map fun x => 0 - x.fdiv g).map iD := by rw [List.map_map, List.map_map]; rfl
          have hq2 : (D.tup [D.tup ((q.1.map fun x => 0 - x.fdiv g).map iD), D.int (0 - q.2.fdiv g)]) = qD ((q.1.map fun x => 0 - x.fdiv g), 0 - q.2.fdiv g) := rfl
          rw [hm, hq2, finish_same (low_q _ _), is_ok]
          exact ⟨((q.1.map fun x => 0 - x.fdiv g), 0 - q.2.fdiv g), rfl, rfl⟩
  obtain ⟨d, S', e, q', rfl, rfl⟩ := this
  exact ⟨q', e⟩
theorem okE_q (q : List Int × Int) : D.okE 39 (qD q) = true := by
  simp only [qD, D.okE, D.okEL, Bool.and_true]
  exact okEL_map fun _ _ => rfl
theorem okE_q2 (q : List Int × Int) : D.okE DEEP (qD q) = true := by
  show D.okE 40 _ = true
  simp only [qD, D.okE, D.okEL, Bool.and_true]
  exact okEL_map fun _ _ => rfl
theorem lowL_q (b : Nat) : ∀ qs : List (List Int × Int), D.lowL b (qs.map qD) = true
  | [] => rfl
  | q :: qs => by simp only [List.map_cons, D.lowL, low_q, Bool.true_and]; exact lowL_q b qs
theorem unlike {qs : List (List Int × Int)} (hw : 10 ^ 310 ≤ wf) (hq : ∀ q ∈ qs, SmQ3 q) (hl : qs.length ≤ 20) :
    ∃ rs : List (List Int × Int), (∀ q ∈ rs, q ∈ qs) ∧ rs.length ≤ 20 ∧ callF tab G wf (n + 3) 14 [.lst (qs.map qD)] S = .ok (.lst (rs.map qD)) S := by
  have : (callF tab G wf (n + 3) 14 [.lst (qs.map qD)] S).Is fun d S' => ∃ rs : List (List Int × Int), (∀ q ∈ rs, q ∈ qs) ∧ rs.length ≤ 20 ∧ d = .lst (rs.map qD) ∧ S' = S := by
    rw [w_fn at14 rfl]
    simp only [f14, w_var, w_con, w_glob, w_bin, w_neg, w_not, w_and, w_or, w_ifx, w_cmp, w_tup, w_frz, w_own, w_sub, w_slc, w_call, w_callk, w_bi, w_isi, w_me, w_tab, w_ono, w_oyes, w_nil, w_cons, w_tnil, w_tcons, w_disp, w_comp, w_cat, w_rep, w_nslc, w_rev, w_ival, w_irng, w_gname, w_gtup, w_gsub, w_gsnil, w_gscons, w_sexpr, w_asg, w_par, w_ret, w_retN, w_ifs, w_for, w_pass, w_brk, w_cont, w_snil, w_scons, nxt_nx, nxt_rt, nxt_bk, nxt_ct, fin_rt, fin_nx, is_ok, is_no, is_bind, is_guard, is_of, bin_addI, bin_addS, bin_addT, bin_sub, bin_mul, bin_mulT, bin_fdiv, bin_mod, bin_pow, look_int, look_str, look_bl, look_non, look_tup, look_lst, look_sq, items_tup, items_lst, items_sq, list_lst, list_sq, cmp_lt, cmp_le, cmp_gt, cmp_ge, cmp_eq, cmp_ne, eq_int, eq_str, eq_bl, cmp_isN, cmp_isB, cmp_isnot, cmp_inT, cmp_inL, cmp_ninL, sub_tup, sub_lst, sub_sq, atP0, atP1, atP2, atP3, atP4, atP5, len_tup, len_lst, len_sq, len_str, bi_abs, bi_int, bi_strI, bi_strS, bi_tupL, bi_tupT, bi_tupS, bi_max2, bi_min2, bi_all, bi_any, bi_sum, me_join, it_tup, it_lst, it_sq, slc_tup, opt_none, opt_some, cut1, exists_and_left, List.singleton_append, pick, isTupD, typed, isTy, wipeE, Int.reduceEq, Int.reduceLT, Int.reduceSub, Int.reduceNeg, ex_if, ex_some, ex_map, List.any_cons, List.any_nil, Bool.or_false, Bool.false_or, Bool.or_true, Bool.true_or, decide_true, decide_false, List.getElem?_cons_zero, List.getElem?_cons_succ, Option.some.injEq, exists_eq_left', exists_eq_left, exists_eq_right, true_and, and_true, List.map_cons, List.map_nil, List.set_cons_zero, List.set_cons_succ, List.length_cons, List.length_nil, List.cons_append, List.nil_append, List.reduceReplicate, Nat.reduceSub, Nat.reduceAdd, Nat.reduceLT, Nat.reduceLeDiff, Nat.zero_lt_succ, Nat.lt_add_left_iff_pos, Nat.succ_lt_succ_iff, D.int.injEq, D.bl.injEq, D.str.injEq, D.tup.injEq, D.lst.injEq, D.own.injEq, decide_eq_true_eq, Bool.not_eq_true', decide_eq_false_iff_not, if_true, if_false, ite_true, ite_false, Bool.false_eq_true, reduceCtorEq, false_and, exists_false, Option.map_some, Option.map_none, Option.bind_some, Option.getD_some]
    refine ⟨by decide, by decide, w_forL (fun j e S' => ∃ (rs gs : List (List Int × Int)) (x y z : Option D), S' = S ++ [.lst (rs.map qD), .lst (gs.map qD)] ∧ e = [some (.lst (qs.map qD)), some (.own S.length), some (.own (S.length + 1)), x, y, z] ∧ (∀ q ∈ rs, q ∈ qs) ∧ rs.length ≤ j ∧ gs.length ≤ j)
      ⟨[], [], none, none, none, by simp, by simp, fun q h => (List.not_mem_nil h).elim, Nat.le_refl _, Nat.le_refl _⟩ (fun _ _ _ _ _ => ok_nil) (fun j x e S' hxj ⟨rs, gs, x1, y1, z1, hS, he, hm, l1, l2⟩ => ?_) (fun e S' ⟨rs, gs, x1, y1, z1, hS, he, hm, l1, l2⟩ => ?_)⟩
    · rw [List.getElem?_map] at hxj
      obtain ⟨q, hxe, rfl⟩ := Option.map_eq_some_iff.mp hxj
      clear hxj
      subst hS he
      have hqm := List.mem_of_getElem? hxe
      have hjl := (List.getElem?_eq_some_iff.mp hxe).1
      have hq3 := hq q hqm
      simp only [qD, w_var, w_con, w_glob, w_bin, w_neg, w_not, w_and, w_or, w_ifx, w_cmp, w_tup, w_frz, w_own, w_sub, w_slc, w_call, w_callk, w_bi, w_isi, w_me, w_tab, w_ono, w_oyes, w_nil, w_cons, w_tnil, w_tcons, w_disp, w_comp, w_cat, w_rep, w_nslc, w_rev, w_ival, w_irng, w_gname, w_gtup, w_gsub, w_gsnil, w_gscons, w_sexpr, w_asg, w_par, w_ret, w_retN, w_ifs, w_for, w_pass, w_brk, w_cont, w_snil, w_scons, nxt_nx, nxt_rt, nxt_bk, nxt_ct, fin_rt, fin_nx, is_ok, is_no, is_bind, is_guard, is_of, bin_addI, bin_addS, bin_addT, bin_sub, bin_mul, bin_mulT, bin_fdiv, bin_mod, bin_pow, look_int, look_str, look_bl, look_non, look_tup, look_lst, look_sq, items_tup, items_lst, items_sq, list_lst, list_sq, cmp_lt, cmp_le, cmp_gt, cmp_ge, cmp_eq, cmp_ne, eq_int, eq_str, eq_bl, cmp_isN, cmp_isB, cmp_isnot, cmp_inT, cmp_inL, cmp_ninL, sub_tup, sub_lst, sub_sq, atP0, atP1, atP2, atP3, atP4, atP5, len_tup, len_lst, len_sq, len_str, bi_abs, bi_int, bi_strI, bi_strS, bi_tupL, bi_tupT, bi_tupS, bi_max2, bi_min2, bi_all, bi_any, bi_sum, me_join, it_tup, it_lst, it_sq, slc_tup, opt_none, opt_some, cut1, exists_and_left, List.singleton_append, pick, isTupD, typed, isTy, wipeE, Int.reduceEq, Int.reduceLT, Int.reduceSub, Int.reduceNeg, ex_if, ex_some, ex_map, List.any_cons, List.any_nil, Bool.or_false, Bool.false_or, Bool.or_true, Bool.true_or, decide_true, decide_false, List.getElem?_cons_zero, List.getElem?_cons_succ, Option.some.injEq, exists_eq_left', exists_eq_left, exists_eq_right, true_and, and_true, List.map_cons, List.map_nil, List.set_cons_zero, List.set_cons_succ, List.length_cons, List.length_nil, List.cons_append, List.nil_append, List.reduceReplicate, Nat.reduceSub, Nat.reduceAdd, Nat.reduceLT, Nat.reduceLeDiff, Nat.zero_lt_succ, Nat.lt_add_left_iff_pos, Nat.succ_lt_succ_iff, D.int.injEq, D.bl.injEq, D.str.injEq, D.tup.injEq, D.lst.injEq, D.own.injEq, decide_eq_true_eq, Bool.not_eq_true', decide_eq_false_iff_not, if_true, if_false, ite_true, ite_false, Bool.false_eq_true, reduceCtorEq, false_and, exists_false, Option.map_some, Option.map_none, Option.bind_some, Option.getD_some]
      have hqd : (D.tup [.tup (q.1.map iD), .int q.2]) = qD q := rfl
      refine ⟨by rw [List.length_map]; exact Nat.le_trans hq3.l (by decide), Ev.comp_filter q.1 iD iD (fun x => !decide (x = 0)) rfl rfl (fun x hx => ?_) ⟨by decide, _, eq_lnil (okL_ints _), ?_⟩⟩
      · simp only [iD, w_var, w_con, w_glob, w_bin, w_neg, w_not, w_and, w_or, w_ifx, w_cmp, w_tup, w_frz, w_own, w_sub, w_slc, w_call, w_callk, w_bi, w_isi, w_me, w_tab, w_ono, w_oyes, w_nil, w_cons, w_tnil, w_tcons, w_disp, w_comp, w_cat, w_rep, w_nslc, w_rev, w_ival, w_irng, w_gname, w_gtup, w_gsub, w_gsnil, w_gscons, w_sexpr, w_asg, w_par, w_ret, w_retN, w_ifs, w_for, w_pass, w_brk, w_cont, w_snil, w_scons, nxt_nx, nxt_rt, nxt_bk, nxt_ct, fin_rt, fin_nx, is_ok, is_no, is_bind, is_guard, is_of, bin_addI, bin_addS, bin_addT, bin_sub, bin_mul, bin_mulT, bin_fdiv, bin_mod, bin_pow, look_int, look_str, look_bl, look_non, look_tup, look_lst, look_sq, items_tup, items_lst, items_sq, list_lst, list_sq, cmp_lt, cmp_le, cmp_gt, cmp_ge, cmp_eq, cmp_ne, eq_int, eq_str, eq_bl, cmp_isN, cmp_isB, cmp_isnot, cmp_inT, cmp_inL, cmp_ninL, sub_tup, sub_lst, sub_sq, atP0, atP1, atP2, atP3, atP4, atP5, len_tup, len_lst, len_sq, len_str, bi_abs, bi_int, bi_strI, bi_strS, bi_tupL, bi_tupT, bi_tupS, bi_max2, bi_min2, bi_all, bi_any, bi_sum, me_join, it_tup, it_lst, it_sq, slc_tup, opt_none, opt_some, cut1, exists_and_left, List.singleton_append, pick, isTupD, typed, isTy, wipeE, Int.reduceEq, Int.reduceLT, Int.reduceSub, Int.reduceNeg, ex_if, ex_some, ex_map, List.any_cons, List.any_nil, Bool.or_false, Bool.false_or, Bool.or_true, Bool.true_or, decide_true, decide_false, List.getElem?_cons_zero, List.getElem?_cons_succ, Option.some.injEq, exists_eq_left', exists_eq_left, exists_eq_right, true_and, and_true, List.map_cons, List.map_nil, List.set_cons_zero, List.set_cons_succ, List.length_cons, List.length_nil, List.cons_append, List.nil_append, List.reduceReplicate, Nat.reduceSub, Nat.reduceAdd, Nat.reduceLT, Nat.reduceLeDiff, Nat.zero_lt_succ, Nat.lt_add_left_iff_pos, Nat.succ_lt_succ_iff, D.int.injEq, D.bl.injEq, D.str.injEq, D.tup.injEq, D.lst.injEq, D.own.injEq, decide_eq_true_eq, Bool.not_eq_true', decide_eq_false_iff_not, if_true, if_false, ite_true, ite_false, Bool.false_eq_true, reduceCtorEq, false_and, exists_false, Option.map_some, Option.map_none, Option.bind_some, Option.getD_some]
        split <;> simp_all
      · split
        · rename_i hne
          have hex : ∃ x ∈ q.1, x ≠ 0 := by
            cases h : q.1.filter fun x => !decide (x = 0) with
            | nil => rw [h] at hne; cases hne
            | cons y r =>
              have hy : y ∈ q.1.filter fun x => !decide (x = 0) := by rw [h]; exact List.mem_cons_self
              rw [List.mem_filter] at hy
              exact ⟨y, hy.1, by simpa using hy.2⟩
          obtain ⟨q', hg⟩ := ground (wf := wf) (n := n) (S := S ++ [.lst (rs.map qD), .lst (gs.map qD)]) hw hq3.s hq3.w hq3.l hex
          have hok : (D.okE DEEP (qD q') && D.okEL DEEP (gs.map qD)) = true := by
            rw [okE_q2, okEL_map fun q _ => okE_q2 q]
            rfl
          simp only [hg, cmp_ninO _ _ _ (two_get1 _ _ _), hok, w_var, w_con, w_glob, w_bin, w_neg, w_not, w_and, w_or, w_ifx, w_cmp, w_tup, w_frz, w_own, w_sub, w_slc, w_call, w_callk, w_bi, w_isi, w_me, w_tab, w_ono, w_oyes, w_nil, w_cons, w_tnil, w_tcons, w_disp, w_comp, w_cat, w_rep, w_nslc, w_rev, w_ival, w_irng, w_gname, w_gtup, w_gsub, w_gsnil, w_gscons, w_sexpr, w_asg, w_par, w_ret, w_retN, w_ifs, w_for, w_pass, w_brk, w_cont, w_snil, w_scons, nxt_nx, nxt_rt, nxt_bk, nxt_ct, fin_rt, fin_nx, is_ok, is_no, is_bind, is_guard, is_of, bin_addI, bin_addS, bin_addT, bin_sub, bin_mul, bin_mulT, bin_fdiv, bin_mod, bin_pow, look_int, look_str, look_bl, look_non, look_tup, look_lst, look_sq, items_tup, items_lst, items_sq, list_lst, list_sq, cmp_lt, cmp_le, cmp_gt, cmp_ge, cmp_eq, cmp_ne, eq_int, eq_str, eq_bl, cmp_isN, cmp_isB, cmp_isnot, cmp_inT, cmp_inL, cmp_ninL, sub_tup, sub_lst, sub_sq, atP0, atP1, atP2, atP3, atP4, atP5, len_tup, len_lst, len_sq, len_str, bi_abs, bi_int, bi_strI, bi_strS, bi_tupL, bi_tupT, bi_tupS, bi_max2, bi_min2, bi_all, bi_any, bi_sum, me_join, it_tup, it_lst, it_sq, slc_tup, opt_none, opt_some, cut1, exists_and_left, List.singleton_append, pick, isTupD, typed, isTy, wipeE, Int.reduceEq, Int.reduceLT, Int.reduceSub, Int.reduceNeg, ex_if, ex_some, ex_map, List.any_cons, List.any_nil, Bool.or_false, Bool.false_or, Bool.or_true, Bool.true_or, decide_true, decide_false, List.getElem?_cons_zero, List.getElem?_cons_succ, Option.some.injEq, exists_eq_left', exists_eq_left, exists_eq_right, true_and, and_true, List.map_cons, List.map_nil, List.set_cons_zero, List.set_cons_succ, List.length_cons, List.length_nil, List.cons_append, List.nil_append, List.reduceReplicate, Nat.reduceSub, Nat.reduceAdd, Nat.reduceLT, Nat.reduceLeDiff, Nat.zero_lt_succ, Nat.lt_add_left_iff_pos, Nat.succ_lt_succ_iff, D.int.injEq, D.bl.injEq, D.str.injEq, D.tup.injEq, D.lst.injEq, D.own.injEq, decide_eq_true_eq, Bool.not_eq_true', decide_eq_false_iff_not, if_true, if_false, ite_true, ite_false, Bool.false_eq_true, reduceCtorEq, false_and, exists_false, Option.map_some, Option.map_none, Option.bind_some, Option.getD_some]
          split
          · simp only [hg, me_append _ _ _ (two_get1 _ _ _), two_set1, hqd, me_append _ _ _ (two_get0 _ _ _), two_set0, w_var, w_con, w_glob, w_bin, w_neg, w_not, w_and, w_or, w_ifx, w_cmp, w_tup, w_frz, w_own, w_sub, w_slc, w_call, w_callk, w_bi, w_isi, w_me, w_tab, w_ono, w_oyes, w_nil, w_cons, w_tnil, w_tcons, w_disp, w_comp, w_cat, w_rep, w_nslc, w_rev, w_ival, w_irng, w_gname, w_gtup, w_gsub, w_gsnil, w_gscons, w_sexpr, w_asg, w_par, w_ret, w_retN, w_ifs, w_for, w_pass, w_brk, w_cont, w_snil, w_scons, nxt_nx, nxt_rt, nxt_bk, nxt_ct, fin_rt, fin_nx, is_ok, is_no, is_bind, is_guard, is_of, bin_addI, bin_addS, bin_addT, bin_sub, bin_mul, bin_mulT, bin_fdiv, bin_mod, bin_pow, look_int, look_str, look_bl, look_non, look_tup, look_lst, look_sq, items_tup, items_lst, items_sq, list_lst, list_sq, cmp_lt, cmp_le, cmp_gt, cmp_ge, cmp_eq, cmp_ne, eq_int, eq_str, eq_bl, cmp_isN, cmp_isB, cmp_isnot, cmp_inT, cmp_inL, cmp_ninL, sub_tup, sub_lst, sub_sq, atP0, atP1, atP2, atP3, atP4, atP5, len_tup, len_lst, len_sq, len_str, bi_abs, bi_int, bi_strI, bi_strS, bi_tupL, bi_tupT, bi_tupS, bi_max2, bi_min2, bi_all, bi_any, bi_sum, me_join, it_tup, it_lst, it_sq, slc_tup, opt_none, opt_some, cut1, exists_and_left, List.singleton_append, pick, isTupD, typed, isTy, wipeE, Int.reduceEq, Int.reduceLT, Int.reduceSub, Int.reduceNeg, ex_if, ex_some, ex_map, List.any_cons, List.any_nil, Bool.or_false, Bool.false_or, Bool.or_true, Bool.true_or, decide_true, decide_false, List.getElem?_cons_zero, List.getElem?_cons_succ, Option.some.injEq, exists_eq_left', exists_eq_left, exists_eq_right, true_and, and_true, List.map_cons, List.map_nil, List.set_cons_zero, List.set_cons_succ, List.length_cons, List.length_nil, List.cons_append, List.nil_append, List.reduceReplicate, Nat.reduceSub, Nat.reduceAdd, Nat.reduceLT, Nat.reduceLeDiff, Nat.zero_lt_succ, Nat.lt_add_left_iff_pos, Nat.succ_lt_succ_iff, D.int.injEq, D.bl.injEq, D.str.injEq, D.tup.injEq, D.lst.injEq, D.own.injEq, decide_eq_true_eq, Bool.not_eq_true', decide_eq_false_iff_not, if_true, if_false, ite_true, ite_false, Bool.false_eq_true, reduceCtorEq, false_and, exists_false, Option.map_some, Option.map_none, Option.bind_some, Option.getD_some]
            refine ⟨by rw [List.length_map]; unfold LIM; omega, by decide, by rw [List.length_map]; unfold LIM; omega, rs ++ [q], gs ++ [q'], by rw [List.map_append, List.map_append]; rfl, _, _, _, rfl, fun z hz => ?_, by rw [List.length_append]; exact Nat.succ_le_succ l1, by rw [List.length_append]; exact Nat.succ_le_succ l2⟩
            rcases List.mem_append.mp hz with hz | hz
            · exact hm z hz
            · rw [List.mem_singleton.mp hz]
              exact hqm
          · exact ⟨rs, gs, rfl, _, _, _, rfl, hm, by omega, by omega⟩
        · exact ⟨rs, gs, rfl, _, _, _, rfl, hm, by omega, by omega⟩
    · rw [List.length_map] at l1
      subst hS he
      simp only [finish_own (outer_ext _ _ _) (Nat.le_refl _) (two_get0 _ _ _) (lowL_q _ _), List.take_left, w_var, w_con, w_glob, w_bin, w_neg, w_not, w_and, w_or, w_ifx, w_cmp, w_tup, w_frz, w_own, w_sub, w_slc, w_call, w_callk, w_bi, w_isi, w_me, w_tab, w_ono, w_oyes, w_nil, w_cons, w_tnil, w_tcons, w_disp, w_comp, w_cat, w_rep, w_nslc, w_rev, w_ival, w_irng, w_gname, w_gtup, w_gsub, w_gsnil, w_gscons, w_sexpr, w_asg, w_par, w_ret, w_retN, w_ifs, w_for, w_pass, w_brk, w_cont, w_snil, w_scons, nxt_nx, nxt_rt, nxt_bk, nxt_ct, fin_rt, fin_nx, is_ok, is_no, is_bind, is_guard, is_of, bin_addI, bin_addS, bin_addT, bin_sub, bin_mul, bin_mulT, bin_fdiv, bin_mod, bin_pow, look_int, look_str, look_bl, look_non, look_tup, look_lst, look_sq, items_tup, items_lst, items_sq, list_lst, list_sq, cmp_lt, cmp_le, cmp_gt, cmp_ge, cmp_eq, cmp_ne, eq_int, eq_str, eq_bl, cmp_isN, cmp_isB, cmp_isnot, cmp_inT, cmp_inL, cmp_ninL, sub_tup, sub_lst, sub_sq, atP0, atP1, atP2, atP3, atP4, atP5, len_tup, len_lst, len_sq, len_str, bi_abs, bi_int, bi_strI, bi_strS, bi_tupL, bi_tupT, bi_tupS, bi_max2, bi_min2, bi_all, bi_any, bi_sum, me_join, it_tup, it_lst, it_sq, slc_tup, opt_none, opt_some, cut1, exists_and_left, List.singleton_append, pick, isTupD, typed, isTy, wipeE, Int.reduceEq, Int.reduceLT, Int.reduceSub, Int.reduceNeg, ex_if, ex_some, ex_map, List.any_cons, List.any_nil, Bool.or_false, Bool.false_or, Bool.or_true, Bool.true_or, decide_true, decide_false, List.getElem?_cons_zero, List.getElem?_cons_succ, Option.some.injEq, exists_eq_left', exists_eq_left, exists_eq_right, true_and, and_true, List.map_cons, List.map_nil, List.set_cons_zero, List.set_cons_succ, List.length_cons, List.length_nil, List.cons_append, List.nil_append, List.reduceReplicate, Nat.reduceSub, Nat.reduceAdd, Nat.reduceLT, Nat.reduceLeDiff, Nat.zero_lt_succ, Nat.lt_add_left_iff_pos, Nat.succ_lt_succ_iff, D.int.injEq, D.bl.injEq, D.str.injEq, D.tup.injEq, D.lst.injEq, D.own.injEq, decide_eq_true_eq, Bool.not_eq_true', decide_eq_false_iff_not, if_true, if_false, ite_true, ite_false, Bool.false_eq_true, reduceCtorEq, false_and, exists_false, Option.map_some, Option.map_none, Option.bind_some, Option.getD_some]
      exact ⟨rs, hm, by omega, rfl⟩
  obtain ⟨d, S', e, rs, h1, h2, rfl, rfl⟩ := this
  exact ⟨rs, h1, h2, e⟩
theorem book {most dd many : Nat} (hw : 10 ^ 310 ≤ wf) (h1 : 1 ≤ most) (hm : most ≤ 300) (hd : 1 ≤ dd) (hd2 : dd ≤ 12) (hy : many ≤ 20) (h : Well w (k + 1400) S) : (callF tab G wf (n + 4) 19 [.own w, .int dd, .int many, .int most] S).Is fun d S' => ∃ b : Int × List (List Int × Int), d = bD b ∧ SmB b ∧ Dr w k S S' := by
  rw [w_fn at19 rfl]
  simp only [f19, w_var, w_con, w_glob, w_bin, w_neg, w_not, w_and, w_or, w_ifx, w_cmp, w_tup, w_frz, w_own, w_sub, w_slc, w_call, w_callk, w_bi, w_isi, w_me, w_tab, w_ono, w_oyes, w_nil, w_cons, w_tnil, w_tcons, w_disp, w_comp, w_cat, w_rep, w_nslc, w_rev, w_ival, w_irng, w_gname, w_gtup, w_gsub, w_gsnil, w_gscons, w_sexpr, w_asg, w_par, w_ret, w_retN, w_ifs, w_for, w_pass, w_brk, w_cont, w_snil, w_scons, nxt_nx, nxt_rt, nxt_bk, nxt_ct, fin_rt, fin_nx, is_ok, is_no, is_bind, is_guard, is_of, bin_addI, bin_addS, bin_addT, bin_sub, bin_mul, bin_mulT, bin_fdiv, bin_mod, bin_pow, look_int, look_str, look_bl, look_non, look_tup, look_lst, look_sq, items_tup, items_lst, items_sq, list_lst, list_sq, cmp_lt, cmp_le, cmp_gt, cmp_ge, cmp_eq, cmp_ne, eq_int, eq_str, eq_bl, cmp_isN, cmp_isB, cmp_isnot, cmp_inT, cmp_inL, cmp_ninL, sub_tup, sub_lst, sub_sq, atP0, atP1, atP2, atP3, atP4, atP5, len_tup, len_lst, len_sq, len_str, bi_abs, bi_int, bi_strI, bi_strS, bi_tupL, bi_tupT, bi_tupS, bi_max2, bi_min2, bi_all, bi_any, bi_sum, me_join, it_tup, it_lst, it_sq, slc_tup, opt_none, opt_some, cut1, exists_and_left, List.singleton_append, pick, isTupD, typed, isTy, wipeE, Int.reduceEq, Int.reduceLT, Int.reduceSub, Int.reduceNeg, ex_if, ex_some, ex_map, List.any_cons, List.any_nil, Bool.or_false, Bool.false_or, Bool.or_true, Bool.true_or, decide_true, decide_false, List.getElem?_cons_zero, List.getElem?_cons_succ, Option.some.injEq, exists_eq_left', exists_eq_left, exists_eq_right, true_and, and_true, List.map_cons, List.map_nil, List.set_cons_zero, List.set_cons_succ, List.length_cons, List.length_nil, List.cons_append, List.nil_append, List.reduceReplicate, Nat.reduceSub, Nat.reduceAdd, Nat.reduceLT, Nat.reduceLeDiff, Nat.zero_lt_succ, Nat.lt_add_left_iff_pos, Nat.succ_lt_succ_iff, D.int.injEq, D.bl.injEq, D.str.injEq, D.tup.injEq, D.lst.injEq, D.own.injEq, decide_eq_true_eq, Bool.not_eq_true', decide_eq_false_iff_not, if_true, if_false, ite_true, ite_false, Bool.false_eq_true, reduceCtorEq, false_and, exists_false, Option.map_some, Option.map_none, Option.bind_some, Option.getD_some]
  refine (draw (m := (many : Int) + 1) (by omega) (Nat.lt_trans (bits_of (k := 10) (by omega) (by omega) (by decide)) (by decide)) (h.less (j := k + 66 * 20 + 1) (by omega))).mono fun d S1 ⟨v, e1, a1, b1, D1⟩ => ?_
  obtain ⟨m, rfl⟩ := Int.eq_ofNat_of_zero_le a1
  subst e1
  have hm20 : m ≤ 20 := by omega
  simp only [rng_nat (k := m) (by unfold LIM; omega), w_var, w_con, w_glob, w_bin, w_neg, w_not, w_and, w_or, w_ifx, w_cmp, w_tup, w_frz, w_own, w_sub, w_slc, w_call, w_callk, w_bi, w_isi, w_me, w_tab, w_ono, w_oyes, w_nil, w_cons, w_tnil, w_tcons, w_disp, w_comp, w_cat, w_rep, w_nslc, w_rev, w_ival, w_irng, w_gname, w_gtup, w_gsub, w_gsnil, w_gscons, w_sexpr, w_asg, w_par, w_ret, w_retN, w_ifs, w_for, w_pass, w_brk, w_cont, w_snil, w_scons, nxt_nx, nxt_rt, nxt_bk, nxt_ct, fin_rt, fin_nx, is_ok, is_no, is_bind, is_guard, is_of, bin_addI, bin_addS, bin_addT, bin_sub, bin_mul, bin_mulT, bin_fdiv, bin_mod, bin_pow, look_int, look_str, look_bl, look_non, look_tup, look_lst, look_sq, items_tup, items_lst, items_sq, list_lst, list_sq, cmp_lt, cmp_le, cmp_gt, cmp_ge, cmp_eq, cmp_ne, eq_int, eq_str, eq_bl, cmp_isN, cmp_isB, cmp_isnot, cmp_inT, cmp_inL, cmp_ninL, sub_tup, sub_lst, sub_sq, atP0, atP1, atP2, atP3, atP4, atP5, len_tup, len_lst, len_sq, len_str, bi_abs, bi_int, bi_strI, bi_strS, bi_tupL, bi_tupT, bi_tupS, bi_max2, bi_min2, bi_all, bi_any, bi_sum, me_join, it_tup, it_lst, it_sq, slc_tup, opt_none, opt_some, cut1, exists_and_left, List.singleton_append, pick, isTupD, typed, isTy, wipeE, Int.reduceEq, Int.reduceLT, Int.reduceSub, Int.reduceNeg, ex_if, ex_some, ex_map, List.any_cons, List.any_nil, Bool.or_false, Bool.false_or, Bool.or_true, Bool.true_or, decide_true, decide_false, List.getElem?_cons_zero, List.getElem?_cons_succ, Option.some.injEq, exists_eq_left', exists_eq_left, exists_eq_right, true_and, and_true, List.map_cons, List.map_nil, List.set_cons_zero, List.set_cons_succ, List.length_cons, List.length_nil, List.cons_append, List.nil_append, List.reduceReplicate, Nat.reduceSub, Nat.reduceAdd, Nat.reduceLT, Nat.reduceLeDiff, Nat.zero_lt_succ, Nat.lt_add_left_iff_pos, Nat.succ_lt_succ_iff, D.int.injEq, D.bl.injEq, D.str.injEq, D.tup.injEq, D.lst.injEq, D.own.injEq, decide_eq_true_eq, Bool.not_eq_true', decide_eq_false_iff_not, if_true, if_false, ite_true, ite_false, Bool.false_eq_true, reduceCtorEq, false_and, exists_false, Option.map_some, Option.map_none, Option.bind_some, Option.getD_some]
  refine ⟨by rw [rangeL_len]; unfold LIM; omega, w_compL (fun j ds S' => j ≤ m ∧ Dr w (k + 66 * (20 - j)) S S' ∧ ∃ qs : List (List Int × Int), ds = qs.map qD ∧ qs.length = j ∧ ∀ q ∈ qs, SmQ3 q) ⟨Nat.zero_le _, D1, [], rfl, rfl, fun _ h => by cases h⟩ (fun _ _ _ _ _ => ok_nil) (fun j x ds S' hx ⟨hj, D2, qs, e2, l2, b2⟩ => ?_) (fun ds S2 ⟨hj, D2, qs, e2, l2, b2⟩ => ?_)⟩
  · obtain ⟨rfl, hlt⟩ := rangeL_get hx
    subst e2
    simp only [w_var, w_con, w_glob, w_bin, w_neg, w_not, w_and, w_or, w_ifx, w_cmp, w_tup, w_frz, w_own, w_sub, w_slc, w_call, w_callk, w_bi, w_isi, w_me, w_tab, w_ono, w_oyes, w_nil, w_cons, w_tnil, w_tcons, w_disp, w_comp, w_cat, w_rep, w_nslc, w_rev, w_ival, w_irng, w_gname, w_gtup, w_gsub, w_gsnil, w_gscons, w_sexpr, w_asg, w_par, w_ret, w_retN, w_ifs, w_for, w_pass, w_brk, w_cont, w_snil, w_scons, nxt_nx, nxt_rt, nxt_bk, nxt_ct, fin_rt, fin_nx, is_ok, is_no, is_bind, is_guard, is_of, bin_addI, bin_addS, bin_addT, bin_sub, bin_mul, bin_mulT, bin_fdiv, bin_mod, bin_pow, look_int, look_str, look_bl, look_non, look_tup, look_lst, look_sq, items_tup, items_lst, items_sq, list_lst, list_sq, cmp_lt, cmp_le, cmp_gt, cmp_ge, cmp_eq, cmp_ne, eq_int, eq_str, eq_bl, cmp_isN, cmp_isB, cmp_isnot, cmp_inT, cmp_inL, cmp_ninL, sub_tup, sub_lst, sub_sq, atP0, atP1, atP2, atP3, atP4, atP5, len_tup, len_lst, len_sq, len_str, bi_abs, bi_int, bi_strI, bi_strS, bi_tupL, bi_tupT, bi_tupS, bi_max2, bi_min2, bi_all, bi_any, bi_sum, me_join, it_tup, it_lst, it_sq, slc_tup, opt_none, opt_some, cut1, exists_and_left, List.singleton_append, pick, isTupD, typed, isTy, wipeE, Int.reduceEq, Int.reduceLT, Int.reduceSub, Int.reduceNeg, ex_if, ex_some, ex_map, List.any_cons, List.any_nil, Bool.or_false, Bool.false_or, Bool.or_true, Bool.true_or, decide_true, decide_false, List.getElem?_cons_zero, List.getElem?_cons_succ, Option.some.injEq, exists_eq_left', exists_eq_left, exists_eq_right, true_and, and_true, List.map_cons, List.map_nil, List.set_cons_zero, List.set_cons_succ, List.length_cons, List.length_nil, List.cons_append, List.nil_append, List.reduceReplicate, Nat.reduceSub, Nat.reduceAdd, Nat.reduceLT, Nat.reduceLeDiff, Nat.zero_lt_succ, Nat.lt_add_left_iff_pos, Nat.succ_lt_succ_iff, D.int.injEq, D.bl.injEq, D.str.injEq, D.tup.injEq, D.lst.injEq, D.own.injEq, decide_eq_true_eq, Bool.not_eq_true', decide_eq_false_iff_not, if_true, if_false, ite_true, ite_false, Bool.false_eq_true, reduceCtorEq, false_and, exists_false, Option.map_some, Option.map_none, Option.bind_some, Option.getD_some]
    refine (draw_sided h1 hm hd hd2 (D2.well.less (j := k + 66 * (20 - (j + 1)) + 66) (by omega))).mono fun d S3 ⟨q, e3, hq, _, D3⟩ => ?_
    subst e3
    refine ⟨by omega, D2.trans D3, qs ++ [q], by rw [List.map_append]; rfl, by rw [List.length_append, l2]; rfl, fun z hz => ?_⟩
    rcases List.mem_append.mp hz with hz | hz
    · exact b2 z hz
    · rw [List.mem_singleton.mp hz]
      exact hq
  · rw [rangeL_len] at l2
    subst e2
    obtain ⟨rs, r1, r2, er⟩ := unlike (wf := wf) (n := n) (S := S2) hw b2 (by omega)
    have D2 : Dr w k S S2 := ⟨D2.up, D2.len, D2.well.less (by omega)⟩
    have hb : (D.tup [.int dd, .tup (rs.map qD)]) = bD (dd, rs) := rfl
    have hlow : D.low S.length (bD (dd, rs)) = true := by
      simp only [bD, D.low, D.lowL, Bool.true_and, Bool.and_true]
      exact lowL_q _ _
    simp only [er, w_var, w_con, w_glob, w_bin, w_neg, w_not, w_and, w_or, w_ifx, w_cmp, w_tup, w_frz, w_own, w_sub, w_slc, w_call, w_callk, w_bi, w_isi, w_me, w_tab, w_ono, w_oyes, w_nil, w_cons, w_tnil, w_tcons, w_disp, w_comp, w_cat, w_rep, w_nslc, w_rev, w_ival, w_irng, w_gname, w_gtup, w_gsub, w_gsnil, w_gscons, w_sexpr, w_asg, w_par, w_ret, w_retN, w_ifs, w_for, w_pass, w_brk, w_cont, w_snil, w_scons, nxt_nx, nxt_rt, nxt_bk, nxt_ct, fin_rt, fin_nx, is_ok, is_no, is_bind, is_guard, is_of, bin_addI, bin_addS, bin_addT, bin_sub, bin_mul, bin_mulT, bin_fdiv, bin_mod, bin_pow, look_int, look_str, look_bl, look_non, look_tup, look_lst, look_sq, items_tup, items_lst, items_sq, list_lst, list_sq, cmp_lt, cmp_le, cmp_gt, cmp_ge, cmp_eq, cmp_ne, eq_int, eq_str, eq_bl, cmp_isN, cmp_isB, cmp_isnot, cmp_inT, cmp_inL, cmp_ninL, sub_tup, sub_lst, sub_sq, atP0, atP1, atP2, atP3, atP4, atP5, len_tup, len_lst, len_sq, len_str, bi_abs, bi_int, bi_strI, bi_strS, bi_tupL, bi_tupT, bi_tupS, bi_max2, bi_min2, bi_all, bi_any, bi_sum, me_join, it_tup, it_lst, it_sq, slc_tup, opt_none, opt_some, cut1, exists_and_left, List.singleton_append, pick, isTupD, typed, isTy, wipeE, Int.reduceEq, Int.reduceLT, Int.reduceSub, Int.reduceNeg, ex_if, ex_some, ex_map, List.any_cons, List.any_nil, Bool.or_false, Bool.false_or, Bool.or_true, Bool.true_or, decide_true, decide_false, List.getElem?_cons_zero, List.getElem?_cons_succ, Option.some.injEq, exists_eq_left', exists_eq_left, exists_eq_right, true_and, and_true, List.map_cons, List.map_nil, List.set_cons_zero, List.set_cons_succ, List.length_cons, List.length_nil, List.cons_append, List.nil_append, List.reduceReplicate, Nat.reduceSub, Nat.reduceAdd, Nat.reduceLT, Nat.reduceLeDiff, Nat.zero_lt_succ, Nat.lt_add_left_iff_pos, Nat.succ_lt_succ_iff, D.int.injEq, D.bl.injEq, D.str.injEq, D.tup.injEq, D.lst.injEq, D.own.injEq, decide_eq_true_eq, Bool.not_eq_true', decide_eq_false_iff_not, if_true, if_false, ite_true, ite_false, Bool.false_eq_true, reduceCtorEq, false_and, exists_false, Option.map_some, Option.map_none, Option.bind_some, Option.getD_some]
    refine ⟨by decide, ?_⟩
    rw [hb, finish_dr D2 hlow, is_ok]
    refine ⟨_, rfl, ⟨?_, fun q hq => (b2 q (r1 q hq)).q, r2⟩, D2⟩
    refine sm_of (m := 2) (by decide) ?_
    show (dd : Int).natAbs ≤ _
    omega
/-! ### sayings drawn -/
theorem SmS.mono {i j : Nat} {s : Say} (h : SmS i s) : i ≤ j → SmS j s := by
  induction h generalizing j with
  | leaf n k h => exact fun _ => .leaf j k h
  | one h ih =>
    intro hj
    obtain ⟨m, rfl⟩ : ∃ m, j = m + 1 := ⟨j - 1, by omega⟩
    exact .one (ih (by omega))
  | two k h h' ih ih' =>
    intro hj
    obtain ⟨m, rfl⟩ : ∃ m, j = m + 1 := ⟨j - 1, by omega⟩
    exact .two k (ih (by omega)) (ih' (by omega))
theorem low_say (b : Nat) : ∀ s : Say, D.low b (sayD s) = true
  | .leaf k q => by
    simp only [sayD, D.low, D.lowL, Bool.and_true, Bool.true_and]
    exact low_ints _ _
  | .one p => by simp only [sayD, D.low, D.lowL, low_say b p, Bool.and_self]
  | .two k p q => by simp only [sayD, D.low, D.lowL, low_say b p, low_say b q, Bool.and_self]
def cost (j : Nat) : Nat := 100 * 2 ^ j - 10
theorem cost_pos {j : Nat} (h : 1 ≤ j) : 190 ≤ cost j := by
  have : 2 ^ 1 ≤ 2 ^ j := Nat.pow_le_pow_right (by decide) h
  unfold cost
  omega
theorem cost_mono {i j : Nat} (h : i ≤ j) : cost i ≤ cost j := by
  have : 2 ^ i ≤ 2 ^ j := Nat.pow_le_pow_right (by decide) h
  unfold cost
  omega
theorem cost_two {i j : Nat} (h : i < j) : 2 * cost i + 8 ≤ cost j := by
  have h1 : 2 ^ (i + 1) ≤ 2 ^ j := Nat.pow_le_pow_right (by decide) h
  rw [Nat.pow_succ] at h1
  have := pow1 i
  unfold cost
  omega
def f20r : Ss := match f20.body with
  | .cons _ r => r
  | .nil => .nil
theorem three {v : Int} (h0 : 0 ≤ v) (h : v < 3) : v = 0 ∨ v = 1 ∨ v = 2 := by omega
theorem at_leafW {v : Int} (h0 : 0 ≤ v) (h : v < 3) : ∃ j, atP [.str "less", .str "is", .str "more"] v = some (.str (leafW j)) := by
  rcases three h0 h with rfl | rfl | rfl
  · exact ⟨0, rfl⟩
  · exact ⟨1, rfl⟩
  · exact ⟨2, rfl⟩
theorem deep {most dd : Nat} (h1 : 1 ≤ most) (hm : most ≤ 300) (hd : 1 ≤ dd) (hd2 : dd ≤ 12) : ∀ (j : Nat), 1 ≤ j → j ≤ 12 → ∀ (n k : Nat) (S : Sto), Well w (k + cost j) S →
    (callF tab G wf (n + j + 5) 20 [.own w, .int dd, .int j, .int most] S).Is fun d S' => ∃ s, d = sayD s ∧ SmS j s ∧ Dr w k S S' := by
  intro j
  induction j using Nat.strongRecOn with
  | _ j ih =>
    intro hj1 hj12 n k S h
    have hc := cost_pos hj1
    have fin : ∀ (s : Say) (S' : Sto), SmS j s → Dr w k S S' → (finish false S (sayD s) S').Is fun d S' => ∃ s, d = sayD s ∧ SmS j s ∧ Dr w k S S' := fun s S' a b => by
      rw [finish_dr b (low_say _ _), is_ok]
      exact ⟨s, rfl, a, b⟩
    -- a leaf
    have leaf : ∀ (v : Int) (S1 : Sto), v < 2 → Dr w (k + 68) S S1 → (evSs ⟨callF tab G wf (n + j + 4), G, wf⟩ f20r [some (.own w), some (.int dd), some (.int j), some (.int most), some (.int v), none, none, none, none] S1).Is (Fin f20 S fun d S' => ∃ s, d = sayD s ∧ SmS j s ∧ Dr w k S S') := fun v S1 hv D1 => by
      have e : n + j + 4 = (n + j + 1) + 3 := by omega
      simp only [f20r, f20, hv, e, w_var, w_con, w_glob, w_bin, w_neg, w_not, w_and, w_or, w_ifx, w_cmp, w_tup, w_frz, w_own, w_sub, w_slc, w_call, w_callk, w_bi, w_isi, w_me, w_tab, w_ono, w_oyes, w_nil, w_cons, w_tnil, w_tcons, w_disp, w_comp, w_cat, w_rep, w_nslc, w_rev, w_ival, w_irng, w_gname, w_gtup, w_gsub, w_gsnil, w_gscons, w_sexpr, w_asg, w_par, w_ret, w_retN, w_ifs, w_for, w_pass, w_brk, w_cont, w_snil, w_scons, nxt_nx, nxt_rt, nxt_bk, nxt_ct, fin_rt, fin_nx, is_ok, is_no, is_bind, is_guard, is_of, bin_addI, bin_addS, bin_addT, bin_sub, bin_mul, bin_mulT, bin_fdiv, bin_mod, bin_pow, look_int, look_str, look_bl, look_non, look_tup, look_lst, look_sq, items_tup, items_lst, items_sq, list_lst, list_sq, cmp_lt, cmp_le, cmp_gt, cmp_ge, cmp_eq, cmp_ne, eq_int, eq_str, eq_bl, cmp_isN, cmp_isB, cmp_isnot, cmp_inT, cmp_inL, cmp_ninL, sub_tup, sub_lst, sub_sq, atP0, atP1, atP2, atP3, atP4, atP5, len_tup, len_lst, len_sq, len_str, bi_abs, bi_int, bi_strI, bi_strS, bi_tupL, bi_tupT, bi_tupS, bi_max2, bi_min2, bi_all, bi_any, bi_sum, me_join, it_tup, it_lst, it_sq, slc_tup, opt_none, opt_some, cut1, exists_and_left, List.singleton_append, pick, isTupD, typed, isTy, wipeE, Int.reduceEq, Int.reduceLT, Int.reduceSub, Int.reduceNeg, ex_if, ex_some, ex_map, List.any_cons, List.any_nil, Bool.or_false, Bool.false_or, Bool.or_true, Bool.true_or, decide_true, decide_false, List.getElem?_cons_zero, List.getElem?_cons_succ, Option.some.injEq, exists_eq_left', exists_eq_left, exists_eq_right, true_and, and_true, List.map_cons, List.map_nil, List.set_cons_zero, List.set_cons_succ, List.length_cons, List.length_nil, List.cons_append, List.nil_append, List.reduceReplicate, Nat.reduceSub, Nat.reduceAdd, Nat.reduceLT, Nat.reduceLeDiff, Nat.zero_lt_succ, Nat.lt_add_left_iff_pos, Nat.succ_lt_succ_iff, D.int.injEq, D.bl.injEq, D.str.injEq, D.tup.injEq, D.lst.injEq, D.own.injEq, decide_eq_true_eq, Bool.not_eq_true', decide_eq_false_iff_not, if_true, if_false, ite_true, ite_false, Bool.false_eq_true, reduceCtorEq, false_and, exists_false, Option.map_some, Option.map_none, Option.bind_some, Option.getD_some]
      refine (draw_sided h1 hm hd hd2 (D1.well.less (j := k + 2 + 66) (by omega))).mono fun d S2 ⟨q, e2, hq, hl, D2⟩ => ?_
      subst e2
      have D2 := D1.trans D2
      simp only [qD, w_var, w_con, w_glob, w_bin, w_neg, w_not, w_and, w_or, w_ifx, w_cmp, w_tup, w_frz, w_own, w_sub, w_slc, w_call, w_callk, w_bi, w_isi, w_me, w_tab, w_ono, w_oyes, w_nil, w_cons, w_tnil, w_tcons, w_disp, w_comp, w_cat, w_rep, w_nslc, w_rev, w_ival, w_irng, w_gname, w_gtup, w_gsub, w_gsnil, w_gscons, w_sexpr, w_asg, w_par, w_ret, w_retN, w_ifs, w_for, w_pass, w_brk, w_cont, w_snil, w_scons, nxt_nx, nxt_rt, nxt_bk, nxt_ct, fin_rt, fin_nx, is_ok, is_no, is_bind, is_guard, is_of, bin_addI, bin_addS, bin_addT, bin_sub, bin_mul, bin_mulT, bin_fdiv, bin_mod, bin_pow, look_int, look_str, look_bl, look_non, look_tup, look_lst, look_sq, items_tup, items_lst, items_sq, list_lst, list_sq, cmp_lt, cmp_le, cmp_gt, cmp_ge, cmp_eq, cmp_ne, eq_int, eq_str, eq_bl, cmp_isN, cmp_isB, cmp_isnot, cmp_inT, cmp_inL, cmp_ninL, sub_tup, sub_lst, sub_sq, atP0, atP1, atP2, atP3, atP4, atP5, len_tup, len_lst, len_sq, len_str, bi_abs, bi_int, bi_strI, bi_strS, bi_tupL, bi_tupT, bi_tupS, bi_max2, bi_min2, bi_all, bi_any, bi_sum, me_join, it_tup, it_lst, it_sq, slc_tup, opt_none, opt_some, cut1, exists_and_left, List.singleton_append, pick, isTupD, typed, isTy, wipeE, Int.reduceEq, Int.reduceLT, Int.reduceSub, Int.reduceNeg, ex_if, ex_some, ex_map, List.any_cons, List.any_nil, Bool.or_false, Bool.false_or, Bool.or_true, Bool.true_or, decide_true, decide_false, List.getElem?_cons_zero, List.getElem?_cons_succ, Option.some.injEq, exists_eq_left', exists_eq_left, exists_eq_right, true_and, and_true, List.map_cons, List.map_nil, List.set_cons_zero, List.set_cons_succ, List.length_cons, List.length_nil, List.cons_append, List.nil_append, List.reduceReplicate, Nat.reduceSub, Nat.reduceAdd, Nat.reduceLT, Nat.reduceLeDiff, Nat.zero_lt_succ, Nat.lt_add_left_iff_pos, Nat.succ_lt_succ_iff, D.int.injEq, D.bl.injEq, D.str.injEq, D.tup.injEq, D.lst.injEq, D.own.injEq, decide_eq_true_eq, Bool.not_eq_true', decide_eq_false_iff_not, if_true, if_false, ite_true, ite_false, Bool.false_eq_true, reduceCtorEq, false_and, exists_false, Option.map_some, Option.map_none, Option.bind_some, Option.getD_some]
      refine ⟨by decide, (draw (m := 3) (by decide) (by decide) (D2.well.less (j := k + 1 + 1) (by omega))).mono fun d S3 ⟨v3, e3, a3, b3, D3⟩ => ?_⟩
      subst e3
      obtain ⟨i, hi⟩ := at_leafW a3 b3
      have D3 := D2.trans D3
      simp only [hi, w_var, w_con, w_glob, w_bin, w_neg, w_not, w_and, w_or, w_ifx, w_cmp, w_tup, w_frz, w_own, w_sub, w_slc, w_call, w_callk, w_bi, w_isi, w_me, w_tab, w_ono, w_oyes, w_nil, w_cons, w_tnil, w_tcons, w_disp, w_comp, w_cat, w_rep, w_nslc, w_rev, w_ival, w_irng, w_gname, w_gtup, w_gsub, w_gsnil, w_gscons, w_sexpr, w_asg, w_par, w_ret, w_retN, w_ifs, w_for, w_pass, w_brk, w_cont, w_snil, w_scons, nxt_nx, nxt_rt, nxt_bk, nxt_ct, fin_rt, fin_nx, is_ok, is_no, is_bind, is_guard, is_of, bin_addI, bin_addS, bin_addT, bin_sub, bin_mul, bin_mulT, bin_fdiv, bin_mod, bin_pow, look_int, look_str, look_bl, look_non, look_tup, look_lst, look_sq, items_tup, items_lst, items_sq, list_lst, list_sq, cmp_lt, cmp_le, cmp_gt, cmp_ge, cmp_eq, cmp_ne, eq_int, eq_str, eq_bl, cmp_isN, cmp_isB, cmp_isnot, cmp_inT, cmp_inL, cmp_ninL, sub_tup, sub_lst, sub_sq, atP0, atP1, atP2, atP3, atP4, atP5, len_tup, len_lst, len_sq, len_str, bi_abs, bi_int, bi_strI, bi_strS, bi_tupL, bi_tupT, bi_tupS, bi_max2, bi_min2, bi_all, bi_any, bi_sum, me_join, it_tup, it_lst, it_sq, slc_tup, opt_none, opt_some, cut1, exists_and_left, List.singleton_append, pick, isTupD, typed, isTy, wipeE, Int.reduceEq, Int.reduceLT, Int.reduceSub, Int.reduceNeg, ex_if, ex_some, ex_map, List.any_cons, List.any_nil, Bool.or_false, Bool.false_or, Bool.or_true, Bool.true_or, decide_true, decide_false, List.getElem?_cons_zero, List.getElem?_cons_succ, Option.some.injEq, exists_eq_left', exists_eq_left, exists_eq_right, true_and, and_true, List.map_cons, List.map_nil, List.set_cons_zero, List.set_cons_succ, List.length_cons, List.length_nil, List.cons_append, List.nil_append, List.reduceReplicate, Nat.reduceSub, Nat.reduceAdd, Nat.reduceLT, Nat.reduceLeDiff, Nat.zero_lt_succ, Nat.lt_add_left_iff_pos, Nat.succ_lt_succ_iff, D.int.injEq, D.bl.injEq, D.str.injEq, D.tup.injEq, D.lst.injEq, D.own.injEq, decide_eq_true_eq, Bool.not_eq_true', decide_eq_false_iff_not, if_true, if_false, ite_true, ite_false, Bool.false_eq_true, reduceCtorEq, false_and, exists_false, Option.map_some, Option.map_none, Option.bind_some, Option.getD_some]
      refine ⟨by decide, by omega, by decide, (draw (m := 3) (by decide) (by decide) (D3.well.less (j := k + 1) (by omega))).mono fun d S4 ⟨v4, e4, a4, b4, D4⟩ => ?_⟩
      subst e4
      have D4 := D3.trans D4
      have hz : (repL [D.int 0] (dd : Int).toNat) = (List.replicate dd (0 : Int)).map iD := by rw [Int.toNat_natCast, repL_one, List.map_replicate]; rfl
      have hx : ∃ ys : List Int, atP [.tup (q.1.map iD), .tup (q.1.map iD), .tup (repL [D.int 0] (dd : Int).toNat)] v4 = some (.tup (ys.map iD)) ∧ SmQ (ys, q.2) := by
        have hq' := hq.q
        rcases three a4 b4 with rfl | rfl | rfl
        · exact ⟨q.1, by rw [atP0]; rfl, hq'⟩
        · exact ⟨q.1, by rw [atP1]; rfl, hq'⟩
        · refine ⟨List.replicate dd 0, by rw [atP2, hz]; rfl, fun x hx => ?_, by rw [List.length_replicate]; exact hd2, hq'.w⟩
          rw [List.eq_of_mem_replicate hx]
          exact sm_of (m := 1) (by decide) (by decide)
      obtain ⟨ys, hys, hsm⟩ := hx
      simp only [hys, w_var, w_con, w_glob, w_bin, w_neg, w_not, w_and, w_or, w_ifx, w_cmp, w_tup, w_frz, w_own, w_sub, w_slc, w_call, w_callk, w_bi, w_isi, w_me, w_tab, w_ono, w_oyes, w_nil, w_cons, w_tnil, w_tcons, w_disp, w_comp, w_cat, w_rep, w_nslc, w_rev, w_ival, w_irng, w_gname, w_gtup, w_gsub, w_gsnil, w_gscons, w_sexpr, w_asg, w_par, w_ret, w_retN, w_ifs, w_for, w_pass, w_brk, w_cont, w_snil, w_scons, nxt_nx, nxt_rt, nxt_bk, nxt_ct, fin_rt, fin_nx, is_ok, is_no, is_bind, is_guard, is_of, bin_addI, bin_addS, bin_addT, bin_sub, bin_mul, bin_mulT, bin_fdiv, bin_mod, bin_pow, look_int, look_str, look_bl, look_non, look_tup, look_lst, look_sq, items_tup, items_lst, items_sq, list_lst, list_sq, cmp_lt, cmp_le, cmp_gt, cmp_ge, cmp_eq, cmp_ne, eq_int, eq_str, eq_bl, cmp_isN, cmp_isB, cmp_isnot, cmp_inT, cmp_inL, cmp_ninL, sub_tup, sub_lst, sub_sq, atP0, atP1, atP2, atP3, atP4, atP5, len_tup, len_lst, len_sq, len_str, bi_abs, bi_int, bi_strI, bi_strS, bi_tupL, bi_tupT, bi_tupS, bi_max2, bi_min2, bi_all, bi_any, bi_sum, me_join, it_tup, it_lst, it_sq, slc_tup, opt_none, opt_some, cut1, exists_and_left, List.singleton_append, pick, isTupD, typed, isTy, wipeE, Int.reduceEq, Int.reduceLT, Int.reduceSub, Int.reduceNeg, ex_if, ex_some, ex_map, List.any_cons, List.any_nil, Bool.or_false, Bool.false_or, Bool.or_true, Bool.true_or, decide_true, decide_false, List.getElem?_cons_zero, List.getElem?_cons_succ, Option.some.injEq, exists_eq_left', exists_eq_left, exists_eq_right, true_and, and_true, List.map_cons, List.map_nil, List.set_cons_zero, List.set_cons_succ, List.length_cons, List.length_nil, List.cons_append, List.nil_append, List.reduceReplicate, Nat.reduceSub, Nat.reduceAdd, Nat.reduceLT, Nat.reduceLeDiff, Nat.zero_lt_succ, Nat.lt_add_left_iff_pos, Nat.succ_lt_succ_iff, D.int.injEq, D.bl.injEq, D.str.injEq, D.tup.injEq, D.lst.injEq, D.own.injEq, decide_eq_true_eq, Bool.not_eq_true', decide_eq_false_iff_not, if_true, if_false, ite_true, ite_false, Bool.false_eq_true, reduceCtorEq, false_and, exists_false, Option.map_some, Option.map_none, Option.bind_some, Option.getD_some]
      exact ⟨by decide, fin (.leaf i (ys, q.2)) S4 (.leaf j i hsm) D4⟩
    rw [w_fn at20 rfl]
    show (evSs _ (.cons _ f20r) _ _).Is _
    simp only [f20, w_var, w_con, w_glob, w_bin, w_neg, w_not, w_and, w_or, w_ifx, w_cmp, w_tup, w_frz, w_own, w_sub, w_slc, w_call, w_callk, w_bi, w_isi, w_me, w_tab, w_ono, w_oyes, w_nil, w_cons, w_tnil, w_tcons, w_disp, w_comp, w_cat, w_rep, w_nslc, w_rev, w_ival, w_irng, w_gname, w_gtup, w_gsub, w_gsnil, w_gscons, w_sexpr, w_asg, w_par, w_ret, w_retN, w_ifs, w_for, w_pass, w_brk, w_cont, w_snil, w_scons, nxt_nx, nxt_rt, nxt_bk, nxt_ct, fin_rt, fin_nx, is_ok, is_no, is_bind, is_guard, is_of, bin_addI, bin_addS, bin_addT, bin_sub, bin_mul, bin_mulT, bin_fdiv, bin_mod, bin_pow, look_int, look_str, look_bl, look_non, look_tup, look_lst, look_sq, items_tup, items_lst, items_sq, list_lst, list_sq, cmp_lt, cmp_le, cmp_gt, cmp_ge, cmp_eq, cmp_ne, eq_int, eq_str, eq_bl, cmp_isN, cmp_isB, cmp_isnot, cmp_inT, cmp_inL, cmp_ninL, sub_tup, sub_lst, sub_sq, atP0, atP1, atP2, atP3, atP4, atP5, len_tup, len_lst, len_sq, len_str, bi_abs, bi_int, bi_strI, bi_strS, bi_tupL, bi_tupT, bi_tupS, bi_max2, bi_min2, bi_all, bi_any, bi_sum, me_join, it_tup, it_lst, it_sq, slc_tup, opt_none, opt_some, cut1, exists_and_left, List.singleton_append, pick, isTupD, typed, isTy, wipeE, Int.reduceEq, Int.reduceLT, Int.reduceSub, Int.reduceNeg, ex_if, ex_some, ex_map, List.any_cons, List.any_nil, Bool.or_false, Bool.false_or, Bool.or_true, Bool.true_or, decide_true, decide_false, List.getElem?_cons_zero, List.getElem?_cons_succ, Option.some.injEq, exists_eq_left', exists_eq_left, exists_eq_right, true_and, and_true, List.map_cons, List.map_nil, List.set_cons_zero, List.set_cons_succ, List.length_cons, List.length_nil, List.cons_append, List.nil_append, List.reduceReplicate, Nat.reduceSub, Nat.reduceAdd, Nat.reduceLT, Nat.reduceLeDiff, Nat.zero_lt_succ, Nat.lt_add_left_iff_pos, Nat.succ_lt_succ_iff, D.int.injEq, D.bl.injEq, D.str.injEq, D.tup.injEq, D.lst.injEq, D.own.injEq, decide_eq_true_eq, Bool.not_eq_true', decide_eq_false_iff_not, if_true, if_false, ite_true, ite_false, Bool.false_eq_true, reduceCtorEq, false_and, exists_false, Option.map_some, Option.map_none, Option.bind_some, Option.getD_some]
    split
    · rename_i hgt
      refine (draw (m := 6) (by decide) (by decide) (h.less (j := k + 2 * cost (j - 1) + 2 + 1) (by have := cost_two (i := j - 1) (j := j) (by omega); omega))).mono fun d S1 ⟨v, e1, a1, b1, D1⟩ => ?_
      subst e1
      by_cases hv : v < 2
      · exact leaf v S1 hv ⟨D1.up, D1.len, D1.well.less (by have := cost_pos (j := j - 1) (by omega); omega)⟩
      · have hn : ((j : Int) - 1) = ((j - 1 : Nat) : Int) := by omega
        simp only [f20r, f20, hv, hn, w_var, w_con, w_glob, w_bin, w_neg, w_not, w_and, w_or, w_ifx, w_cmp, w_tup, w_frz, w_own, w_sub, w_slc, w_call, w_callk, w_bi, w_isi, w_me, w_tab, w_ono, w_oyes, w_nil, w_cons, w_tnil, w_tcons, w_disp, w_comp, w_cat, w_rep, w_nslc, w_rev, w_ival, w_irng, w_gname, w_gtup, w_gsub, w_gsnil, w_gscons, w_sexpr, w_asg, w_par, w_ret, w_retN, w_ifs, w_for, w_pass, w_brk, w_cont, w_snil, w_scons, nxt_nx, nxt_rt, nxt_bk, nxt_ct, fin_rt, fin_nx, is_ok, is_no, is_bind, is_guard, is_of, bin_addI, bin_addS, bin_addT, bin_sub, bin_mul, bin_mulT, bin_fdiv, bin_mod, bin_pow, look_int, look_str, look_bl, look_non, look_tup, look_lst, look_sq, items_tup, items_lst, items_sq, list_lst, list_sq, cmp_lt, cmp_le, cmp_gt, cmp_ge, cmp_eq, cmp_ne, eq_int, eq_str, eq_bl, cmp_isN, cmp_isB, cmp_isnot, cmp_inT, cmp_inL, cmp_ninL, sub_tup, sub_lst, sub_sq, atP0, atP1, atP2, atP3, atP4, atP5, len_tup, len_lst, len_sq, len_str, bi_abs, bi_int, bi_strI, bi_strS, bi_tupL, bi_tupT, bi_tupS, bi_max2, bi_min2, bi_all, bi_any, bi_sum, me_join, it_tup, it_lst, it_sq, slc_tup, opt_none, opt_some, cut1, exists_and_left, List.singleton_append, pick, isTupD, typed, isTy, wipeE, Int.reduceEq, Int.reduceLT, Int.reduceSub, Int.reduceNeg, ex_if, ex_some, ex_map, List.any_cons, List.any_nil, Bool.or_false, Bool.false_or, Bool.or_true, Bool.true_or, decide_true, decide_false, List.getElem?_cons_zero, List.getElem?_cons_succ, Option.some.injEq, exists_eq_left', exists_eq_left, exists_eq_right, true_and, and_true, List.map_cons, List.map_nil, List.set_cons_zero, List.set_cons_succ, List.length_cons, List.length_nil, List.cons_append, List.nil_append, List.reduceReplicate, Nat.reduceSub, Nat.reduceAdd, Nat.reduceLT, Nat.reduceLeDiff, Nat.zero_lt_succ, Nat.lt_add_left_iff_pos, Nat.succ_lt_succ_iff, D.int.injEq, D.bl.injEq, D.str.injEq, D.tup.injEq, D.lst.injEq, D.own.injEq, decide_eq_true_eq, Bool.not_eq_true', decide_eq_false_iff_not, if_true, if_false, ite_true, ite_false, Bool.false_eq_true, reduceCtorEq, false_and, exists_false, Option.map_some, Option.map_none, Option.bind_some, Option.getD_some]
        have jm : ∃ m, j = m + 1 := ⟨j - 1, by omega⟩
        have part : ∀ (i k : Nat) (T : Sto), 1 ≤ i → i < j → Well w (k + cost (j - 1)) T → (callF tab G wf (n + j + 4) 20 [.own w, .int dd, .int i, .int most] T).Is fun d S' => ∃ s, d = sayD s ∧ SmS (j - 1) s ∧ Dr w k T S' := fun i k T hi1 hij hW => by
          have e : n + j + 4 = (n + (j - 1 - i)) + i + 5 := by omega
          rw [e]
          refine (ih i hij hi1 (by omega) (n + (j - 1 - i)) k T (hW.less (by have := cost_mono (i := i) (j := j - 1) (by omega); omega))).mono fun d S' ⟨s, e, hs, D⟩ => ⟨s, e, hs.mono (by omega), D⟩
        split
        · refine (part (j - 1) k S1 (by omega) (by omega) (D1.well.less (by omega))).mono fun d S2 ⟨s, e2, hs, D2⟩ => ⟨by decide, ?_⟩
          subst e2
          obtain ⟨m, rfl⟩ := jm
          exact fin (.one s) S2 (.one hs) (D1.trans D2)
        · rename_i hv4
          have tail : ∀ (p q : Say) (T : Sto), SmS (j - 1) p → SmS (j - 1) q → Dr w (k + 1) S T → 2 ≤ LIM ∧ (callF tab G wf (n + j + 4) 9 [D.own w, D.int 2] T).Is fun x_2 S1 =>
              2 ≤ LIM ∧ ∃ z, atP [D.str "both", D.str "either"] (v - 4) = some z ∧ ∃ z_1, subD S1 (D.lst [sayD p, sayD q]) x_2 = some z_1 ∧ ∃ z_2, binD BO.sub (D.int 1) x_2 = some z_2 ∧
                ∃ z_3, subD S1 (D.lst [sayD p, sayD q]) z_2 = some z_3 ∧ 3 ≤ LIM ∧ (finish false S (D.tup [z, z_1, z_3]) S1).Is fun d S' => ∃ s, d = sayD s ∧ SmS j s ∧ Dr w k S S' := fun p q T hp hq DT => by
            refine ⟨by decide, (draw (m := 2) (by decide) (by decide) DT.well).mono fun d S2 ⟨t, e2, a2, b2, D2⟩ => ⟨by decide, ?_⟩⟩
            subst e2
            have D2 := DT.trans D2
            obtain ⟨m, rfl⟩ := jm
            have hv' : v = 4 ∨ v = 5 := by omega
            have ht : t = 0 ∨ t = 1 := by omega
            have tw : ∃ b, atP [D.str "both", D.str "either"] (v - 4) = some (.str (twoW b)) := by
              rcases hv' with rfl | rfl
              · exact ⟨false, rfl⟩
              · exact ⟨true, rfl⟩
            obtain ⟨b, hb⟩ := tw
            rcases ht with rfl | rfl
            · exact ⟨_, hb, _, rfl, _, rfl, _, rfl, by decide, fin (.two b p q) S2 (.two b hp hq) D2⟩
            · exact ⟨_, hb, _, rfl, _, rfl, _, rfl, by decide, fin (.two b q p) S2 (.two b hq hp) D2⟩
          refine (part (j - 1) (k + cost (j - 1) + 2) S1 (by omega) (by omega) (D1.well.less (by omega))).mono fun d S2 ⟨p, e2, hp, D2⟩ => ?_
          subst e2
          have D2 := D1.trans D2
          split
          · refine (part 1 (k + 1) S2 (by omega) (by omega) (D2.well.less (by omega))).mono fun d S3 ⟨q, e3, hq, D3⟩ => ?_
            subst e3
            exact tail p q S3 hp hq (D2.trans D3)
          · have hmn : (if (2 : Int) < ((j - 1 : Nat) : Int) then (2 : Int) else ((j - 1 : Nat) : Int)) = ((min 2 (j - 1) : Nat) : Int) := by split <;> omega
            rw [hmn]
            refine (part (min 2 (j - 1)) (k + 1) S2 (by omega) (by omega) (D2.well.less (by omega))).mono fun d S3 ⟨q, e3, hq, D3⟩ => ?_
            subst e3
            exact tail p q S3 hp hq (D2.trans D3)
    · exact leaf 0 S (by decide) (Dr.refl (h.less (by omega)))
end K47

namespace K47
open PySem Ev
variable {wf n : Nat} {S : Sto} {w k : Nat}
theorem low_wish (b : Nat) : ∀ ws : List (Option Int), D.lowL b (ws.map wD) = true
  | [] => rfl
  | none :: ws => by simp only [List.map_cons, wD, D.lowL, D.low, Bool.true_and]; exact low_wish b ws
  | some i :: ws => by simp only [List.map_cons, wD, D.lowL, D.low, Bool.true_and]; exact low_wish b ws
theorem low_nums (b : Nat) : ∀ ps : List (Int × Int), D.lowL b (ps.map nD) = true
  | [] => rfl
  | p :: ps => by simp only [List.map_cons, nD, D.lowL, D.low, Bool.true_and]; exact low_nums b ps
theorem wish {as : List (Option Int)} {many : Nat} (ha : ∀ a ∈ as, Sign a) (h0 : as ≠ []) (hl : as.length ≤ 4) (hm : many ≤ 20) (h : Well w (k + 20) S) :
    (callF tab G wf (n + 2) 21 [.own w, .int many, .tup (as.map wD)] S).Is fun d S' => ∃ ws : List (Option Int), d = .tup (ws.map wD) ∧ (∀ a ∈ ws, Sign a) ∧ ws.length ≤ 20 ∧ Dr w k S S' := by
  have hp : 0 < as.length := List.length_pos_iff.mpr h0
  rw [w_fn at21 rfl]
  simp only [f21, rng_nat (k := many) (Nat.le_trans hm (by decide)), w_var, w_con, w_glob, w_bin, w_neg, w_not, w_and, w_or, w_ifx, w_cmp, w_tup, w_frz, w_own, w_sub, w_slc, w_call, w_callk, w_bi, w_isi, w_me, w_tab, w_ono, w_oyes, w_nil, w_cons, w_tnil, w_tcons, w_disp, w_comp, w_cat, w_rep, w_nslc, w_rev, w_ival, w_irng, w_gname, w_gtup, w_gsub, w_gsnil, w_gscons, w_sexpr, w_asg, w_par, w_ret, w_retN, w_ifs, w_for, w_pass, w_brk, w_cont, w_snil, w_scons, nxt_nx, nxt_rt, nxt_bk, nxt_ct, fin_rt, fin_nx, is_ok, is_no, is_bind, is_guard, is_of, bin_addI, bin_addS, bin_addT, bin_sub, bin_mul, bin_mulT, bin_fdiv, bin_mod, bin_pow, look_int, look_str, look_bl, look_non, look_tup, look_lst, look_sq, items_tup, items_lst, items_sq, list_lst, list_sq, cmp_lt, cmp_le, cmp_gt, cmp_ge, cmp_eq, cmp_ne, eq_int, eq_str, eq_bl, cmp_isN, cmp_isB, cmp_isnot, cmp_inT, cmp_inL, cmp_ninL, sub_tup, sub_lst, sub_sq, atP0, atP1, atP2, atP3, atP4, atP5, len_tup, len_lst, len_sq, len_str, bi_abs, bi_int, bi_strI, bi_strS, bi_tupL, bi_tupT, bi_tupS, bi_max2, bi_min2, bi_all, bi_any, bi_sum, me_join, it_tup, it_lst, it_sq, slc_tup, opt_none, opt_some, cut1, exists_and_left, List.singleton_append, pick, isTupD, typed, isTy, wipeE, Int.reduceEq, Int.reduceLT, Int.reduceSub, Int.reduceNeg, ex_if, ex_some, ex_map, List.any_cons, List.any_nil, Bool.or_false, Bool.false_or, Bool.or_true, Bool.true_or, decide_true, decide_false, List.getElem?_cons_zero, List.getElem?_cons_succ, Option.some.injEq, exists_eq_left', exists_eq_left, exists_eq_right, true_and, and_true, List.map_cons, List.map_nil, List.set_cons_zero, List.set_cons_succ, List.length_cons, List.length_nil, List.cons_append, List.nil_append, List.reduceReplicate, Nat.reduceSub, Nat.reduceAdd, Nat.reduceLT, Nat.reduceLeDiff, Nat.zero_lt_succ, Nat.lt_add_left_iff_pos, Nat.succ_lt_succ_iff, D.int.injEq, D.bl.injEq, D.str.injEq, D.tup.injEq, D.lst.injEq, D.own.injEq, decide_eq_true_eq, Bool.not_eq_true', decide_eq_false_iff_not, if_true, if_false, ite_true, ite_false, Bool.false_eq_true, reduceCtorEq, false_and, exists_false, Option.map_some, Option.map_none, Option.bind_some, Option.getD_some]
  refine ⟨by rw [rangeL_len]; exact Nat.le_trans hm (by decide), w_compL (fun j ds S' => j ≤ many ∧ Dr w (k + (20 - j)) S S' ∧ ∃ ws : List (Option Int), ds = ws.map wD ∧ ws.length = j ∧ ∀ a ∈ ws, Sign a) ⟨Nat.zero_le _, Dr.refl h, [], rfl, rfl, fun _ h => by cases h⟩ (fun _ _ _ _ _ => ok_nil) (fun j x ds S' hx ⟨hj, D1, ws, e1, l1, b1⟩ => ?_) (fun ds S1 ⟨hj, D1, ws, e1, l1, b1⟩ => ?_)⟩
  · obtain ⟨rfl, hlt⟩ := rangeL_get hx
    subst e1
    try simp only [w_var, w_con, w_glob, w_bin, w_neg, w_not, w_and, w_or, w_ifx, w_cmp, w_tup, w_frz, w_own, w_sub, w_slc, w_call, w_callk, w_bi, w_isi, w_me, w_tab, w_ono, w_oyes, w_nil, w_cons, w_tnil, w_tcons, w_disp, w_comp, w_cat, w_rep, w_nslc, w_rev, w_ival, w_irng, w_gname, w_gtup, w_gsub, w_gsnil, w_gscons, w_sexpr, w_asg, w_par, w_ret, w_retN, w_ifs, w_for, w_pass, w_brk, w_cont, w_snil, w_scons, nxt_nx, nxt_rt, nxt_bk, nxt_ct, fin_rt, fin_nx, is_ok, is_no, is_bind, is_guard, is_of, bin_addI, bin_addS, bin_addT, bin_sub, bin_mul, bin_mulT, bin_fdiv, bin_mod, bin_pow, look_int, look_str, look_bl, look_non, look_tup, look_lst, look_sq, items_tup, items_lst, items_sq, list_lst, list_sq, cmp_lt, cmp_le, cmp_gt, cmp_ge, cmp_eq, cmp_ne, eq_int, eq_str, eq_bl, cmp_isN, cmp_isB, cmp_isnot, cmp_inT, cmp_inL, cmp_ninL, sub_tup, sub_lst, sub_sq, atP0, atP1, atP2, atP3, atP4, atP5, len_tup, len_lst, len_sq, len_str, bi_abs, bi_int, bi_strI, bi_strS, bi_tupL, bi_tupT, bi_tupS, bi_max2, bi_min2, bi_all, bi_any, bi_sum, me_join, it_tup, it_lst, it_sq, slc_tup, opt_none, opt_some, cut1, exists_and_left, List.singleton_append, pick, isTupD, typed, isTy, wipeE, Int.reduceEq, Int.reduceLT, Int.reduceSub, Int.reduceNeg, ex_if, ex_some, ex_map, List.any_cons, List.any_nil, Bool.or_false, Bool.false_or, Bool.or_true, Bool.true_or, decide_true, decide_false, List.getElem?_cons_zero, List.getElem?_cons_succ, Option.some.injEq, exists_eq_left', exists_eq_left, exists_eq_right, true_and, and_true, List.map_cons, List.map_nil, List.set_cons_zero, List.set_cons_succ, List.length_cons, List.length_nil, List.cons_append, List.nil_append, List.reduceReplicate, Nat.reduceSub, Nat.reduceAdd, Nat.reduceLT, Nat.reduceLeDiff, Nat.zero_lt_succ, Nat.lt_add_left_iff_pos, Nat.succ_lt_succ_iff, D.int.injEq, D.bl.injEq, D.str.injEq, D.tup.injEq, D.lst.injEq, D.own.injEq, decide_eq_true_eq, Bool.not_eq_true', decide_eq_false_iff_not, if_true, if_false, ite_true, ite_false, Bool.false_eq_true, reduceCtorEq, false_and, exists_false, Option.map_some, Option.map_none, Option.bind_some, Option.getD_some]
    rw [List.length_map]
    refine (draw (m := as.length) (by omega) (Nat.lt_trans (bits_of (k := 10) (by omega) (by omega) (by decide)) (by decide)) (D1.well.less (j := k + (20 - (j + 1)) + 1) (by omega))).mono fun d S2 ⟨v, e2, a2, b2, D2⟩ => ?_
    obtain ⟨i, rfl⟩ := Int.eq_ofNat_of_zero_le a2
    subst e2
    have hi : i < as.length := by omega
    have hat : atP (as.map wD) (i : Int) = some (wD as[i]) := by
      rw [atP_nat, List.getElem?_map, List.getElem?_eq_getElem hi]
      rfl
    rw [sub_tup, hat]
    try simp only [w_var, w_con, w_glob, w_bin, w_neg, w_not, w_and, w_or, w_ifx, w_cmp, w_tup, w_frz, w_own, w_sub, w_slc, w_call, w_callk, w_bi, w_isi, w_me, w_tab, w_ono, w_oyes, w_nil, w_cons, w_tnil, w_tcons, w_disp, w_comp, w_cat, w_rep, w_nslc, w_rev, w_ival, w_irng, w_gname, w_gtup, w_gsub, w_gsnil, w_gscons, w_sexpr, w_asg, w_par, w_ret, w_retN, w_ifs, w_for, w_pass, w_brk, w_cont, w_snil, w_scons, nxt_nx, nxt_rt, nxt_bk, nxt_ct, fin_rt, fin_nx, is_ok, is_no, is_bind, is_guard, is_of, bin_addI, bin_addS, bin_addT, bin_sub, bin_mul, bin_mulT, bin_fdiv, bin_mod, bin_pow, look_int, look_str, look_bl, look_non, look_tup, look_lst, look_sq, items_tup, items_lst, items_sq, list_lst, list_sq, cmp_lt, cmp_le, cmp_gt, cmp_ge, cmp_eq, cmp_ne, eq_int, eq_str, eq_bl, cmp_isN, cmp_isB, cmp_isnot, cmp_inT, cmp_inL, cmp_ninL, sub_tup, sub_lst, sub_sq, atP0, atP1, atP2, atP3, atP4, atP5, len_tup, len_lst, len_sq, len_str, bi_abs, bi_int, bi_strI, bi_strS, bi_tupL, bi_tupT, bi_tupS, bi_max2, bi_min2, bi_all, bi_any, bi_sum, me_join, it_tup, it_lst, it_sq, slc_tup, opt_none, opt_some, cut1, exists_and_left, List.singleton_append, pick, isTupD, typed, isTy, wipeE, Int.reduceEq, Int.reduceLT, Int.reduceSub, Int.reduceNeg, ex_if, ex_some, ex_map, List.any_cons, List.any_nil, Bool.or_false, Bool.false_or, Bool.or_true, Bool.true_or, decide_true, decide_false, List.getElem?_cons_zero, List.getElem?_cons_succ, Option.some.injEq, exists_eq_left', exists_eq_left, exists_eq_right, true_and, and_true, List.map_cons, List.map_nil, List.set_cons_zero, List.set_cons_succ, List.length_cons, List.length_nil, List.cons_append, List.nil_append, List.reduceReplicate, Nat.reduceSub, Nat.reduceAdd, Nat.reduceLT, Nat.reduceLeDiff, Nat.zero_lt_succ, Nat.lt_add_left_iff_pos, Nat.succ_lt_succ_iff, D.int.injEq, D.bl.injEq, D.str.injEq, D.tup.injEq, D.lst.injEq, D.own.injEq, decide_eq_true_eq, Bool.not_eq_true', decide_eq_false_iff_not, if_true, if_false, ite_true, ite_false, Bool.false_eq_true, reduceCtorEq, false_and, exists_false, Option.map_some, Option.map_none, Option.bind_some, Option.getD_some]
    refine ⟨by omega, D1.trans D2, ws ++ [as[i]], by rw [List.map_append]; rfl, by rw [List.length_append, l1]; rfl, fun z hz => ?_⟩
    rcases List.mem_append.mp hz with hz | hz
    · exact b1 z hz
    · rw [List.mem_singleton.mp hz]
      exact ha _ (List.getElem_mem hi)
  · rw [rangeL_len] at l1
    subst e1
    try simp only [w_var, w_con, w_glob, w_bin, w_neg, w_not, w_and, w_or, w_ifx, w_cmp, w_tup, w_frz, w_own, w_sub, w_slc, w_call, w_callk, w_bi, w_isi, w_me, w_tab, w_ono, w_oyes, w_nil, w_cons, w_tnil, w_tcons, w_disp, w_comp, w_cat, w_rep, w_nslc, w_rev, w_ival, w_irng, w_gname, w_gtup, w_gsub, w_gsnil, w_gscons, w_sexpr, w_asg, w_par, w_ret, w_retN, w_ifs, w_for, w_pass, w_brk, w_cont, w_snil, w_scons, nxt_nx, nxt_rt, nxt_bk, nxt_ct, fin_rt, fin_nx, is_ok, is_no, is_bind, is_guard, is_of, bin_addI, bin_addS, bin_addT, bin_sub, bin_mul, bin_mulT, bin_fdiv, bin_mod, bin_pow, look_int, look_str, look_bl, look_non, look_tup, look_lst, look_sq, items_tup, items_lst, items_sq, list_lst, list_sq, cmp_lt, cmp_le, cmp_gt, cmp_ge, cmp_eq, cmp_ne, eq_int, eq_str, eq_bl, cmp_isN, cmp_isB, cmp_isnot, cmp_inT, cmp_inL, cmp_ninL, sub_tup, sub_lst, sub_sq, atP0, atP1, atP2, atP3, atP4, atP5, len_tup, len_lst, len_sq, len_str, bi_abs, bi_int, bi_strI, bi_strS, bi_tupL, bi_tupT, bi_tupS, bi_max2, bi_min2, bi_all, bi_any, bi_sum, me_join, it_tup, it_lst, it_sq, slc_tup, opt_none, opt_some, cut1, exists_and_left, List.singleton_append, pick, isTupD, typed, isTy, wipeE, Int.reduceEq, Int.reduceLT, Int.reduceSub, Int.reduceNeg, ex_if, ex_some, ex_map, List.any_cons, List.any_nil, Bool.or_false, Bool.false_or, Bool.or_true, Bool.true_or, decide_true, decide_false, List.getElem?_cons_zero, List.getElem?_cons_succ, Option.some.injEq, exists_eq_left', exists_eq_left, exists_eq_right, true_and, and_true, List.map_cons, List.map_nil, List.set_cons_zero, List.set_cons_succ, List.length_cons, List.length_nil, List.cons_append, List.nil_append, List.reduceReplicate, Nat.reduceSub, Nat.reduceAdd, Nat.reduceLT, Nat.reduceLeDiff, Nat.zero_lt_succ, Nat.lt_add_left_iff_pos, Nat.succ_lt_succ_iff, D.int.injEq, D.bl.injEq, D.str.injEq, D.tup.injEq, D.lst.injEq, D.own.injEq, decide_eq_true_eq, Bool.not_eq_true', decide_eq_false_iff_not, if_true, if_false, ite_true, ite_false, Bool.false_eq_true, reduceCtorEq, false_and, exists_false, Option.map_some, Option.map_none, Option.bind_some, Option.getD_some]
    have D1 : Dr w k S S1 := ⟨D1.up, D1.len, D1.well.less (by omega)⟩
    have hlow : D.low S.length (.tup (ws.map wD)) = true := low_wish _ _
    rw [finish_dr D1 hlow, is_ok]
    exact ⟨ws, rfl, b1, by omega, D1⟩
def big : Nat := 409700
theorem cost12 : cost 12 = 409590 := by decide
theorem thing {most : Nat} {door : Int} (hw : 10 ^ 310 ≤ wf) (h1 : 1 ≤ most) (hm : most ≤ 300) (hd : door = 0 ∨ door = 1 ∨ door = 2 ∨ door = 3 ∨ door = 4 ∨ door = 5) (h : Well w (k + big) S) : (callF tab G wf (n + 20) 22 [.own w, .int door, .int most, .int 12] S).Is fun d S' => ∃ t : Th, d = .tup [thD t, .str (thS t)] ∧ thN t = door ∧ SmT t ∧ Dr w k S S' := by
  have hbig : big = 409700 := rfl
  have h12 := cost12
  have fin : ∀ (t : Th) (S' : Sto), D.low S.length (thD t) = true → thN t = door → SmT t → Dr w k S S' → (finish false S (.tup [thD t, .str (thS t)]) S').Is fun d S' => ∃ t : Th, d = .tup [thD t, .str (thS t)] ∧ thN t = door ∧ SmT t ∧ Dr w k S S' := fun t S' a b c e => by
    rw [finish_dr e (by simp only [D.low, D.lowL, a, Bool.and_self]), is_ok]
    exact ⟨t, rfl, b, c, e⟩
  rw [w_fn at22 rfl]
  simp only [f22, w_var, w_con, w_glob, w_bin, w_neg, w_not, w_and, w_or, w_ifx, w_cmp, w_tup, w_frz, w_own, w_sub, w_slc, w_call, w_callk, w_bi, w_isi, w_me, w_tab, w_ono, w_oyes, w_nil, w_cons, w_tnil, w_tcons, w_disp, w_comp, w_cat, w_rep, w_nslc, w_rev, w_ival, w_irng, w_gname, w_gtup, w_gsub, w_gsnil, w_gscons, w_sexpr, w_asg, w_par, w_ret, w_retN, w_ifs, w_for, w_pass, w_brk, w_cont, w_snil, w_scons, nxt_nx, nxt_rt, nxt_bk, nxt_ct, fin_rt, fin_nx, is_ok, is_no, is_bind, is_guard, is_of, bin_addI, bin_addS, bin_addT, bin_sub, bin_mul, bin_mulT, bin_fdiv, bin_mod, bin_pow, look_int, look_str, look_bl, look_non, look_tup, look_lst, look_sq, items_tup, items_lst, items_sq, list_lst, list_sq, cmp_lt, cmp_le, cmp_gt, cmp_ge, cmp_eq, cmp_ne, eq_int, eq_str, eq_bl, cmp_isN, cmp_isB, cmp_isnot, cmp_inT, cmp_inL, cmp_ninL, sub_tup, sub_lst, sub_sq, atP0, atP1, atP2, atP3, atP4, atP5, len_tup, len_lst, len_sq, len_str, bi_abs, bi_int, bi_strI, bi_strS, bi_tupL, bi_tupT, bi_tupS, bi_max2, bi_min2, bi_all, bi_any, bi_sum, me_join, it_tup, it_lst, it_sq, slc_tup, opt_none, opt_some, cut1, exists_and_left, List.singleton_append, pick, isTupD, typed, isTy, wipeE, Int.reduceEq, Int.reduceLT, Int.reduceSub, Int.reduceNeg, ex_if, ex_some, ex_map, List.any_cons, List.any_nil, Bool.or_false, Bool.false_or, Bool.or_true, Bool.true_or, decide_true, decide_false, List.getElem?_cons_zero, List.getElem?_cons_succ, Option.some.injEq, exists_eq_left', exists_eq_left, exists_eq_right, true_and, and_true, List.map_cons, List.map_nil, List.set_cons_zero, List.set_cons_succ, List.length_cons, List.length_nil, List.cons_append, List.nil_append, List.reduceReplicate, Nat.reduceSub, Nat.reduceAdd, Nat.reduceLT, Nat.reduceLeDiff, Nat.zero_lt_succ, Nat.lt_add_left_iff_pos, Nat.succ_lt_succ_iff, D.int.injEq, D.bl.injEq, D.str.injEq, D.tup.injEq, D.lst.injEq, D.own.injEq, decide_eq_true_eq, Bool.not_eq_true', decide_eq_false_iff_not, if_true, if_false, ite_true, ite_false, Bool.false_eq_true, reduceCtorEq, false_and, exists_false, Option.map_some, Option.map_none, Option.bind_some, Option.getD_some]
  refine ⟨by decide, (draw (m := 2) (by decide) (by decide) (h.less (j := k + 409602 + 1) (by omega))).mono fun d S1 ⟨v1, e1, a1, b1, D1⟩ => ?_⟩
  subst e1
  obtain ⟨z, hz, z1, z2⟩ : ∃ z : Int, atP [.int 3, .int 12] v1 = some (.int z) ∧ 1 ≤ z ∧ z ≤ 12 := by
    have : v1 = 0 ∨ v1 = 1 := by omega
    rcases this with rfl | rfl
    · exact ⟨3, rfl, by decide, by decide⟩
    · exact ⟨12, rfl, by decide, by decide⟩
  simp only [hz, w_var, w_con, w_glob, w_bin, w_neg, w_not, w_and, w_or, w_ifx, w_cmp, w_tup, w_frz, w_own, w_sub, w_slc, w_call, w_callk, w_bi, w_isi, w_me, w_tab, w_ono, w_oyes, w_nil, w_cons, w_tnil, w_tcons, w_disp, w_comp, w_cat, w_rep, w_nslc, w_rev, w_ival, w_irng, w_gname, w_gtup, w_gsub, w_gsnil, w_gscons, w_sexpr, w_asg, w_par, w_ret, w_retN, w_ifs, w_for, w_pass, w_brk, w_cont, w_snil, w_scons, nxt_nx, nxt_rt, nxt_bk, nxt_ct, fin_rt, fin_nx, is_ok, is_no, is_bind, is_guard, is_of, bin_addI, bin_addS, bin_addT, bin_sub, bin_mul, bin_mulT, bin_fdiv, bin_mod, bin_pow, look_int, look_str, look_bl, look_non, look_tup, look_lst, look_sq, items_tup, items_lst, items_sq, list_lst, list_sq, cmp_lt, cmp_le, cmp_gt, cmp_ge, cmp_eq, cmp_ne, eq_int, eq_str, eq_bl, cmp_isN, cmp_isB, cmp_isnot, cmp_inT, cmp_inL, cmp_ninL, sub_tup, sub_lst, sub_sq, atP0, atP1, atP2, atP3, atP4, atP5, len_tup, len_lst, len_sq, len_str, bi_abs, bi_int, bi_strI, bi_strS, bi_tupL, bi_tupT, bi_tupS, bi_max2, bi_min2, bi_all, bi_any, bi_sum, me_join, it_tup, it_lst, it_sq, slc_tup, opt_none, opt_some, cut1, exists_and_left, List.singleton_append, pick, isTupD, typed, isTy, wipeE, Int.reduceEq, Int.reduceLT, Int.reduceSub, Int.reduceNeg, ex_if, ex_some, ex_map, List.any_cons, List.any_nil, Bool.or_false, Bool.false_or, Bool.or_true, Bool.true_or, decide_true, decide_false, List.getElem?_cons_zero, List.getElem?_cons_succ, Option.some.injEq, exists_eq_left', exists_eq_left, exists_eq_right, true_and, and_true, List.map_cons, List.map_nil, List.set_cons_zero, List.set_cons_succ, List.length_cons, List.length_nil, List.cons_append, List.nil_append, List.reduceReplicate, Nat.reduceSub, Nat.reduceAdd, Nat.reduceLT, Nat.reduceLeDiff, Nat.zero_lt_succ, Nat.lt_add_left_iff_pos, Nat.succ_lt_succ_iff, D.int.injEq, D.bl.injEq, D.str.injEq, D.tup.injEq, D.lst.injEq, D.own.injEq, decide_eq_true_eq, Bool.not_eq_true', decide_eq_false_iff_not, if_true, if_false, ite_true, ite_false, Bool.false_eq_true, reduceCtorEq, false_and, exists_false, Option.map_some, Option.map_none, Option.bind_some, Option.getD_some]
  refine (draw (m := z) (by omega) (Nat.lt_trans (bits_of (k := 10) (by omega) (by omega) (by decide)) (by decide)) (D1.well.less (j := k + 409601 + 1) (by omega))).mono fun d S2 ⟨v2, e2, a2, b2, D2⟩ => ?_
  obtain ⟨dd', hdd'⟩ := Int.eq_ofNat_of_zero_le (show 0 ≤ 1 + v2 by omega)
  obtain ⟨dd, rfl⟩ : ∃ dd : Nat, dd = dd' := ⟨dd', rfl⟩
  subst e2
  have D2 := D1.trans D2
  simp only [hdd', w_var, w_con, w_glob, w_bin, w_neg, w_not, w_and, w_or, w_ifx, w_cmp, w_tup, w_frz, w_own, w_sub, w_slc, w_call, w_callk, w_bi, w_isi, w_me, w_tab, w_ono, w_oyes, w_nil, w_cons, w_tnil, w_tcons, w_disp, w_comp, w_cat, w_rep, w_nslc, w_rev, w_ival, w_irng, w_gname, w_gtup, w_gsub, w_gsnil, w_gscons, w_sexpr, w_asg, w_par, w_ret, w_retN, w_ifs, w_for, w_pass, w_brk, w_cont, w_snil, w_scons, nxt_nx, nxt_rt, nxt_bk, nxt_ct, fin_rt, fin_nx, is_ok, is_no, is_bind, is_guard, is_of, bin_addI, bin_addS, bin_addT, bin_sub, bin_mul, bin_mulT, bin_fdiv, bin_mod, bin_pow, look_int, look_str, look_bl, look_non, look_tup, look_lst, look_sq, items_tup, items_lst, items_sq, list_lst, list_sq, cmp_lt, cmp_le, cmp_gt, cmp_ge, cmp_eq, cmp_ne, eq_int, eq_str, eq_bl, cmp_isN, cmp_isB, cmp_isnot, cmp_inT, cmp_inL, cmp_ninL, sub_tup, sub_lst, sub_sq, atP0, atP1, atP2, atP3, atP4, atP5, len_tup, len_lst, len_sq, len_str, bi_abs, bi_int, bi_strI, bi_strS, bi_tupL, bi_tupT, bi_tupS, bi_max2, bi_min2, bi_all, bi_any, bi_sum, me_join, it_tup, it_lst, it_sq, slc_tup, opt_none, opt_some, cut1, exists_and_left, List.singleton_append, pick, isTupD, typed, isTy, wipeE, Int.reduceEq, Int.reduceLT, Int.reduceSub, Int.reduceNeg, ex_if, ex_some, ex_map, List.any_cons, List.any_nil, Bool.or_false, Bool.false_or, Bool.or_true, Bool.true_or, decide_true, decide_false, List.getElem?_cons_zero, List.getElem?_cons_succ, Option.some.injEq, exists_eq_left', exists_eq_left, exists_eq_right, true_and, and_true, List.map_cons, List.map_nil, List.set_cons_zero, List.set_cons_succ, List.length_cons, List.length_nil, List.cons_append, List.nil_append, List.reduceReplicate, Nat.reduceSub, Nat.reduceAdd, Nat.reduceLT, Nat.reduceLeDiff, Nat.zero_lt_succ, Nat.lt_add_left_iff_pos, Nat.succ_lt_succ_iff, D.int.injEq, D.bl.injEq, D.str.injEq, D.tup.injEq, D.lst.injEq, D.own.injEq, decide_eq_true_eq, Bool.not_eq_true', decide_eq_false_iff_not, if_true, if_false, ite_true, ite_false, Bool.false_eq_true, reduceCtorEq, false_and, exists_false, Option.map_some, Option.map_none, Option.bind_some, Option.getD_some]
  refine ⟨by decide, (draw (m := 4) (by decide) (by decide) (D2.well.less (j := k + 409600 + 1) (by omega))).mono fun d S3 ⟨v3, e3, a3, b3, D3⟩ => ?_⟩
  subst e3
  have D3 := D2.trans D3
  obtain ⟨many, hmn, hm20⟩ : ∃ many : Nat, atP [.int 0, .int 1, .int 6, .int 20] v3 = some (.int (many : Int)) ∧ many ≤ 20 := by
    have : v3 = 0 ∨ v3 = 1 ∨ v3 = 2 ∨ v3 = 3 := by omega
    rcases this with rfl | rfl | rfl | rfl
    · exact ⟨0, rfl, by decide⟩
    · exact ⟨1, rfl, by decide⟩
    · exact ⟨6, rfl, by decide⟩
    · exact ⟨20, rfl, by decide⟩
  have hd1 : 1 ≤ dd := by omega
  have hd2 : dd ≤ 12 := by omega
  rcases hd with rfl | rfl | rfl | rfl | rfl | rfl
  · simp only [hmn, w_var, w_con, w_glob, w_bin, w_neg, w_not, w_and, w_or, w_ifx, w_cmp, w_tup, w_frz, w_own, w_sub, w_slc, w_call, w_callk, w_bi, w_isi, w_me, w_tab, w_ono, w_oyes, w_nil, w_cons, w_tnil, w_tcons, w_disp, w_comp, w_cat, w_rep, w_nslc, w_rev, w_ival, w_irng, w_gname, w_gtup, w_gsub, w_gsnil, w_gscons, w_sexpr, w_asg, w_par, w_ret, w_retN, w_ifs, w_for, w_pass, w_brk, w_cont, w_snil, w_scons, nxt_nx, nxt_rt, nxt_bk, nxt_ct, fin_rt, fin_nx, is_ok, is_no, is_bind, is_guard, is_of, bin_addI, bin_addS, bin_addT, bin_sub, bin_mul, bin_mulT, bin_fdiv, bin_mod, bin_pow, look_int, look_str, look_bl, look_non, look_tup, look_lst, look_sq, items_tup, items_lst, items_sq, list_lst, list_sq, cmp_lt, cmp_le, cmp_gt, cmp_ge, cmp_eq, cmp_ne, eq_int, eq_str, eq_bl, cmp_isN, cmp_isB, cmp_isnot, cmp_inT, cmp_inL, cmp_ninL, sub_tup, sub_lst, sub_sq, atP0, atP1, atP2, atP3, atP4, atP5, len_tup, len_lst, len_sq, len_str, bi_abs, bi_int, bi_strI, bi_strS, bi_tupL, bi_tupT, bi_tupS, bi_max2, bi_min2, bi_all, bi_any, bi_sum, me_join, it_tup, it_lst, it_sq, slc_tup, opt_none, opt_some, cut1, exists_and_left, List.singleton_append, pick, isTupD, typed, isTy, wipeE, Int.reduceEq, Int.reduceLT, Int.reduceSub, Int.reduceNeg, ex_if, ex_some, ex_map, List.any_cons, List.any_nil, Bool.or_false, Bool.false_or, Bool.or_true, Bool.true_or, decide_true, decide_false, List.getElem?_cons_zero, List.getElem?_cons_succ, Option.some.injEq, exists_eq_left', exists_eq_left, exists_eq_right, true_and, and_true, List.map_cons, List.map_nil, List.set_cons_zero, List.set_cons_succ, List.length_cons, List.length_nil, List.cons_append, List.nil_append, List.reduceReplicate, Nat.reduceSub, Nat.reduceAdd, Nat.reduceLT, Nat.reduceLeDiff, Nat.zero_lt_succ, Nat.lt_add_left_iff_pos, Nat.succ_lt_succ_iff, D.int.injEq, D.bl.injEq, D.str.injEq, D.tup.injEq, D.lst.injEq, D.own.injEq, decide_eq_true_eq, Bool.not_eq_true', decide_eq_false_iff_not, if_true, if_false, ite_true, ite_false, Bool.false_eq_true, reduceCtorEq, false_and, exists_false, Option.map_some, Option.map_none, Option.bind_some, Option.getD_some]
    refine (number (n := n + 16) hw h1 hm (D3.well.less (j := k + 11) (by omega))).mono fun d S4 ⟨p, e4, hp, D4⟩ => ?_
    subst e4
    simp only [said_number (n := n + 18) hp, w_var, w_con, w_glob, w_bin, w_neg, w_not, w_and, w_or, w_ifx, w_cmp, w_tup, w_frz, w_own, w_sub, w_slc, w_call, w_callk, w_bi, w_isi, w_me, w_tab, w_ono, w_oyes, w_nil, w_cons, w_tnil, w_tcons, w_disp, w_comp, w_cat, w_rep, w_nslc, w_rev, w_ival, w_irng, w_gname, w_gtup, w_gsub, w_gsnil, w_gscons, w_sexpr, w_asg, w_par, w_ret, w_retN, w_ifs, w_for, w_pass, w_brk, w_cont, w_snil, w_scons, nxt_nx, nxt_rt, nxt_bk, nxt_ct, fin_rt, fin_nx, is_ok, is_no, is_bind, is_guard, is_of, bin_addI, bin_addS, bin_addT, bin_sub, bin_mul, bin_mulT, bin_fdiv, bin_mod, bin_pow, look_int, look_str, look_bl, look_non, look_tup, look_lst, look_sq, items_tup, items_lst, items_sq, list_lst, list_sq, cmp_lt, cmp_le, cmp_gt, cmp_ge, cmp_eq, cmp_ne, eq_int, eq_str, eq_bl, cmp_isN, cmp_isB, cmp_isnot, cmp_inT, cmp_inL, cmp_ninL, sub_tup, sub_lst, sub_sq, atP0, atP1, atP2, atP3, atP4, atP5, len_tup, len_lst, len_sq, len_str, bi_abs, bi_int, bi_strI, bi_strS, bi_tupL, bi_tupT, bi_tupS, bi_max2, bi_min2, bi_all, bi_any, bi_sum, me_join, it_tup, it_lst, it_sq, slc_tup, opt_none, opt_some, cut1, exists_and_left, List.singleton_append, pick, isTupD, typed, isTy, wipeE, Int.reduceEq, Int.reduceLT, Int.reduceSub, Int.reduceNeg, ex_if, ex_some, ex_map, List.any_cons, List.any_nil, Bool.or_false, Bool.false_or, Bool.or_true, Bool.true_or, decide_true, decide_false, List.getElem?_cons_zero, List.getElem?_cons_succ, Option.some.injEq, exists_eq_left', exists_eq_left, exists_eq_right, true_and, and_true, List.map_cons, List.map_nil, List.set_cons_zero, List.set_cons_succ, List.length_cons, List.length_nil, List.cons_append, List.nil_append, List.reduceReplicate, Nat.reduceSub, Nat.reduceAdd, Nat.reduceLT, Nat.reduceLeDiff, Nat.zero_lt_succ, Nat.lt_add_left_iff_pos, Nat.succ_lt_succ_iff, D.int.injEq, D.bl.injEq, D.str.injEq, D.tup.injEq, D.lst.injEq, D.own.injEq, decide_eq_true_eq, Bool.not_eq_true', decide_eq_false_iff_not, if_true, if_false, ite_true, ite_false, Bool.false_eq_true, reduceCtorEq, false_and, exists_false, Option.map_some, Option.map_none, Option.bind_some, Option.getD_some]
    exact ⟨by decide, fin (.num p) S4 rfl rfl hp (D3.trans D4)⟩
  · simp only [hmn, rng_nat (k := dd) (by unfold LIM; omega), w_var, w_con, w_glob, w_bin, w_neg, w_not, w_and, w_or, w_ifx, w_cmp, w_tup, w_frz, w_own, w_sub, w_slc, w_call, w_callk, w_bi, w_isi, w_me, w_tab, w_ono, w_oyes, w_nil, w_cons, w_tnil, w_tcons, w_disp, w_comp, w_cat, w_rep, w_nslc, w_rev, w_ival, w_irng, w_gname, w_gtup, w_gsub, w_gsnil, w_gscons, w_sexpr, w_asg, w_par, w_ret, w_retN, w_ifs, w_for, w_pass, w_brk, w_cont, w_snil, w_scons, nxt_nx, nxt_rt, nxt_bk, nxt_ct, fin_rt, fin_nx, is_ok, is_no, is_bind, is_guard, is_of, bin_addI, bin_addS, bin_addT, bin_sub, bin_mul, bin_mulT, bin_fdiv, bin_mod, bin_pow, look_int, look_str, look_bl, look_non, look_tup, look_lst, look_sq, items_tup, items_lst, items_sq, list_lst, list_sq, cmp_lt, cmp_le, cmp_gt, cmp_ge, cmp_eq, cmp_ne, eq_int, eq_str, eq_bl, cmp_isN, cmp_isB, cmp_isnot, cmp_inT, cmp_inL, cmp_ninL, sub_tup, sub_lst, sub_sq, atP0, atP1, atP2, atP3, atP4, atP5, len_tup, len_lst, len_sq, len_str, bi_abs, bi_int, bi_strI, bi_strS, bi_tupL, bi_tupT, bi_tupS, bi_max2, bi_min2, bi_all, bi_any, bi_sum, me_join, it_tup, it_lst, it_sq, slc_tup, opt_none, opt_some, cut1, exists_and_left, List.singleton_append, pick, isTupD, typed, isTy, wipeE, Int.reduceEq, Int.reduceLT, Int.reduceSub, Int.reduceNeg, ex_if, ex_some, ex_map, List.any_cons, List.any_nil, Bool.or_false, Bool.false_or, Bool.or_true, Bool.true_or, decide_true, decide_false, List.getElem?_cons_zero, List.getElem?_cons_succ, Option.some.injEq, exists_eq_left', exists_eq_left, exists_eq_right, true_and, and_true, List.map_cons, List.map_nil, List.set_cons_zero, List.set_cons_succ, List.length_cons, List.length_nil, List.cons_append, List.nil_append, List.reduceReplicate, Nat.reduceSub, Nat.reduceAdd, Nat.reduceLT, Nat.reduceLeDiff, Nat.zero_lt_succ, Nat.lt_add_left_iff_pos, Nat.succ_lt_succ_iff, D.int.injEq, D.bl.injEq, D.str.injEq, D.tup.injEq, D.lst.injEq, D.own.injEq, decide_eq_true_eq, Bool.not_eq_true', decide_eq_false_iff_not, if_true, if_false, ite_true, ite_false, Bool.false_eq_true, reduceCtorEq, false_and, exists_false, Option.map_some, Option.map_none, Option.bind_some, Option.getD_some]
    refine ⟨by rw [rangeL_len]; unfold LIM; omega, w_compL (fun j ds S' => j ≤ dd ∧ Dr w (k + 11 * (12 - j)) S S' ∧ ∃ ps : List (Int × Int), ds = ps.map nD ∧ ps.length = j ∧ ∀ p ∈ ps, SmN p) ⟨Nat.zero_le _, ⟨D3.up, D3.len, D3.well.less (by omega)⟩, [], rfl, rfl, fun _ h => by cases h⟩ (fun _ _ _ _ _ => ok_nil) (fun j x ds S' hx ⟨hj, D4, ps, e4, l4, b4⟩ => ?_) (fun ds S4 ⟨hj, D4, ps, e4, l4, b4⟩ => ?_)⟩
    · obtain ⟨rfl, hlt⟩ := rangeL_get hx
      subst e4
      try simp only [w_var, w_con, w_glob, w_bin, w_neg, w_not, w_and, w_or, w_ifx, w_cmp, w_tup, w_frz, w_own, w_sub, w_slc, w_call, w_callk, w_bi, w_isi, w_me, w_tab, w_ono, w_oyes, w_nil, w_cons, w_tnil, w_tcons, w_disp, w_comp, w_cat, w_rep, w_nslc, w_rev, w_ival, w_irng, w_gname, w_gtup, w_gsub, w_gsnil, w_gscons, w_sexpr, w_asg, w_par, w_ret, w_retN, w_ifs, w_for, w_pass, w_brk, w_cont, w_snil, w_scons, nxt_nx, nxt_rt, nxt_bk, nxt_ct, fin_rt, fin_nx, is_ok, is_no, is_bind, is_guard, is_of, bin_addI, bin_addS, bin_addT, bin_sub, bin_mul, bin_mulT, bin_fdiv, bin_mod, bin_pow, look_int, look_str, look_bl, look_non, look_tup, look_lst, look_sq, items_tup, items_lst, items_sq, list_lst, list_sq, cmp_lt, cmp_le, cmp_gt, cmp_ge, cmp_eq, cmp_ne, eq_int, eq_str, eq_bl, cmp_isN, cmp_isB, cmp_isnot, cmp_inT, cmp_inL, cmp_ninL, sub_tup, sub_lst, sub_sq, atP0, atP1, atP2, atP3, atP4, atP5, len_tup, len_lst, len_sq, len_str, bi_abs, bi_int, bi_strI, bi_strS, bi_tupL, bi_tupT, bi_tupS, bi_max2, bi_min2, bi_all, bi_any, bi_sum, me_join, it_tup, it_lst, it_sq, slc_tup, opt_none, opt_some, cut1, exists_and_left, List.singleton_append, pick, isTupD, typed, isTy, wipeE, Int.reduceEq, Int.reduceLT, Int.reduceSub, Int.reduceNeg, ex_if, ex_some, ex_map, List.any_cons, List.any_nil, Bool.or_false, Bool.false_or, Bool.or_true, Bool.true_or, decide_true, decide_false, List.getElem?_cons_zero, List.getElem?_cons_succ, Option.some.injEq, exists_eq_left', exists_eq_left, exists_eq_right, true_and, and_true, List.map_cons, List.map_nil, List.set_cons_zero, List.set_cons_succ, List.length_cons, List.length_nil, List.cons_append, List.nil_append, List.reduceReplicate, Nat.reduceSub, Nat.reduceAdd, Nat.reduceLT, Nat.reduceLeDiff, Nat.zero_lt_succ, Nat.lt_add_left_iff_pos, Nat.succ_lt_succ_iff, D.int.injEq, D.bl.injEq, D.str.injEq, D.tup.injEq, D.lst.injEq, D.own.injEq, decide_eq_true_eq, Bool.not_eq_true', decide_eq_false_iff_not, if_true, if_false, ite_true, ite_false, Bool.false_eq_true, reduceCtorEq, false_and, exists_false, Option.map_some, Option.map_none, Option.bind_some, Option.getD_some]
      refine (number (n := n + 16) hw h1 hm (D4.well.less (j := k + 11 * (12 - (j + 1)) + 11) (by omega))).mono fun d S5 ⟨p, e5, hp, D5⟩ => ?_
      subst e5
      refine ⟨by omega, D4.trans D5, ps ++ [p], by rw [List.map_append]; rfl, by rw [List.length_append, l4]; rfl, fun z hz => ?_⟩
      rcases List.mem_append.mp hz with hz | hz
      · exact b4 z hz
      · rw [List.mem_singleton.mp hz]
        exact hp
    · rw [rangeL_len] at l4
      subst e4
      have D4 : Dr w k S S4 := ⟨D4.up, D4.len, D4.well.less (by omega)⟩
      try simp only [w_var, w_con, w_glob, w_bin, w_neg, w_not, w_and, w_or, w_ifx, w_cmp, w_tup, w_frz, w_own, w_sub, w_slc, w_call, w_callk, w_bi, w_isi, w_me, w_tab, w_ono, w_oyes, w_nil, w_cons, w_tnil, w_tcons, w_disp, w_comp, w_cat, w_rep, w_nslc, w_rev, w_ival, w_irng, w_gname, w_gtup, w_gsub, w_gsnil, w_gscons, w_sexpr, w_asg, w_par, w_ret, w_retN, w_ifs, w_for, w_pass, w_brk, w_cont, w_snil, w_scons, nxt_nx, nxt_rt, nxt_bk, nxt_ct, fin_rt, fin_nx, is_ok, is_no, is_bind, is_guard, is_of, bin_addI, bin_addS, bin_addT, bin_sub, bin_mul, bin_mulT, bin_fdiv, bin_mod, bin_pow, look_int, look_str, look_bl, look_non, look_tup, look_lst, look_sq, items_tup, items_lst, items_sq, list_lst, list_sq, cmp_lt, cmp_le, cmp_gt, cmp_ge, cmp_eq, cmp_ne, eq_int, eq_str, eq_bl, cmp_isN, cmp_isB, cmp_isnot, cmp_inT, cmp_inL, cmp_ninL, sub_tup, sub_lst, sub_sq, atP0, atP1, atP2, atP3, atP4, atP5, len_tup, len_lst, len_sq, len_str, bi_abs, bi_int, bi_strI, bi_strS, bi_tupL, bi_tupT, bi_tupS, bi_max2, bi_min2, bi_all, bi_any, bi_sum, me_join, it_tup, it_lst, it_sq, slc_tup, opt_none, opt_some, cut1, exists_and_left, List.singleton_append, pick, isTupD, typed, isTy, wipeE, Int.reduceEq, Int.reduceLT, Int.reduceSub, Int.reduceNeg, ex_if, ex_some, ex_map, List.any_cons, List.any_nil, Bool.or_false, Bool.false_or, Bool.or_true, Bool.true_or, decide_true, decide_false, List.getElem?_cons_zero, List.getElem?_cons_succ, Option.some.injEq, exists_eq_left', exists_eq_left, exists_eq_right, true_and, and_true, List.map_cons, List.map_nil, List.set_cons_zero, List.set_cons_succ, List.length_cons, List.length_nil, List.cons_append, List.nil_append, List.reduceReplicate, Nat.reduceSub, Nat.reduceAdd, Nat.reduceLT, Nat.reduceLeDiff, Nat.zero_lt_succ, Nat.lt_add_left_iff_pos, Nat.succ_lt_succ_iff, D.int.injEq, D.bl.injEq, D.str.injEq, D.tup.injEq, D.lst.injEq, D.own.injEq, decide_eq_true_eq, Bool.not_eq_true', decide_eq_false_iff_not, if_true, if_false, ite_true, ite_false, Bool.false_eq_true, reduceCtorEq, false_and, exists_false, Option.map_some, Option.map_none, Option.bind_some, Option.getD_some]
      refine ⟨by rw [List.length_map]; unfold LIM; omega, Ev.comp_map ps nD (fun p => .str (sNum p)) rfl rfl (fun p hp => ?_) ?_⟩
      · simp only [said_number (n := n + 18) (b4 p hp), w_var, w_con, w_glob, w_bin, w_neg, w_not, w_and, w_or, w_ifx, w_cmp, w_tup, w_frz, w_own, w_sub, w_slc, w_call, w_callk, w_bi, w_isi, w_me, w_tab, w_ono, w_oyes, w_nil, w_cons, w_tnil, w_tcons, w_disp, w_comp, w_cat, w_rep, w_nslc, w_rev, w_ival, w_irng, w_gname, w_gtup, w_gsub, w_gsnil, w_gscons, w_sexpr, w_asg, w_par, w_ret, w_retN, w_ifs, w_for, w_pass, w_brk, w_cont, w_snil, w_scons, nxt_nx, nxt_rt, nxt_bk, nxt_ct, fin_rt, fin_nx, is_ok, is_no, is_bind, is_guard, is_of, bin_addI, bin_addS, bin_addT, bin_sub, bin_mul, bin_mulT, bin_fdiv, bin_mod, bin_pow, look_int, look_str, look_bl, look_non, look_tup, look_lst, look_sq, items_tup, items_lst, items_sq, list_lst, list_sq, cmp_lt, cmp_le, cmp_gt, cmp_ge, cmp_eq, cmp_ne, eq_int, eq_str, eq_bl, cmp_isN, cmp_isB, cmp_isnot, cmp_inT, cmp_inL, cmp_ninL, sub_tup, sub_lst, sub_sq, atP0, atP1, atP2, atP3, atP4, atP5, len_tup, len_lst, len_sq, len_str, bi_abs, bi_int, bi_strI, bi_strS, bi_tupL, bi_tupT, bi_tupS, bi_max2, bi_min2, bi_all, bi_any, bi_sum, me_join, it_tup, it_lst, it_sq, slc_tup, opt_none, opt_some, cut1, exists_and_left, List.singleton_append, pick, isTupD, typed, isTy, wipeE, Int.reduceEq, Int.reduceLT, Int.reduceSub, Int.reduceNeg, ex_if, ex_some, ex_map, List.any_cons, List.any_nil, Bool.or_false, Bool.false_or, Bool.or_true, Bool.true_or, decide_true, decide_false, List.getElem?_cons_zero, List.getElem?_cons_succ, Option.some.injEq, exists_eq_left', exists_eq_left, exists_eq_right, true_and, and_true, List.map_cons, List.map_nil, List.set_cons_zero, List.set_cons_succ, List.length_cons, List.length_nil, List.cons_append, List.nil_append, List.reduceReplicate, Nat.reduceSub, Nat.reduceAdd, Nat.reduceLT, Nat.reduceLeDiff, Nat.zero_lt_succ, Nat.lt_add_left_iff_pos, Nat.succ_lt_succ_iff, D.int.injEq, D.bl.injEq, D.str.injEq, D.tup.injEq, D.lst.injEq, D.own.injEq, decide_eq_true_eq, Bool.not_eq_true', decide_eq_false_iff_not, if_true, if_false, ite_true, ite_false, Bool.false_eq_true, reduceCtorEq, false_and, exists_false, Option.map_some, Option.map_none, Option.bind_some, Option.getD_some]
      · rw [strsOf_mapf]
        try simp only [w_var, w_con, w_glob, w_bin, w_neg, w_not, w_and, w_or, w_ifx, w_cmp, w_tup, w_frz, w_own, w_sub, w_slc, w_call, w_callk, w_bi, w_isi, w_me, w_tab, w_ono, w_oyes, w_nil, w_cons, w_tnil, w_tcons, w_disp, w_comp, w_cat, w_rep, w_nslc, w_rev, w_ival, w_irng, w_gname, w_gtup, w_gsub, w_gsnil, w_gscons, w_sexpr, w_asg, w_par, w_ret, w_retN, w_ifs, w_for, w_pass, w_brk, w_cont, w_snil, w_scons, nxt_nx, nxt_rt, nxt_bk, nxt_ct, fin_rt, fin_nx, is_ok, is_no, is_bind, is_guard, is_of, bin_addI, bin_addS, bin_addT, bin_sub, bin_mul, bin_mulT, bin_fdiv, bin_mod, bin_pow, look_int, look_str, look_bl, look_non, look_tup, look_lst, look_sq, items_tup, items_lst, items_sq, list_lst, list_sq, cmp_lt, cmp_le, cmp_gt, cmp_ge, cmp_eq, cmp_ne, eq_int, eq_str, eq_bl, cmp_isN, cmp_isB, cmp_isnot, cmp_inT, cmp_inL, cmp_ninL, sub_tup, sub_lst, sub_sq, atP0, atP1, atP2, atP3, atP4, atP5, len_tup, len_lst, len_sq, len_str, bi_abs, bi_int, bi_strI, bi_strS, bi_tupL, bi_tupT, bi_tupS, bi_max2, bi_min2, bi_all, bi_any, bi_sum, me_join, it_tup, it_lst, it_sq, slc_tup, opt_none, opt_some, cut1, exists_and_left, List.singleton_append, pick, isTupD, typed, isTy, wipeE, Int.reduceEq, Int.reduceLT, Int.reduceSub, Int.reduceNeg, ex_if, ex_some, ex_map, List.any_cons, List.any_nil, Bool.or_false, Bool.false_or, Bool.or_true, Bool.true_or, decide_true, decide_false, List.getElem?_cons_zero, List.getElem?_cons_succ, Option.some.injEq, exists_eq_left', exists_eq_left, exists_eq_right, true_and, and_true, List.map_cons, List.map_nil, List.set_cons_zero, List.set_cons_succ, List.length_cons, List.length_nil, List.cons_append, List.nil_append, List.reduceReplicate, Nat.reduceSub, Nat.reduceAdd, Nat.reduceLT, Nat.reduceLeDiff, Nat.zero_lt_succ, Nat.lt_add_left_iff_pos, Nat.succ_lt_succ_iff, D.int.injEq, D.bl.injEq, D.str.injEq, D.tup.injEq, D.lst.injEq, D.own.injEq, decide_eq_true_eq, Bool.not_eq_true', decide_eq_false_iff_not, if_true, if_false, ite_true, ite_false, Bool.false_eq_true, reduceCtorEq, false_and, exists_false, Option.map_some, Option.map_none, Option.bind_some, Option.getD_some]
        refine ⟨join_guard (m := 12) (b := 605) (c := 1) (fun x hx => ?_) (by rw [List.length_map]; omega) (Nat.le_refl _) (by decide), by decide, fin (.point ps) S4 (low_nums _ _) rfl ⟨b4, by omega⟩ D4⟩
        obtain ⟨p, hp, rfl⟩ := List.mem_map.mp hx
        exact sNum_len (b4 p hp)
  · have h3 : (D.tup [.int (-1), .int 0, .int 1]) = .tup ([some (-1), some 0, some 1].map wD) := rfl
    simp only [hmn, w_var, w_con, w_glob, w_bin, w_neg, w_not, w_and, w_or, w_ifx, w_cmp, w_tup, w_frz, w_own, w_sub, w_slc, w_call, w_callk, w_bi, w_isi, w_me, w_tab, w_ono, w_oyes, w_nil, w_cons, w_tnil, w_tcons, w_disp, w_comp, w_cat, w_rep, w_nslc, w_rev, w_ival, w_irng, w_gname, w_gtup, w_gsub, w_gsnil, w_gscons, w_sexpr, w_asg, w_par, w_ret, w_retN, w_ifs, w_for, w_pass, w_brk, w_cont, w_snil, w_scons, nxt_nx, nxt_rt, nxt_bk, nxt_ct, fin_rt, fin_nx, is_ok, is_no, is_bind, is_guard, is_of, bin_addI, bin_addS, bin_addT, bin_sub, bin_mul, bin_mulT, bin_fdiv, bin_mod, bin_pow, look_int, look_str, look_bl, look_non, look_tup, look_lst, look_sq, items_tup, items_lst, items_sq, list_lst, list_sq, cmp_lt, cmp_le, cmp_gt, cmp_ge, cmp_eq, cmp_ne, eq_int, eq_str, eq_bl, cmp_isN, cmp_isB, cmp_isnot, cmp_inT, cmp_inL, cmp_ninL, sub_tup, sub_lst, sub_sq, atP0, atP1, atP2, atP3, atP4, atP5, len_tup, len_lst, len_sq, len_str, bi_abs, bi_int, bi_strI, bi_strS, bi_tupL, bi_tupT, bi_tupS, bi_max2, bi_min2, bi_all, bi_any, bi_sum, me_join, it_tup, it_lst, it_sq, slc_tup, opt_none, opt_some, cut1, exists_and_left, List.singleton_append, pick, isTupD, typed, isTy, wipeE, Int.reduceEq, Int.reduceLT, Int.reduceSub, Int.reduceNeg, ex_if, ex_some, ex_map, List.any_cons, List.any_nil, Bool.or_false, Bool.false_or, Bool.or_true, Bool.true_or, decide_true, decide_false, List.getElem?_cons_zero, List.getElem?_cons_succ, Option.some.injEq, exists_eq_left', exists_eq_left, exists_eq_right, true_and, and_true, List.map_cons, List.map_nil, List.set_cons_zero, List.set_cons_succ, List.length_cons, List.length_nil, List.cons_append, List.nil_append, List.reduceReplicate, Nat.reduceSub, Nat.reduceAdd, Nat.reduceLT, Nat.reduceLeDiff, Nat.zero_lt_succ, Nat.lt_add_left_iff_pos, Nat.succ_lt_succ_iff, D.int.injEq, D.bl.injEq, D.str.injEq, D.tup.injEq, D.lst.injEq, D.own.injEq, decide_eq_true_eq, Bool.not_eq_true', decide_eq_false_iff_not, if_true, if_false, ite_true, ite_false, Bool.false_eq_true, reduceCtorEq, false_and, exists_false, Option.map_some, Option.map_none, Option.bind_some, Option.getD_some]
    refine ⟨by decide, by decide, by decide, ?_⟩
    rw [h3]
    refine (wish (n := n + 17) (fun a ha => ?_) (by simp) (by decide) hm20 (D3.well.less (j := k + 20) (by omega))).mono fun d S4 ⟨ws, e4, hws, hl, D4⟩ => ?_
    · unfold Sign
      simp at ha
      rcases ha with rfl | rfl | rfl <;> simp
    · subst e4
      simp only [said_wish (n := n + 18) hws hl, w_var, w_con, w_glob, w_bin, w_neg, w_not, w_and, w_or, w_ifx, w_cmp, w_tup, w_frz, w_own, w_sub, w_slc, w_call, w_callk, w_bi, w_isi, w_me, w_tab, w_ono, w_oyes, w_nil, w_cons, w_tnil, w_tcons, w_disp, w_comp, w_cat, w_rep, w_nslc, w_rev, w_ival, w_irng, w_gname, w_gtup, w_gsub, w_gsnil, w_gscons, w_sexpr, w_asg, w_par, w_ret, w_retN, w_ifs, w_for, w_pass, w_brk, w_cont, w_snil, w_scons, nxt_nx, nxt_rt, nxt_bk, nxt_ct, fin_rt, fin_nx, is_ok, is_no, is_bind, is_guard, is_of, bin_addI, bin_addS, bin_addT, bin_sub, bin_mul, bin_mulT, bin_fdiv, bin_mod, bin_pow, look_int, look_str, look_bl, look_non, look_tup, look_lst, look_sq, items_tup, items_lst, items_sq, list_lst, list_sq, cmp_lt, cmp_le, cmp_gt, cmp_ge, cmp_eq, cmp_ne, eq_int, eq_str, eq_bl, cmp_isN, cmp_isB, cmp_isnot, cmp_inT, cmp_inL, cmp_ninL, sub_tup, sub_lst, sub_sq, atP0, atP1, atP2, atP3, atP4, atP5, len_tup, len_lst, len_sq, len_str, bi_abs, bi_int, bi_strI, bi_strS, bi_tupL, bi_tupT, bi_tupS, bi_max2, bi_min2, bi_all, bi_any, bi_sum, me_join, it_tup, it_lst, it_sq, slc_tup, opt_none, opt_some, cut1, exists_and_left, List.singleton_append, pick, isTupD, typed, isTy, wipeE, Int.reduceEq, Int.reduceLT, Int.reduceSub, Int.reduceNeg, ex_if, ex_some, ex_map, List.any_cons, List.any_nil, Bool.or_false, Bool.false_or, Bool.or_true, Bool.true_or, decide_true, decide_false, List.getElem?_cons_zero, List.getElem?_cons_succ, Option.some.injEq, exists_eq_left', exists_eq_left, exists_eq_right, true_and, and_true, List.map_cons, List.map_nil, List.set_cons_zero, List.set_cons_succ, List.length_cons, List.length_nil, List.cons_append, List.nil_append, List.reduceReplicate, Nat.reduceSub, Nat.reduceAdd, Nat.reduceLT, Nat.reduceLeDiff, Nat.zero_lt_succ, Nat.lt_add_left_iff_pos, Nat.succ_lt_succ_iff, D.int.injEq, D.bl.injEq, D.str.injEq, D.tup.injEq, D.lst.injEq, D.own.injEq, decide_eq_true_eq, Bool.not_eq_true', decide_eq_false_iff_not, if_true, if_false, ite_true, ite_false, Bool.false_eq_true, reduceCtorEq, false_and, exists_false, Option.map_some, Option.map_none, Option.bind_some, Option.getD_some]
      exact ⟨by decide, fin (.row ws) S4 (low_wish _ _) rfl ⟨hws, hl⟩ (D3.trans D4)⟩
  · have h3 : (D.tup [.int (-1), .int 0, .int 1, .non]) = .tup ([some (-1), some 0, some 1, none].map wD) := rfl
    simp only [hmn, w_var, w_con, w_glob, w_bin, w_neg, w_not, w_and, w_or, w_ifx, w_cmp, w_tup, w_frz, w_own, w_sub, w_slc, w_call, w_callk, w_bi, w_isi, w_me, w_tab, w_ono, w_oyes, w_nil, w_cons, w_tnil, w_tcons, w_disp, w_comp, w_cat, w_rep, w_nslc, w_rev, w_ival, w_irng, w_gname, w_gtup, w_gsub, w_gsnil, w_gscons, w_sexpr, w_asg, w_par, w_ret, w_retN, w_ifs, w_for, w_pass, w_brk, w_cont, w_snil, w_scons, nxt_nx, nxt_rt, nxt_bk, nxt_ct, fin_rt, fin_nx, is_ok, is_no, is_bind, is_guard, is_of, bin_addI, bin_addS, bin_addT, bin_sub, bin_mul, bin_mulT, bin_fdiv, bin_mod, bin_pow, look_int, look_str, look_bl, look_non, look_tup, look_lst, look_sq, items_tup, items_lst, items_sq, list_lst, list_sq, cmp_lt, cmp_le, cmp_gt, cmp_ge, cmp_eq, cmp_ne, eq_int, eq_str, eq_bl, cmp_isN, cmp_isB, cmp_isnot, cmp_inT, cmp_inL, cmp_ninL, sub_tup, sub_lst, sub_sq, atP0, atP1, atP2, atP3, atP4, atP5, len_tup, len_lst, len_sq, len_str, bi_abs, bi_int, bi_strI, bi_strS, bi_tupL, bi_tupT, bi_tupS, bi_max2, bi_min2, bi_all, bi_any, bi_sum, me_join, it_tup, it_lst, it_sq, slc_tup, opt_none, opt_some, cut1, exists_and_left, List.singleton_append, pick, isTupD, typed, isTy, wipeE, Int.reduceEq, Int.reduceLT, Int.reduceSub, Int.reduceNeg, ex_if, ex_some, ex_map, List.any_cons, List.any_nil, Bool.or_false, Bool.false_or, Bool.or_true, Bool.true_or, decide_true, decide_false, List.getElem?_cons_zero, List.getElem?_cons_succ, Option.some.injEq, exists_eq_left', exists_eq_left, exists_eq_right, true_and, and_true, List.map_cons, List.map_nil, List.set_cons_zero, List.set_cons_succ, List.length_cons, List.length_nil, List.cons_append, List.nil_append, List.reduceReplicate, Nat.reduceSub, Nat.reduceAdd, Nat.reduceLT, Nat.reduceLeDiff, Nat.zero_lt_succ, Nat.lt_add_left_iff_pos, Nat.succ_lt_succ_iff, D.int.injEq, D.bl.injEq, D.str.injEq, D.tup.injEq, D.lst.injEq, D.own.injEq, decide_eq_true_eq, Bool.not_eq_true', decide_eq_false_iff_not, if_true, if_false, ite_true, ite_false, Bool.false_eq_true, reduceCtorEq, false_and, exists_false, Option.map_some, Option.map_none, Option.bind_some, Option.getD_some]
    refine ⟨by decide, by decide, by decide, ?_⟩
    rw [h3]
    refine (wish (n := n + 17) (fun a ha => ?_) (by simp) (by decide) hm20 (D3.well.less (j := k + 20) (by omega))).mono fun d S4 ⟨ws, e4, hws, hl, D4⟩ => ?_
    · unfold Sign
      simp at ha
      rcases ha with rfl | rfl | rfl | rfl <;> simp
    · subst e4
      simp only [said_wish (n := n + 18) hws hl, w_var, w_con, w_glob, w_bin, w_neg, w_not, w_and, w_or, w_ifx, w_cmp, w_tup, w_frz, w_own, w_sub, w_slc, w_call, w_callk, w_bi, w_isi, w_me, w_tab, w_ono, w_oyes, w_nil, w_cons, w_tnil, w_tcons, w_disp, w_comp, w_cat, w_rep, w_nslc, w_rev, w_ival, w_irng, w_gname, w_gtup, w_gsub, w_gsnil, w_gscons, w_sexpr, w_asg, w_par, w_ret, w_retN, w_ifs, w_for, w_pass, w_brk, w_cont, w_snil, w_scons, nxt_nx, nxt_rt, nxt_bk, nxt_ct, fin_rt, fin_nx, is_ok, is_no, is_bind, is_guard, is_of, bin_addI, bin_addS, bin_addT, bin_sub, bin_mul, bin_mulT, bin_fdiv, bin_mod, bin_pow, look_int, look_str, look_bl, look_non, look_tup, look_lst, look_sq, items_tup, items_lst, items_sq, list_lst, list_sq, cmp_lt, cmp_le, cmp_gt, cmp_ge, cmp_eq, cmp_ne, eq_int, eq_str, eq_bl, cmp_isN, cmp_isB, cmp_isnot, cmp_inT, cmp_inL, cmp_ninL, sub_tup, sub_lst, sub_sq, atP0, atP1, atP2, atP3, atP4, atP5, len_tup, len_lst, len_sq, len_str, bi_abs, bi_int, bi_strI, bi_strS, bi_tupL, bi_tupT, bi_tupS, bi_max2, bi_min2, bi_all, bi_any, bi_sum, me_join, it_tup, it_lst, it_sq, slc_tup, opt_none, opt_some, cut1, exists_and_left, List.singleton_append, pick, isTupD, typed, isTy, wipeE, Int.reduceEq, Int.reduceLT, Int.reduceSub, Int.reduceNeg, ex_if, ex_some, ex_map, List.any_cons, List.any_nil, Bool.or_false, Bool.false_or, Bool.or_true, Bool.true_or, decide_true, decide_false, List.getElem?_cons_zero, List.getElem?_cons_succ, Option.some.injEq, exists_eq_left', exists_eq_left, exists_eq_right, true_and, and_true, List.map_cons, List.map_nil, List.set_cons_zero, List.set_cons_succ, List.length_cons, List.length_nil, List.cons_append, List.nil_append, List.reduceReplicate, Nat.reduceSub, Nat.reduceAdd, Nat.reduceLT, Nat.reduceLeDiff, Nat.zero_lt_succ, Nat.lt_add_left_iff_pos, Nat.succ_lt_succ_iff, D.int.injEq, D.bl.injEq, D.str.injEq, D.tup.injEq, D.lst.injEq, D.own.injEq, decide_eq_true_eq, Bool.not_eq_true', decide_eq_false_iff_not, if_true, if_false, ite_true, ite_false, Bool.false_eq_true, reduceCtorEq, false_and, exists_false, Option.map_some, Option.map_none, Option.bind_some, Option.getD_some]
      exact ⟨by decide, fin (.wish ws) S4 (low_wish _ _) rfl ⟨hws, hl⟩ (D3.trans D4)⟩
  · simp only [hmn, w_var, w_con, w_glob, w_bin, w_neg, w_not, w_and, w_or, w_ifx, w_cmp, w_tup, w_frz, w_own, w_sub, w_slc, w_call, w_callk, w_bi, w_isi, w_me, w_tab, w_ono, w_oyes, w_nil, w_cons, w_tnil, w_tcons, w_disp, w_comp, w_cat, w_rep, w_nslc, w_rev, w_ival, w_irng, w_gname, w_gtup, w_gsub, w_gsnil, w_gscons, w_sexpr, w_asg, w_par, w_ret, w_retN, w_ifs, w_for, w_pass, w_brk, w_cont, w_snil, w_scons, nxt_nx, nxt_rt, nxt_bk, nxt_ct, fin_rt, fin_nx, is_ok, is_no, is_bind, is_guard, is_of, bin_addI, bin_addS, bin_addT, bin_sub, bin_mul, bin_mulT, bin_fdiv, bin_mod, bin_pow, look_int, look_str, look_bl, look_non, look_tup, look_lst, look_sq, items_tup, items_lst, items_sq, list_lst, list_sq, cmp_lt, cmp_le, cmp_gt, cmp_ge, cmp_eq, cmp_ne, eq_int, eq_str, eq_bl, cmp_isN, cmp_isB, cmp_isnot, cmp_inT, cmp_inL, cmp_ninL, sub_tup, sub_lst, sub_sq, atP0, atP1, atP2, atP3, atP4, atP5, len_tup, len_lst, len_sq, len_str, bi_abs, bi_int, bi_strI, bi_strS, bi_tupL, bi_tupT, bi_tupS, bi_max2, bi_min2, bi_all, bi_any, bi_sum, me_join, it_tup, it_lst, it_sq, slc_tup, opt_none, opt_some, cut1, exists_and_left, List.singleton_append, pick, isTupD, typed, isTy, wipeE, Int.reduceEq, Int.reduceLT, Int.reduceSub, Int.reduceNeg, ex_if, ex_some, ex_map, List.any_cons, List.any_nil, Bool.or_false, Bool.false_or, Bool.or_true, Bool.true_or, decide_true, decide_false, List.getElem?_cons_zero, List.getElem?_cons_succ, Option.some.injEq, exists_eq_left', exists_eq_left, exists_eq_right, true_and, and_true, List.map_cons, List.map_nil, List.set_cons_zero, List.set_cons_succ, List.length_cons, List.length_nil, List.cons_append, List.nil_append, List.reduceReplicate, Nat.reduceSub, Nat.reduceAdd, Nat.reduceLT, Nat.reduceLeDiff, Nat.zero_lt_succ, Nat.lt_add_left_iff_pos, Nat.succ_lt_succ_iff, D.int.injEq, D.bl.injEq, D.str.injEq, D.tup.injEq, D.lst.injEq, D.own.injEq, decide_eq_true_eq, Bool.not_eq_true', decide_eq_false_iff_not, if_true, if_false, ite_true, ite_false, Bool.false_eq_true, reduceCtorEq, false_and, exists_false, Option.map_some, Option.map_none, Option.bind_some, Option.getD_some]
    refine (book (n := n + 15) hw h1 hm hd1 hd2 hm20 (D3.well.less (j := k + 1400) (by omega))).mono fun d S4 ⟨b, e4, hb, D4⟩ => ?_
    subst e4
    simp only [said_book (n := n + 17) hb, w_var, w_con, w_glob, w_bin, w_neg, w_not, w_and, w_or, w_ifx, w_cmp, w_tup, w_frz, w_own, w_sub, w_slc, w_call, w_callk, w_bi, w_isi, w_me, w_tab, w_ono, w_oyes, w_nil, w_cons, w_tnil, w_tcons, w_disp, w_comp, w_cat, w_rep, w_nslc, w_rev, w_ival, w_irng, w_gname, w_gtup, w_gsub, w_gsnil, w_gscons, w_sexpr, w_asg, w_par, w_ret, w_retN, w_ifs, w_for, w_pass, w_brk, w_cont, w_snil, w_scons, nxt_nx, nxt_rt, nxt_bk, nxt_ct, fin_rt, fin_nx, is_ok, is_no, is_bind, is_guard, is_of, bin_addI, bin_addS, bin_addT, bin_sub, bin_mul, bin_mulT, bin_fdiv, bin_mod, bin_pow, look_int, look_str, look_bl, look_non, look_tup, look_lst, look_sq, items_tup, items_lst, items_sq, list_lst, list_sq, cmp_lt, cmp_le, cmp_gt, cmp_ge, cmp_eq, cmp_ne, eq_int, eq_str, eq_bl, cmp_isN, cmp_isB, cmp_isnot, cmp_inT, cmp_inL, cmp_ninL, sub_tup, sub_lst, sub_sq, atP0, atP1, atP2, atP3, atP4, atP5, len_tup, len_lst, len_sq, len_str, bi_abs, bi_int, bi_strI, bi_strS, bi_tupL, bi_tupT, bi_tupS, bi_max2, bi_min2, bi_all, bi_any, bi_sum, me_join, it_tup, it_lst, it_sq, slc_tup, opt_none, opt_some, cut1, exists_and_left, List.singleton_append, pick, isTupD, typed, isTy, wipeE, Int.reduceEq, Int.reduceLT, Int.reduceSub, Int.reduceNeg, ex_if, ex_some, ex_map, List.any_cons, List.any_nil, Bool.or_false, Bool.false_or, Bool.or_true, Bool.true_or, decide_true, decide_false, List.getElem?_cons_zero, List.getElem?_cons_succ, Option.some.injEq, exists_eq_left', exists_eq_left, exists_eq_right, true_and, and_true, List.map_cons, List.map_nil, List.set_cons_zero, List.set_cons_succ, List.length_cons, List.length_nil, List.cons_append, List.nil_append, List.reduceReplicate, Nat.reduceSub, Nat.reduceAdd, Nat.reduceLT, Nat.reduceLeDiff, Nat.zero_lt_succ, Nat.lt_add_left_iff_pos, Nat.succ_lt_succ_iff, D.int.injEq, D.bl.injEq, D.str.injEq, D.tup.injEq, D.lst.injEq, D.own.injEq, decide_eq_true_eq, Bool.not_eq_true', decide_eq_false_iff_not, if_true, if_false, ite_true, ite_false, Bool.false_eq_true, reduceCtorEq, false_and, exists_false, Option.map_some, Option.map_none, Option.bind_some, Option.getD_some]
    refine ⟨by decide, fin (.book b) S4 ?_ rfl hb (D3.trans D4)⟩
    simp only [thD, bD, D.low, D.lowL, Bool.true_and, Bool.and_true]
    exact lowL_q _ _
  · simp only [hmn, w_var, w_con, w_glob, w_bin, w_neg, w_not, w_and, w_or, w_ifx, w_cmp, w_tup, w_frz, w_own, w_sub, w_slc, w_call, w_callk, w_bi, w_isi, w_me, w_tab, w_ono, w_oyes, w_nil, w_cons, w_tnil, w_tcons, w_disp, w_comp, w_cat, w_rep, w_nslc, w_rev, w_ival, w_irng, w_gname, w_gtup, w_gsub, w_gsnil, w_gscons, w_sexpr, w_asg, w_par, w_ret, w_retN, w_ifs, w_for, w_pass, w_brk, w_cont, w_snil, w_scons, nxt_nx, nxt_rt, nxt_bk, nxt_ct, fin_rt, fin_nx, is_ok, is_no, is_bind, is_guard, is_of, bin_addI, bin_addS, bin_addT, bin_sub, bin_mul, bin_mulT, bin_fdiv, bin_mod, bin_pow, look_int, look_str, look_bl, look_non, look_tup, look_lst, look_sq, items_tup, items_lst, items_sq, list_lst, list_sq, cmp_lt, cmp_le, cmp_gt, cmp_ge, cmp_eq, cmp_ne, eq_int, eq_str, eq_bl, cmp_isN, cmp_isB, cmp_isnot, cmp_inT, cmp_inL, cmp_ninL, sub_tup, sub_lst, sub_sq, atP0, atP1, atP2, atP3, atP4, atP5, len_tup, len_lst, len_sq, len_str, bi_abs, bi_int, bi_strI, bi_strS, bi_tupL, bi_tupT, bi_tupS, bi_max2, bi_min2, bi_all, bi_any, bi_sum, me_join, it_tup, it_lst, it_sq, slc_tup, opt_none, opt_some, cut1, exists_and_left, List.singleton_append, pick, isTupD, typed, isTy, wipeE, Int.reduceEq, Int.reduceLT, Int.reduceSub, Int.reduceNeg, ex_if, ex_some, ex_map, List.any_cons, List.any_nil, Bool.or_false, Bool.false_or, Bool.or_true, Bool.true_or, decide_true, decide_false, List.getElem?_cons_zero, List.getElem?_cons_succ, Option.some.injEq, exists_eq_left', exists_eq_left, exists_eq_right, true_and, and_true, List.map_cons, List.map_nil, List.set_cons_zero, List.set_cons_succ, List.length_cons, List.length_nil, List.cons_append, List.nil_append, List.reduceReplicate, Nat.reduceSub, Nat.reduceAdd, Nat.reduceLT, Nat.reduceLeDiff, Nat.zero_lt_succ, Nat.lt_add_left_iff_pos, Nat.succ_lt_succ_iff, D.int.injEq, D.bl.injEq, D.str.injEq, D.tup.injEq, D.lst.injEq, D.own.injEq, decide_eq_true_eq, Bool.not_eq_true', decide_eq_false_iff_not, if_true, if_false, ite_true, ite_false, Bool.false_eq_true, reduceCtorEq, false_and, exists_false, Option.map_some, Option.map_none, Option.bind_some, Option.getD_some]
    refine ⟨by decide, (draw (m := 4) (by decide) (by decide) (D3.well.less (j := k + 409590 + 1) (by omega))).mono fun d S4 ⟨v4, e4, a4, b4, D4⟩ => ?_⟩
    subst e4
    have D4 := D3.trans D4
    obtain ⟨j, hj, j1, j12⟩ : ∃ j : Nat, atP [.int 1, .int 2, .int 4, .int 12] v4 = some (.int (j : Int)) ∧ 1 ≤ j ∧ j ≤ 12 := by
      have : v4 = 0 ∨ v4 = 1 ∨ v4 = 2 ∨ v4 = 3 := by omega
      rcases this with rfl | rfl | rfl | rfl
      · exact ⟨1, rfl, by decide, by decide⟩
      · exact ⟨2, rfl, by decide, by decide⟩
      · exact ⟨4, rfl, by decide, by decide⟩
      · exact ⟨12, rfl, by decide, by decide⟩
    have hcj := cost_mono j12
    have e19 : n + 19 = (n + 14 - j) + j + 5 := by omega
    simp only [hj, w_var, w_con, w_glob, w_bin, w_neg, w_not, w_and, w_or, w_ifx, w_cmp, w_tup, w_frz, w_own, w_sub, w_slc, w_call, w_callk, w_bi, w_isi, w_me, w_tab, w_ono, w_oyes, w_nil, w_cons, w_tnil, w_tcons, w_disp, w_comp, w_cat, w_rep, w_nslc, w_rev, w_ival, w_irng, w_gname, w_gtup, w_gsub, w_gsnil, w_gscons, w_sexpr, w_asg, w_par, w_ret, w_retN, w_ifs, w_for, w_pass, w_brk, w_cont, w_snil, w_scons, nxt_nx, nxt_rt, nxt_bk, nxt_ct, fin_rt, fin_nx, is_ok, is_no, is_bind, is_guard, is_of, bin_addI, bin_addS, bin_addT, bin_sub, bin_mul, bin_mulT, bin_fdiv, bin_mod, bin_pow, look_int, look_str, look_bl, look_non, look_tup, look_lst, look_sq, items_tup, items_lst, items_sq, list_lst, list_sq, cmp_lt, cmp_le, cmp_gt, cmp_ge, cmp_eq, cmp_ne, eq_int, eq_str, eq_bl, cmp_isN, cmp_isB, cmp_isnot, cmp_inT, cmp_inL, cmp_ninL, sub_tup, sub_lst, sub_sq, atP0, atP1, atP2, atP3, atP4, atP5, len_tup, len_lst, len_sq, len_str, bi_abs, bi_int, bi_strI, bi_strS, bi_tupL, bi_tupT, bi_tupS, bi_max2, bi_min2, bi_all, bi_any, bi_sum, me_join, it_tup, it_lst, it_sq, slc_tup, opt_none, opt_some, cut1, exists_and_left, List.singleton_append, pick, isTupD, typed, isTy, wipeE, Int.reduceEq, Int.reduceLT, Int.reduceSub, Int.reduceNeg, ex_if, ex_some, ex_map, List.any_cons, List.any_nil, Bool.or_false, Bool.false_or, Bool.or_true, Bool.true_or, decide_true, decide_false, List.getElem?_cons_zero, List.getElem?_cons_succ, Option.some.injEq, exists_eq_left', exists_eq_left, exists_eq_right, true_and, and_true, List.map_cons, List.map_nil, List.set_cons_zero, List.set_cons_succ, List.length_cons, List.length_nil, List.cons_append, List.nil_append, List.reduceReplicate, Nat.reduceSub, Nat.reduceAdd, Nat.reduceLT, Nat.reduceLeDiff, Nat.zero_lt_succ, Nat.lt_add_left_iff_pos, Nat.succ_lt_succ_iff, D.int.injEq, D.bl.injEq, D.str.injEq, D.tup.injEq, D.lst.injEq, D.own.injEq, decide_eq_true_eq, Bool.not_eq_true', decide_eq_false_iff_not, if_true, if_false, ite_true, ite_false, Bool.false_eq_true, reduceCtorEq, false_and, exists_false, Option.map_some, Option.map_none, Option.bind_some, Option.getD_some]
    rw [e19]
    refine (deep h1 hm hd1 hd2 j j1 j12 (n + 14 - j) k S4 (D4.well.less (by omega))).mono fun d S5 ⟨s, e5, hs, D5⟩ => ?_
    subst e5
    have hs := hs.mono j12
    have e19' : (n + 14 - j) + j + 5 = (n + 5) + 12 + 2 := by omega
    rw [e19', said_saying hs (Nat.le_refl _), is_ok]
    exact ⟨by decide, fin (.say s) S5 (low_say _ _) rfl hs (D4.trans D5)⟩
end K47

namespace K47
open PySem Ev
variable {wf n : Nat} {S : Sto} {w k : Nat}
/-! ### the wells -/
def WellNew (S : Sto) (d : D) (S' : Sto) : Prop := ∃ x y : Int, 0 ≤ x ∧ 0 ≤ y ∧ y < 10 ^ 26 ∧ d = .own S.length ∧ S' = S ++ [wellO x y 0]
theorem well {ns : List Int} {p : Nat} (hb : ∀ z ∈ ns, bits z < 2000000) (hl : ns.length ≤ 63) (hp : p < 63) : (callF tab G wf (n + 1) 8 [.sq (ns.map D.int), .int p] S).Is fun d S' => WellNew S d S' := by
  have hpb : bits (p : Int) < BIG := Nat.lt_trans (bits_of (k := 6) (by omega) (by omega) (by decide)) (by decide)
  have hpm : mulOk (p : Int) 179424691 = true := mul_ok hpb (by decide)
  have fin : ∀ x y : Int, 0 ≤ x → 0 ≤ y → y < 10 ^ 25 + 13 → (finish true S (.own S.length) (S ++ [.lst [.int x, .int y, .int 0]])).Is fun d S' => WellNew S d S' := fun x y hx hy hy2 => by
    show (finish true S _ (S ++ [wellO x y 0])).Is _
    rw [finish_keep (low_well _ x y 0), is_ok]
    exact ⟨x, y, hx, hy, by omega, rfl, rfl⟩
  have hm : (0 : Int) < 10 ^ Int.toNat 25 + 13 := by decide
  rw [w_fn at8 rfl]
  by_cases h : p < ns.length
  · have hat : atP (ns.map D.int) (p : Int) = some (.int ns[p]) := by
      rw [atP_nat, List.getElem?_map, List.getElem?_eq_getElem h]
      rfl
    have hc : mulOk ns[p] 86028157 = true := mul_ok (Nat.lt_trans (hb _ (List.getElem_mem h)) (by decide)) (by decide)
    have hlt : ((p : Int) < ((ns.map D.int).length : Nat)) := by rw [List.length_map]; omega
    simp only [f8, hlt, hat, hc, hpm, w_var, w_con, w_glob, w_bin, w_neg, w_not, w_and, w_or, w_ifx, w_cmp, w_tup, w_frz, w_own, w_sub, w_slc, w_call, w_callk, w_bi, w_isi, w_me, w_tab, w_ono, w_oyes, w_nil, w_cons, w_tnil, w_tcons, w_disp, w_comp, w_cat, w_rep, w_nslc, w_rev, w_ival, w_irng, w_gname, w_gtup, w_gsub, w_gsnil, w_gscons, w_sexpr, w_asg, w_par, w_ret, w_retN, w_ifs, w_for, w_pass, w_brk, w_cont, w_snil, w_scons, nxt_nx, nxt_rt, nxt_bk, nxt_ct, fin_rt, fin_nx, is_ok, is_no, is_bind, is_guard, is_of, bin_addI, bin_addS, bin_addT, bin_sub, bin_mul, bin_mulT, bin_fdiv, bin_mod, bin_pow, look_int, look_str, look_bl, look_non, look_tup, look_lst, look_sq, items_tup, items_lst, items_sq, list_lst, list_sq, cmp_lt, cmp_le, cmp_gt, cmp_ge, cmp_eq, cmp_ne, eq_int, eq_str, eq_bl, cmp_isN, cmp_isB, cmp_isnot, cmp_inT, cmp_inL, cmp_ninL, sub_tup, sub_lst, sub_sq, atP0, atP1, atP2, atP3, atP4, atP5, len_tup, len_lst, len_sq, len_str, bi_abs, bi_int, bi_strI, bi_strS, bi_tupL, bi_tupT, bi_tupS, bi_max2, bi_min2, bi_all, bi_any, bi_sum, me_join, it_tup, it_lst, it_sq, slc_tup, opt_none, opt_some, cut1, exists_and_left, List.singleton_append, pick, isTupD, typed, isTy, wipeE, Int.reduceEq, Int.reduceLT, Int.reduceSub, Int.reduceNeg, ex_if, ex_some, ex_map, List.any_cons, List.any_nil, Bool.or_false, Bool.false_or, Bool.or_true, Bool.true_or, decide_true, decide_false, List.getElem?_cons_zero, List.getElem?_cons_succ, Option.some.injEq, exists_eq_left', exists_eq_left, exists_eq_right, true_and, and_true, List.map_cons, List.map_nil, List.set_cons_zero, List.set_cons_succ, List.length_cons, List.length_nil, List.cons_append, List.nil_append, List.reduceReplicate, Nat.reduceSub, Nat.reduceAdd, Nat.reduceLT, Nat.reduceLeDiff, Nat.zero_lt_succ, Nat.lt_add_left_iff_pos, Nat.succ_lt_succ_iff, D.int.injEq, D.bl.injEq, D.str.injEq, D.tup.injEq, D.lst.injEq, D.own.injEq, decide_eq_true_eq, Bool.not_eq_true', decide_eq_false_iff_not, if_true, if_false, ite_true, ite_false, Bool.false_eq_true, reduceCtorEq, false_and, exists_false, Option.map_some, Option.map_none, Option.bind_some, Option.getD_some]
    refine ⟨by decide, by decide, by decide, by decide, fin _ _ ?_ (fmod_pos _ hm) (fmod_lt _ hm)⟩
    split <;> omega
  · have hlt : ¬ ((p : Int) < ((ns.map D.int).length : Nat)) := by rw [List.length_map]; omega
    have h2 : mulOk (p : Int) 104723 = true := mul_ok hpb (by decide)
    have h3 : mulOk ((ns.map D.int).length : Nat) 15485863 = true := mul_ok (Nat.lt_trans (bits_of (k := 6) (by omega) (by rw [List.length_map]; omega) (by decide)) (by decide)) (by decide)
    have h4 : mulOk ((p : Int) * 104723 + ((ns.map D.int).length : Nat) * 15485863) 86028157 = true := mul_ok (Nat.lt_trans (bits_of (k := 64) (by omega) (by rw [List.length_map]; omega) (by decide)) (by decide)) (by decide)
    simp only [f8, hlt, hpm, h2, h3, h4, w_var, w_con, w_glob, w_bin, w_neg, w_not, w_and, w_or, w_ifx, w_cmp, w_tup, w_frz, w_own, w_sub, w_slc, w_call, w_callk, w_bi, w_isi, w_me, w_tab, w_ono, w_oyes, w_nil, w_cons, w_tnil, w_tcons, w_disp, w_comp, w_cat, w_rep, w_nslc, w_rev, w_ival, w_irng, w_gname, w_gtup, w_gsub, w_gsnil, w_gscons, w_sexpr, w_asg, w_par, w_ret, w_retN, w_ifs, w_for, w_pass, w_brk, w_cont, w_snil, w_scons, nxt_nx, nxt_rt, nxt_bk, nxt_ct, fin_rt, fin_nx, is_ok, is_no, is_bind, is_guard, is_of, bin_addI, bin_addS, bin_addT, bin_sub, bin_mul, bin_mulT, bin_fdiv, bin_mod, bin_pow, look_int, look_str, look_bl, look_non, look_tup, look_lst, look_sq, items_tup, items_lst, items_sq, list_lst, list_sq, cmp_lt, cmp_le, cmp_gt, cmp_ge, cmp_eq, cmp_ne, eq_int, eq_str, eq_bl, cmp_isN, cmp_isB, cmp_isnot, cmp_inT, cmp_inL, cmp_ninL, sub_tup, sub_lst, sub_sq, atP0, atP1, atP2, atP3, atP4, atP5, len_tup, len_lst, len_sq, len_str, bi_abs, bi_int, bi_strI, bi_strS, bi_tupL, bi_tupT, bi_tupS, bi_max2, bi_min2, bi_all, bi_any, bi_sum, me_join, it_tup, it_lst, it_sq, slc_tup, opt_none, opt_some, cut1, exists_and_left, List.singleton_append, pick, isTupD, typed, isTy, wipeE, Int.reduceEq, Int.reduceLT, Int.reduceSub, Int.reduceNeg, ex_if, ex_some, ex_map, List.any_cons, List.any_nil, Bool.or_false, Bool.false_or, Bool.or_true, Bool.true_or, decide_true, decide_false, List.getElem?_cons_zero, List.getElem?_cons_succ, Option.some.injEq, exists_eq_left', exists_eq_left, exists_eq_right, true_and, and_true, List.map_cons, List.map_nil, List.set_cons_zero, List.set_cons_succ, List.length_cons, List.length_nil, List.cons_append, List.nil_append, List.reduceReplicate, Nat.reduceSub, Nat.reduceAdd, Nat.reduceLT, Nat.reduceLeDiff, Nat.zero_lt_succ, Nat.lt_add_left_iff_pos, Nat.succ_lt_succ_iff, D.int.injEq, D.bl.injEq, D.str.injEq, D.tup.injEq, D.lst.injEq, D.own.injEq, decide_eq_true_eq, Bool.not_eq_true', decide_eq_false_iff_not, if_true, if_false, ite_true, ite_false, Bool.false_eq_true, reduceCtorEq, false_and, exists_false, Option.map_some, Option.map_none, Option.bind_some, Option.getD_some]
    refine ⟨by decide, by decide, by decide, by decide, fin _ _ ?_ (fmod_pos _ hm) (fmod_lt _ hm)⟩
    split <;> omega
def rowD (t : Th) : D := .tup [.int (thN t), thD t, .str (thS t)]
theorem thS_len {t : Th} (h : SmT t) : (thS t).length ≤ LIM := by
  have hL : LIM = 16777216 := rfl
  cases t with
  | num p =>
    have := sNum_len (p := p) h
    show (sNum p).length ≤ _
    omega
  | point ps =>
    refine Nat.le_trans (len_join _ _) (join_guard (m := 12) (b := 605) (c := 1) (fun x hx => ?_) (by rw [List.length_map]; exact h.2) (Nat.le_refl _) (by decide))
    obtain ⟨p, hp, rfl⟩ := List.mem_map.mp hx
    exact sNum_len (h.1 p hp)
  | row ws =>
    show (sWish ws).length ≤ _
    unfold sWish
    split
    · decide
    · exact Nat.le_trans (len_join _ _) (wish_guard h.1 h.2)
  | wish ws =>
    show (sWish ws).length ≤ _
    unfold sWish
    split
    · decide
    · exact Nat.le_trans (len_join _ _) (wish_guard h.1 h.2)
  | book b => exact Nat.le_trans (len_join _ _) (book_guard h)
  | say s =>
    have := sSay_len (n := 12) h
    show (sSay s).length ≤ _
    have : 3960 * 2 ^ 12 ≤ LIM := by decide
    omega
  | quest q =>
    have := sQ_len (q := q) h
    show (sQ q).length ≤ _
    omega
theorem at_most {v : Int} (h0 : 0 ≤ v) (h : v < 3) : ∃ m : Nat, atP [.int 1, .int 9, .int 300] v = some (.int (m : Int)) ∧ 1 ≤ m ∧ m ≤ 300 := by
  rcases three h0 h with rfl | rfl | rfl
  · exact ⟨1, rfl, by decide, by decide⟩
  · exact ⟨9, rfl, by decide, by decide⟩
  · exact ⟨300, rfl, by decide, by decide⟩
theorem at_most4 {v z : Int} (h0 : 0 ≤ v) (h : v < 4) (hz : z = 300 ∨ z = 60) : ∃ m : Nat, atP [.int 1, .int 9, .int 40, .int z] v = some (.int (m : Int)) ∧ 1 ≤ m ∧ m ≤ 300 := by
  have : v = 0 ∨ v = 1 ∨ v = 2 ∨ v = 3 := by omega
  rcases this with rfl | rfl | rfl | rfl
  · exact ⟨1, rfl, by decide, by decide⟩
  · exact ⟨9, rfl, by decide, by decide⟩
  · exact ⟨40, rfl, by decide, by decide⟩
  · rcases hz with rfl | rfl
    · exact ⟨300, rfl, by decide, by decide⟩
    · exact ⟨60, rfl, by decide, by decide⟩
/-- the rows so far -/
def Rows (ts : List Th) (m : Nat) (S : Sto) : Prop := S[0]? = some (.lst (ts.map rowD)) ∧ (∀ t ∈ ts, SmT t) ∧ ts.length ≤ m
theorem Rows.dr {ts : List Th} {m : Nat} {S S' : Sto} (h : Rows ts m S) (hw : 0 < w) (D : Dr w k S S') : Rows ts m S' :=
  ⟨by rw [D.up.at_ 0 (List.getElem?_eq_some_iff.mp h.1).1 (by omega)]; exact h.1, h.2⟩
theorem Rows.add {ts : List Th} {m : Nat} {S : Sto} (h : Rows ts m S) {t : Th} (ht : SmT t) : Rows (ts ++ [t]) (m + 1) (S.set 0 (.lst (ts.map rowD ++ [rowD t]))) := by
  refine ⟨?_, fun x hx => ?_, by rw [List.length_append]; exact Nat.succ_le_succ h.2.2⟩
  · rw [List.getElem?_set_self (List.getElem?_eq_some_iff.mp h.1).1, List.map_append]
    rfl
  · rcases List.mem_append.mp hx with hx | hx
    · exact h.2.1 x hx
    · rw [List.mem_singleton.mp hx]
      exact ht
def LI (ns : List Int) (j : Nat) (e : Ev.Env) (S' : Sto) : Prop := ∃ (ts : List Th) (x2 x3 x4 x5 x6 x7 : Option D), Rows ts (7 * j) S' ∧ e = [some (.sq (ns.map D.int)), some (.own 0), x2, x3, x4, x5, x6, x7]
def LI2 (ns : List Int) (j w i : Nat) (e : Ev.Env) (S' : Sto) : Prop := i ≤ 6 ∧ Well w (2 ^ 48 + (6 - i) * 500000) S' ∧ ∃ (us : List Th) (x4 x5 x6 x7 : Option D), Rows us (7 * j + 1 + i) S' ∧ e = [some (.sq (ns.map D.int)), some (.own 0), some (.int j), some (.own w), x4, x5, x6, x7]
theorem rng6 : rngD [.int 6] = some (rangeL 0 ((6 : Nat) : Int)) := rng_nat (k := 6) (by decide)
theorem law {ns : List Int} (hw : 10 ^ 310 ≤ wf) (hb : ∀ z ∈ ns, bits z < 2000000) (hl : ns.length ≤ 63) : callF tab G wf (n + 30) 29 [.sq (ns.map D.int)] [] = .ok (.bl true) [] := by
  refine R.eq_of ?_
  rw [w_fn at29 rfl]
  simp only [f29, w_var, w_con, w_glob, w_bin, w_neg, w_not, w_and, w_or, w_ifx, w_cmp, w_tup, w_frz, w_own, w_sub, w_slc, w_call, w_callk, w_bi, w_isi, w_me, w_tab, w_ono, w_oyes, w_nil, w_cons, w_tnil, w_tcons, w_disp, w_comp, w_cat, w_rep, w_nslc, w_rev, w_ival, w_irng, w_gname, w_gtup, w_gsub, w_gsnil, w_gscons, w_sexpr, w_asg, w_par, w_ret, w_retN, w_ifs, w_for, w_pass, w_brk, w_cont, w_snil, w_scons, nxt_nx, nxt_rt, nxt_bk, nxt_ct, fin_rt, fin_nx, is_ok, is_no, is_bind, is_guard, is_of, bin_addI, bin_addS, bin_addT, bin_sub, bin_mul, bin_mulT, bin_fdiv, bin_mod, bin_pow, look_int, look_str, look_bl, look_non, look_tup, look_lst, look_sq, items_tup, items_lst, items_sq, list_lst, list_sq, cmp_lt, cmp_le, cmp_gt, cmp_ge, cmp_eq, cmp_ne, eq_int, eq_str, eq_bl, cmp_isN, cmp_isB, cmp_isnot, cmp_inT, cmp_inL, cmp_ninL, sub_tup, sub_lst, sub_sq, atP0, atP1, atP2, atP3, atP4, atP5, len_tup, len_lst, len_sq, len_str, bi_abs, bi_int, bi_strI, bi_strS, bi_tupL, bi_tupT, bi_tupS, bi_max2, bi_min2, bi_all, bi_any, bi_sum, me_join, it_tup, it_lst, it_sq, slc_tup, opt_none, opt_some, cut1, exists_and_left, List.singleton_append, pick, isTupD, typed, isTy, wipeE, Int.reduceEq, Int.reduceLT, Int.reduceSub, Int.reduceNeg, ex_if, ex_some, ex_map, List.any_cons, List.any_nil, Bool.or_false, Bool.false_or, Bool.or_true, Bool.true_or, decide_true, decide_false, List.getElem?_cons_zero, List.getElem?_cons_succ, Option.some.injEq, exists_eq_left', exists_eq_left, exists_eq_right, true_and, and_true, List.map_cons, List.map_nil, List.set_cons_zero, List.set_cons_succ, List.length_cons, List.length_nil, List.cons_append, List.nil_append, List.reduceReplicate, Nat.reduceSub, Nat.reduceAdd, Nat.reduceLT, Nat.reduceLeDiff, Nat.zero_lt_succ, Nat.lt_add_left_iff_pos, Nat.succ_lt_succ_iff, D.int.injEq, D.bl.injEq, D.str.injEq, D.tup.injEq, D.lst.injEq, D.own.injEq, decide_eq_true_eq, Bool.not_eq_true', decide_eq_false_iff_not, if_true, if_false, ite_true, ite_false, Bool.false_eq_true, reduceCtorEq, false_and, exists_false, Option.map_some, Option.map_none, Option.bind_some, Option.getD_some]
  obtain ⟨P, hP, hP6⟩ : ∃ P : Nat, (if (if ((ns.map D.int).length : Int) < 6 then ((ns.map D.int).length : Int) else 6) > 1 then (if ((ns.map D.int).length : Int) < 6 then ((ns.map D.int).length : Int) else 6) else 1) = (P : Int) ∧ P ≤ 6 := by
    generalize (ns.map D.int).length = L
    by_cases h : L < 6
    · rw [if_pos (show (L : Int) < 6 by omega)]
      by_cases h2 : (L : Int) > 1
      · rw [if_pos h2]; exact ⟨L, rfl, by omega⟩
      · rw [if_neg h2]; exact ⟨1, rfl, by omega⟩
    · rw [if_neg (show ¬ (L : Int) < 6 by omega)]
      exact ⟨6, by decide, by omega⟩
  rw [hP]
  refine ⟨Nat.zero_le _, _, rng_nat (k := P) (by unfold LIM; omega), w_forL (LI ns)
    ⟨[], none, none, none, none, none, none, ⟨rfl, (fun _ h => by cases h), Nat.le_refl _⟩, rfl⟩ (fun _ _ _ _ _ => ok_nil) (fun j x e S' hx ⟨ts, x2, x3, x4, x5, x6, x7, hR, he⟩ => ?_) (fun e S' ⟨ts, x2, x3, x4, x5, x6, x7, hR, he⟩ => ?_)⟩
  · obtain ⟨rfl, hlt⟩ := rangeL_get hx
    subst he
    simp only [w_var, w_con, w_glob, w_bin, w_neg, w_not, w_and, w_or, w_ifx, w_cmp, w_tup, w_frz, w_own, w_sub, w_slc, w_call, w_callk, w_bi, w_isi, w_me, w_tab, w_ono, w_oyes, w_nil, w_cons, w_tnil, w_tcons, w_disp, w_comp, w_cat, w_rep, w_nslc, w_rev, w_ival, w_irng, w_gname, w_gtup, w_gsub, w_gsnil, w_gscons, w_sexpr, w_asg, w_par, w_ret, w_retN, w_ifs, w_for, w_pass, w_brk, w_cont, w_snil, w_scons, nxt_nx, nxt_rt, nxt_bk, nxt_ct, fin_rt, fin_nx, is_ok, is_no, is_bind, is_guard, is_of, bin_addI, bin_addS, bin_addT, bin_sub, bin_mul, bin_mulT, bin_fdiv, bin_mod, bin_pow, look_int, look_str, look_bl, look_non, look_tup, look_lst, look_sq, items_tup, items_lst, items_sq, list_lst, list_sq, cmp_lt, cmp_le, cmp_gt, cmp_ge, cmp_eq, cmp_ne, eq_int, eq_str, eq_bl, cmp_isN, cmp_isB, cmp_isnot, cmp_inT, cmp_inL, cmp_ninL, sub_tup, sub_lst, sub_sq, atP0, atP1, atP2, atP3, atP4, atP5, len_tup, len_lst, len_sq, len_str, bi_abs, bi_int, bi_strI, bi_strS, bi_tupL, bi_tupT, bi_tupS, bi_max2, bi_min2, bi_all, bi_any, bi_sum, me_join, it_tup, it_lst, it_sq, slc_tup, opt_none, opt_some, cut1, exists_and_left, List.singleton_append, pick, isTupD, typed, isTy, wipeE, Int.reduceEq, Int.reduceLT, Int.reduceSub, Int.reduceNeg, ex_if, ex_some, ex_map, List.any_cons, List.any_nil, Bool.or_false, Bool.false_or, Bool.or_true, Bool.true_or, decide_true, decide_false, List.getElem?_cons_zero, List.getElem?_cons_succ, Option.some.injEq, exists_eq_left', exists_eq_left, exists_eq_right, true_and, and_true, List.map_cons, List.map_nil, List.set_cons_zero, List.set_cons_succ, List.length_cons, List.length_nil, List.cons_append, List.nil_append, List.reduceReplicate, Nat.reduceSub, Nat.reduceAdd, Nat.reduceLT, Nat.reduceLeDiff, Nat.zero_lt_succ, Nat.lt_add_left_iff_pos, Nat.succ_lt_succ_iff, D.int.injEq, D.bl.injEq, D.str.injEq, D.tup.injEq, D.lst.injEq, D.own.injEq, decide_eq_true_eq, Bool.not_eq_true', decide_eq_false_iff_not, if_true, if_false, ite_true, ite_false, Bool.false_eq_true, reduceCtorEq, false_and, exists_false, Option.map_some, Option.map_none, Option.bind_some, Option.getD_some]
    refine (well (n := n + 28) hb hl (p := j) (by omega)).mono fun d S1 ⟨x, y, hx0, hy0, hy1, e1, eS⟩ => ?_
    subst e1 eS
    have hl0 := (List.getElem?_eq_some_iff.mp hR.1).1
    have W : Well S'.length (2 ^ 50) (S' ++ [wellO x y 0]) := ⟨x, y, 0, get_push _ _, hx0, hy0, hy1, by decide, by decide⟩
    have R1 : Rows ts (7 * j) (S' ++ [wellO x y 0]) := ⟨by rw [List.getElem?_append_left hl0]; exact hR.1, hR.2⟩
    have hwp : 0 < S'.length := hl0
    generalize S'.length = w at W hwp
    generalize S' ++ [wellO x y 0] = S1 at W R1
    try simp only [w_var, w_con, w_glob, w_bin, w_neg, w_not, w_and, w_or, w_ifx, w_cmp, w_tup, w_frz, w_own, w_sub, w_slc, w_call, w_callk, w_bi, w_isi, w_me, w_tab, w_ono, w_oyes, w_nil, w_cons, w_tnil, w_tcons, w_disp, w_comp, w_cat, w_rep, w_nslc, w_rev, w_ival, w_irng, w_gname, w_gtup, w_gsub, w_gsnil, w_gscons, w_sexpr, w_asg, w_par, w_ret, w_retN, w_ifs, w_for, w_pass, w_brk, w_cont, w_snil, w_scons, nxt_nx, nxt_rt, nxt_bk, nxt_ct, fin_rt, fin_nx, is_ok, is_no, is_bind, is_guard, is_of, bin_addI, bin_addS, bin_addT, bin_sub, bin_mul, bin_mulT, bin_fdiv, bin_mod, bin_pow, look_int, look_str, look_bl, look_non, look_tup, look_lst, look_sq, items_tup, items_lst, items_sq, list_lst, list_sq, cmp_lt, cmp_le, cmp_gt, cmp_ge, cmp_eq, cmp_ne, eq_int, eq_str, eq_bl, cmp_isN, cmp_isB, cmp_isnot, cmp_inT, cmp_inL, cmp_ninL, sub_tup, sub_lst, sub_sq, atP0, atP1, atP2, atP3, atP4, atP5, len_tup, len_lst, len_sq, len_str, bi_abs, bi_int, bi_strI, bi_strS, bi_tupL, bi_tupT, bi_tupS, bi_max2, bi_min2, bi_all, bi_any, bi_sum, me_join, it_tup, it_lst, it_sq, slc_tup, opt_none, opt_some, cut1, exists_and_left, List.singleton_append, pick, isTupD, typed, isTy, wipeE, Int.reduceEq, Int.reduceLT, Int.reduceSub, Int.reduceNeg, ex_if, ex_some, ex_map, List.any_cons, List.any_nil, Bool.or_false, Bool.false_or, Bool.or_true, Bool.true_or, decide_true, decide_false, List.getElem?_cons_zero, List.getElem?_cons_succ, Option.some.injEq, exists_eq_left', exists_eq_left, exists_eq_right, true_and, and_true, List.map_cons, List.map_nil, List.set_cons_zero, List.set_cons_succ, List.length_cons, List.length_nil, List.cons_append, List.nil_append, List.reduceReplicate, Nat.reduceSub, Nat.reduceAdd, Nat.reduceLT, Nat.reduceLeDiff, Nat.zero_lt_succ, Nat.lt_add_left_iff_pos, Nat.succ_lt_succ_iff, D.int.injEq, D.bl.injEq, D.str.injEq, D.tup.injEq, D.lst.injEq, D.own.injEq, decide_eq_true_eq, Bool.not_eq_true', decide_eq_false_iff_not, if_true, if_false, ite_true, ite_false, Bool.false_eq_true, reduceCtorEq, false_and, exists_false, Option.map_some, Option.map_none, Option.bind_some, Option.getD_some]
    refine (draw (n := n + 28) (m := 12) (by decide) (by decide) (W.less (j := 2 ^ 49 + 67 + 1) (by decide))).mono fun d S2 ⟨v, e1, a1, b1, D1⟩ => ?_
    subst e1
    obtain ⟨dd, hdd⟩ := Int.eq_ofNat_of_zero_le (show 0 ≤ 1 + v by omega)
    simp only [hdd, w_var, w_con, w_glob, w_bin, w_neg, w_not, w_and, w_or, w_ifx, w_cmp, w_tup, w_frz, w_own, w_sub, w_slc, w_call, w_callk, w_bi, w_isi, w_me, w_tab, w_ono, w_oyes, w_nil, w_cons, w_tnil, w_tcons, w_disp, w_comp, w_cat, w_rep, w_nslc, w_rev, w_ival, w_irng, w_gname, w_gtup, w_gsub, w_gsnil, w_gscons, w_sexpr, w_asg, w_par, w_ret, w_retN, w_ifs, w_for, w_pass, w_brk, w_cont, w_snil, w_scons, nxt_nx, nxt_rt, nxt_bk, nxt_ct, fin_rt, fin_nx, is_ok, is_no, is_bind, is_guard, is_of, bin_addI, bin_addS, bin_addT, bin_sub, bin_mul, bin_mulT, bin_fdiv, bin_mod, bin_pow, look_int, look_str, look_bl, look_non, look_tup, look_lst, look_sq, items_tup, items_lst, items_sq, list_lst, list_sq, cmp_lt, cmp_le, cmp_gt, cmp_ge, cmp_eq, cmp_ne, eq_int, eq_str, eq_bl, cmp_isN, cmp_isB, cmp_isnot, cmp_inT, cmp_inL, cmp_ninL, sub_tup, sub_lst, sub_sq, atP0, atP1, atP2, atP3, atP4, atP5, len_tup, len_lst, len_sq, len_str, bi_abs, bi_int, bi_strI, bi_strS, bi_tupL, bi_tupT, bi_tupS, bi_max2, bi_min2, bi_all, bi_any, bi_sum, me_join, it_tup, it_lst, it_sq, slc_tup, opt_none, opt_some, cut1, exists_and_left, List.singleton_append, pick, isTupD, typed, isTy, wipeE, Int.reduceEq, Int.reduceLT, Int.reduceSub, Int.reduceNeg, ex_if, ex_some, ex_map, List.any_cons, List.any_nil, Bool.or_false, Bool.false_or, Bool.or_true, Bool.true_or, decide_true, decide_false, List.getElem?_cons_zero, List.getElem?_cons_succ, Option.some.injEq, exists_eq_left', exists_eq_left, exists_eq_right, true_and, and_true, List.map_cons, List.map_nil, List.set_cons_zero, List.set_cons_succ, List.length_cons, List.length_nil, List.cons_append, List.nil_append, List.reduceReplicate, Nat.reduceSub, Nat.reduceAdd, Nat.reduceLT, Nat.reduceLeDiff, Nat.zero_lt_succ, Nat.lt_add_left_iff_pos, Nat.succ_lt_succ_iff, D.int.injEq, D.bl.injEq, D.str.injEq, D.tup.injEq, D.lst.injEq, D.own.injEq, decide_eq_true_eq, Bool.not_eq_true', decide_eq_false_iff_not, if_true, if_false, ite_true, ite_false, Bool.false_eq_true, reduceCtorEq, false_and, exists_false, Option.map_some, Option.map_none, Option.bind_some, Option.getD_some]
    refine ⟨by decide, (draw (n := n + 28) (m := 3) (by decide) (by decide) (D1.well.less (j := 2 ^ 49 + 66 + 1) (by decide))).mono fun d S3 ⟨v3, e3, a3, b3, D3⟩ => ?_⟩
    subst e3
    have D3 := D1.trans D3
    obtain ⟨most, hmo, m1, m2⟩ := at_most a3 b3
    simp only [hmo, w_var, w_con, w_glob, w_bin, w_neg, w_not, w_and, w_or, w_ifx, w_cmp, w_tup, w_frz, w_own, w_sub, w_slc, w_call, w_callk, w_bi, w_isi, w_me, w_tab, w_ono, w_oyes, w_nil, w_cons, w_tnil, w_tcons, w_disp, w_comp, w_cat, w_rep, w_nslc, w_rev, w_ival, w_irng, w_gname, w_gtup, w_gsub, w_gsnil, w_gscons, w_sexpr, w_asg, w_par, w_ret, w_retN, w_ifs, w_for, w_pass, w_brk, w_cont, w_snil, w_scons, nxt_nx, nxt_rt, nxt_bk, nxt_ct, fin_rt, fin_nx, is_ok, is_no, is_bind, is_guard, is_of, bin_addI, bin_addS, bin_addT, bin_sub, bin_mul, bin_mulT, bin_fdiv, bin_mod, bin_pow, look_int, look_str, look_bl, look_non, look_tup, look_lst, look_sq, items_tup, items_lst, items_sq, list_lst, list_sq, cmp_lt, cmp_le, cmp_gt, cmp_ge, cmp_eq, cmp_ne, eq_int, eq_str, eq_bl, cmp_isN, cmp_isB, cmp_isnot, cmp_inT, cmp_inL, cmp_ninL, sub_tup, sub_lst, sub_sq, atP0, atP1, atP2, atP3, atP4, atP5, len_tup, len_lst, len_sq, len_str, bi_abs, bi_int, bi_strI, bi_strS, bi_tupL, bi_tupT, bi_tupS, bi_max2, bi_min2, bi_all, bi_any, bi_sum, me_join, it_tup, it_lst, it_sq, slc_tup, opt_none, opt_some, cut1, exists_and_left, List.singleton_append, pick, isTupD, typed, isTy, wipeE, Int.reduceEq, Int.reduceLT, Int.reduceSub, Int.reduceNeg, ex_if, ex_some, ex_map, List.any_cons, List.any_nil, Bool.or_false, Bool.false_or, Bool.or_true, Bool.true_or, decide_true, decide_false, List.getElem?_cons_zero, List.getElem?_cons_succ, Option.some.injEq, exists_eq_left', exists_eq_left, exists_eq_right, true_and, and_true, List.map_cons, List.map_nil, List.set_cons_zero, List.set_cons_succ, List.length_cons, List.length_nil, List.cons_append, List.nil_append, List.reduceReplicate, Nat.reduceSub, Nat.reduceAdd, Nat.reduceLT, Nat.reduceLeDiff, Nat.zero_lt_succ, Nat.lt_add_left_iff_pos, Nat.succ_lt_succ_iff, D.int.injEq, D.bl.injEq, D.str.injEq, D.tup.injEq, D.lst.injEq, D.own.injEq, decide_eq_true_eq, Bool.not_eq_true', decide_eq_false_iff_not, if_true, if_false, ite_true, ite_false, Bool.false_eq_true, reduceCtorEq, false_and, exists_false, Option.map_some, Option.map_none, Option.bind_some, Option.getD_some]
    refine (draw_sided (n := n + 26) m1 m2 (by omega) (by omega) (D3.well.less (j := 2 ^ 49 + 66) (by decide))).mono fun d S4 ⟨q, e4, hq, _, D4⟩ => ?_
    subst e4
    have D4 := D3.trans D4
    have R4 := R1.dr hwp D4
    have hR0 := R4.1
    have hlt0 : (ts.map rowD).length < LIM := by rw [List.length_map]; have := R4.2.2; unfold LIM; omega
    simp only [said_question (n := n + 28) hq.q, me_append _ _ _ hR0, rng6, w_var, w_con, w_glob, w_bin, w_neg, w_not, w_and, w_or, w_ifx, w_cmp, w_tup, w_frz, w_own, w_sub, w_slc, w_call, w_callk, w_bi, w_isi, w_me, w_tab, w_ono, w_oyes, w_nil, w_cons, w_tnil, w_tcons, w_disp, w_comp, w_cat, w_rep, w_nslc, w_rev, w_ival, w_irng, w_gname, w_gtup, w_gsub, w_gsnil, w_gscons, w_sexpr, w_asg, w_par, w_ret, w_retN, w_ifs, w_for, w_pass, w_brk, w_cont, w_snil, w_scons, nxt_nx, nxt_rt, nxt_bk, nxt_ct, fin_rt, fin_nx, is_ok, is_no, is_bind, is_guard, is_of, bin_addI, bin_addS, bin_addT, bin_sub, bin_mul, bin_mulT, bin_fdiv, bin_mod, bin_pow, look_int, look_str, look_bl, look_non, look_tup, look_lst, look_sq, items_tup, items_lst, items_sq, list_lst, list_sq, cmp_lt, cmp_le, cmp_gt, cmp_ge, cmp_eq, cmp_ne, eq_int, eq_str, eq_bl, cmp_isN, cmp_isB, cmp_isnot, cmp_inT, cmp_inL, cmp_ninL, sub_tup, sub_lst, sub_sq, atP0, atP1, atP2, atP3, atP4, atP5, len_tup, len_lst, len_sq, len_str, bi_abs, bi_int, bi_strI, bi_strS, bi_tupL, bi_tupT, bi_tupS, bi_max2, bi_min2, bi_all, bi_any, bi_sum, me_join, it_tup, it_lst, it_sq, slc_tup, opt_none, opt_some, cut1, exists_and_left, List.singleton_append, pick, isTupD, typed, isTy, wipeE, Int.reduceEq, Int.reduceLT, Int.reduceSub, Int.reduceNeg, ex_if, ex_some, ex_map, List.any_cons, List.any_nil, Bool.or_false, Bool.false_or, Bool.or_true, Bool.true_or, decide_true, decide_false, List.getElem?_cons_zero, List.getElem?_cons_succ, Option.some.injEq, exists_eq_left', exists_eq_left, exists_eq_right, true_and, and_true, List.map_cons, List.map_nil, List.set_cons_zero, List.set_cons_succ, List.length_cons, List.length_nil, List.cons_append, List.nil_append, List.reduceReplicate, Nat.reduceSub, Nat.reduceAdd, Nat.reduceLT, Nat.reduceLeDiff, Nat.zero_lt_succ, Nat.lt_add_left_iff_pos, Nat.succ_lt_succ_iff, D.int.injEq, D.bl.injEq, D.str.injEq, D.tup.injEq, D.lst.injEq, D.own.injEq, decide_eq_true_eq, Bool.not_eq_true', decide_eq_false_iff_not, if_true, if_false, ite_true, ite_false, Bool.false_eq_true, reduceCtorEq, false_and, exists_false, Option.map_some, Option.map_none, Option.bind_some, Option.getD_some]
    refine ⟨by decide, hlt0, ?_⟩
    have R5 : Rows (ts ++ [.quest q]) (7 * j + 1) (S4.set 0 (.lst (ts.map rowD ++ [rowD (.quest q)]))) := R4.add (t := .quest q) hq.q
    have W5 : Well w (2 ^ 49) (S4.set 0 (.lst (ts.map rowD ++ [rowD (.quest q)]))) := D4.well.setAbove (by omega) _
    show (forL _ _ _ _ (S4.set 0 (.lst (ts.map rowD ++ [rowD (.quest q)])))).Is _
    generalize S4.set 0 (.lst (ts.map rowD ++ [rowD (.quest q)])) = S5 at R5 W5
    generalize ts ++ [Th.quest q] = us at R5
    refine w_forL (LI2 ns j w)
      ⟨Nat.zero_le _, W5.less (by decide), us, _, _, _, _, R5, rfl⟩ (fun _ _ _ _ _ => ok_nil) (fun i x e S' hx ⟨hi, W6, us, x4, x5, x6, x7, R6, he⟩ => ?_) (fun e S' ⟨hi, W6, us, x4, x5, x6, x7, R6, he⟩ => ?_)
    · obtain ⟨rfl, hlt6⟩ := rangeL_get (k := 6) hx
      subst he
      simp only [w_var, w_con, w_glob, w_bin, w_neg, w_not, w_and, w_or, w_ifx, w_cmp, w_tup, w_frz, w_own, w_sub, w_slc, w_call, w_callk, w_bi, w_isi, w_me, w_tab, w_ono, w_oyes, w_nil, w_cons, w_tnil, w_tcons, w_disp, w_comp, w_cat, w_rep, w_nslc, w_rev, w_ival, w_irng, w_gname, w_gtup, w_gsub, w_gsnil, w_gscons, w_sexpr, w_asg, w_par, w_ret, w_retN, w_ifs, w_for, w_pass, w_brk, w_cont, w_snil, w_scons, nxt_nx, nxt_rt, nxt_bk, nxt_ct, fin_rt, fin_nx, is_ok, is_no, is_bind, is_guard, is_of, bin_addI, bin_addS, bin_addT, bin_sub, bin_mul, bin_mulT, bin_fdiv, bin_mod, bin_pow, look_int, look_str, look_bl, look_non, look_tup, look_lst, look_sq, items_tup, items_lst, items_sq, list_lst, list_sq, cmp_lt, cmp_le, cmp_gt, cmp_ge, cmp_eq, cmp_ne, eq_int, eq_str, eq_bl, cmp_isN, cmp_isB, cmp_isnot, cmp_inT, cmp_inL, cmp_ninL, sub_tup, sub_lst, sub_sq, atP0, atP1, atP2, atP3, atP4, atP5, len_tup, len_lst, len_sq, len_str, bi_abs, bi_int, bi_strI, bi_strS, bi_tupL, bi_tupT, bi_tupS, bi_max2, bi_min2, bi_all, bi_any, bi_sum, me_join, it_tup, it_lst, it_sq, slc_tup, opt_none, opt_some, cut1, exists_and_left, List.singleton_append, pick, isTupD, typed, isTy, wipeE, Int.reduceEq, Int.reduceLT, Int.reduceSub, Int.reduceNeg, ex_if, ex_some, ex_map, List.any_cons, List.any_nil, Bool.or_false, Bool.false_or, Bool.or_true, Bool.true_or, decide_true, decide_false, List.getElem?_cons_zero, List.getElem?_cons_succ, Option.some.injEq, exists_eq_left', exists_eq_left, exists_eq_right, true_and, and_true, List.map_cons, List.map_nil, List.set_cons_zero, List.set_cons_succ, List.length_cons, List.length_nil, List.cons_append, List.nil_append, List.reduceReplicate, Nat.reduceSub, Nat.reduceAdd, Nat.reduceLT, Nat.reduceLeDiff, Nat.zero_lt_succ, Nat.lt_add_left_iff_pos, Nat.succ_lt_succ_iff, D.int.injEq, D.bl.injEq, D.str.injEq, D.tup.injEq, D.lst.injEq, D.own.injEq, decide_eq_true_eq, Bool.not_eq_true', decide_eq_false_iff_not, if_true, if_false, ite_true, ite_false, Bool.false_eq_true, reduceCtorEq, false_and, exists_false, Option.map_some, Option.map_none, Option.bind_some, Option.getD_some]
      have hc : (2 ^ 48 + (6 - i) * 500000 : Nat) = 2 ^ 48 + (6 - (i + 1)) * 500000 + 90298 + 1 + 409700 + 1 := by omega
      have hbig : big = 409700 := rfl
      split
      · refine ⟨by decide, (draw (n := n + 28) (m := 4) (by decide) (by decide) (W6.less (j := 2 ^ 48 + (6 - (i + 1)) * 500000 + 1 + big + 1) (by omega))).mono fun d S7 ⟨v7, e7, a7, b7, D7⟩ => ?_⟩
        subst e7
        obtain ⟨mo, hmo7, m17, m27⟩ := at_most4 (z := 300) a7 b7 (.inl rfl)
        simp only [hmo7, w_var, w_con, w_glob, w_bin, w_neg, w_not, w_and, w_or, w_ifx, w_cmp, w_tup, w_frz, w_own, w_sub, w_slc, w_call, w_callk, w_bi, w_isi, w_me, w_tab, w_ono, w_oyes, w_nil, w_cons, w_tnil, w_tcons, w_disp, w_comp, w_cat, w_rep, w_nslc, w_rev, w_ival, w_irng, w_gname, w_gtup, w_gsub, w_gsnil, w_gscons, w_sexpr, w_asg, w_par, w_ret, w_retN, w_ifs, w_for, w_pass, w_brk, w_cont, w_snil, w_scons, nxt_nx, nxt_rt, nxt_bk, nxt_ct, fin_rt, fin_nx, is_ok, is_no, is_bind, is_guard, is_of, bin_addI, bin_addS, bin_addT, bin_sub, bin_mul, bin_mulT, bin_fdiv, bin_mod, bin_pow, look_int, look_str, look_bl, look_non, look_tup, look_lst, look_sq, items_tup, items_lst, items_sq, list_lst, list_sq, cmp_lt, cmp_le, cmp_gt, cmp_ge, cmp_eq, cmp_ne, eq_int, eq_str, eq_bl, cmp_isN, cmp_isB, cmp_isnot, cmp_inT, cmp_inL, cmp_ninL, sub_tup, sub_lst, sub_sq, atP0, atP1, atP2, atP3, atP4, atP5, len_tup, len_lst, len_sq, len_str, bi_abs, bi_int, bi_strI, bi_strS, bi_tupL, bi_tupT, bi_tupS, bi_max2, bi_min2, bi_all, bi_any, bi_sum, me_join, it_tup, it_lst, it_sq, slc_tup, opt_none, opt_some, cut1, exists_and_left, List.singleton_append, pick, isTupD, typed, isTy, wipeE, Int.reduceEq, Int.reduceLT, Int.reduceSub, Int.reduceNeg, ex_if, ex_some, ex_map, List.any_cons, List.any_nil, Bool.or_false, Bool.false_or, Bool.or_true, Bool.true_or, decide_true, decide_false, List.getElem?_cons_zero, List.getElem?_cons_succ, Option.some.injEq, exists_eq_left', exists_eq_left, exists_eq_right, true_and, and_true, List.map_cons, List.map_nil, List.set_cons_zero, List.set_cons_succ, List.length_cons, List.length_nil, List.cons_append, List.nil_append, List.reduceReplicate, Nat.reduceSub, Nat.reduceAdd, Nat.reduceLT, Nat.reduceLeDiff, Nat.zero_lt_succ, Nat.lt_add_left_iff_pos, Nat.succ_lt_succ_iff, D.int.injEq, D.bl.injEq, D.str.injEq, D.tup.injEq, D.lst.injEq, D.own.injEq, decide_eq_true_eq, Bool.not_eq_true', decide_eq_false_iff_not, if_true, if_false, ite_true, ite_false, Bool.false_eq_true, reduceCtorEq, false_and, exists_false, Option.map_some, Option.map_none, Option.bind_some, Option.getD_some]
        refine (thing (n := n + 9) (door := i) hw m17 m27 (by omega) D7.well).mono fun d S8 ⟨t, e8, hdoor, hsm, D8⟩ => ?_
        subst e8
        simp only [w_var, w_con, w_glob, w_bin, w_neg, w_not, w_and, w_or, w_ifx, w_cmp, w_tup, w_frz, w_own, w_sub, w_slc, w_call, w_callk, w_bi, w_isi, w_me, w_tab, w_ono, w_oyes, w_nil, w_cons, w_tnil, w_tcons, w_disp, w_comp, w_cat, w_rep, w_nslc, w_rev, w_ival, w_irng, w_gname, w_gtup, w_gsub, w_gsnil, w_gscons, w_sexpr, w_asg, w_par, w_ret, w_retN, w_ifs, w_for, w_pass, w_brk, w_cont, w_snil, w_scons, nxt_nx, nxt_rt, nxt_bk, nxt_ct, fin_rt, fin_nx, is_ok, is_no, is_bind, is_guard, is_of, bin_addI, bin_addS, bin_addT, bin_sub, bin_mul, bin_mulT, bin_fdiv, bin_mod, bin_pow, look_int, look_str, look_bl, look_non, look_tup, look_lst, look_sq, items_tup, items_lst, items_sq, list_lst, list_sq, cmp_lt, cmp_le, cmp_gt, cmp_ge, cmp_eq, cmp_ne, eq_int, eq_str, eq_bl, cmp_isN, cmp_isB, cmp_isnot, cmp_inT, cmp_inL, cmp_ninL, sub_tup, sub_lst, sub_sq, atP0, atP1, atP2, atP3, atP4, atP5, len_tup, len_lst, len_sq, len_str, bi_abs, bi_int, bi_strI, bi_strS, bi_tupL, bi_tupT, bi_tupS, bi_max2, bi_min2, bi_all, bi_any, bi_sum, me_join, it_tup, it_lst, it_sq, slc_tup, opt_none, opt_some, cut1, exists_and_left, List.singleton_append, pick, isTupD, typed, isTy, wipeE, Int.reduceEq, Int.reduceLT, Int.reduceSub, Int.reduceNeg, ex_if, ex_some, ex_map, List.any_cons, List.any_nil, Bool.or_false, Bool.false_or, Bool.or_true, Bool.true_or, decide_true, decide_false, List.getElem?_cons_zero, List.getElem?_cons_succ, Option.some.injEq, exists_eq_left', exists_eq_left, exists_eq_right, true_and, and_true, List.map_cons, List.map_nil, List.set_cons_zero, List.set_cons_succ, List.length_cons, List.length_nil, List.cons_append, List.nil_append, List.reduceReplicate, Nat.reduceSub, Nat.reduceAdd, Nat.reduceLT, Nat.reduceLeDiff, Nat.zero_lt_succ, Nat.lt_add_left_iff_pos, Nat.succ_lt_succ_iff, D.int.injEq, D.bl.injEq, D.str.injEq, D.tup.injEq, D.lst.injEq, D.own.injEq, decide_eq_true_eq, Bool.not_eq_true', decide_eq_false_iff_not, if_true, if_false, ite_true, ite_false, Bool.false_eq_true, reduceCtorEq, false_and, exists_false, Option.map_some, Option.map_none, Option.bind_some, Option.getD_some]
        refine (draw (n := n + 28) (m := 2) (by decide) (by decide) D8.well).mono fun d S9 ⟨v9, e9, a9, b9, D9⟩ => ?_
        subst e9
        have DD := (D7.trans D8).trans D9
        have R9 := R6.dr hwp DD
        have hR9 := R9.1
        have hlt9 : (us.map rowD).length < LIM := by rw [List.length_map]; have := R9.2.2; unfold LIM; omega
        rw [← hdoor]
        simp only [shown (n := n + 9) hsm, same (n := n + 28), me_append _ _ _ hR9, w_var, w_con, w_glob, w_bin, w_neg, w_not, w_and, w_or, w_ifx, w_cmp, w_tup, w_frz, w_own, w_sub, w_slc, w_call, w_callk, w_bi, w_isi, w_me, w_tab, w_ono, w_oyes, w_nil, w_cons, w_tnil, w_tcons, w_disp, w_comp, w_cat, w_rep, w_nslc, w_rev, w_ival, w_irng, w_gname, w_gtup, w_gsub, w_gsnil, w_gscons, w_sexpr, w_asg, w_par, w_ret, w_retN, w_ifs, w_for, w_pass, w_brk, w_cont, w_snil, w_scons, nxt_nx, nxt_rt, nxt_bk, nxt_ct, fin_rt, fin_nx, is_ok, is_no, is_bind, is_guard, is_of, bin_addI, bin_addS, bin_addT, bin_sub, bin_mul, bin_mulT, bin_fdiv, bin_mod, bin_pow, look_int, look_str, look_bl, look_non, look_tup, look_lst, look_sq, items_tup, items_lst, items_sq, list_lst, list_sq, cmp_lt, cmp_le, cmp_gt, cmp_ge, cmp_eq, cmp_ne, eq_int, eq_str, eq_bl, cmp_isN, cmp_isB, cmp_isnot, cmp_inT, cmp_inL, cmp_ninL, sub_tup, sub_lst, sub_sq, atP0, atP1, atP2, atP3, atP4, atP5, len_tup, len_lst, len_sq, len_str, bi_abs, bi_int, bi_strI, bi_strS, bi_tupL, bi_tupT, bi_tupS, bi_max2, bi_min2, bi_all, bi_any, bi_sum, me_join, it_tup, it_lst, it_sq, slc_tup, opt_none, opt_some, cut1, exists_and_left, List.singleton_append, pick, isTupD, typed, isTy, wipeE, Int.reduceEq, Int.reduceLT, Int.reduceSub, Int.reduceNeg, ex_if, ex_some, ex_map, List.any_cons, List.any_nil, Bool.or_false, Bool.false_or, Bool.or_true, Bool.true_or, decide_true, decide_false, List.getElem?_cons_zero, List.getElem?_cons_succ, Option.some.injEq, exists_eq_left', exists_eq_left, exists_eq_right, true_and, and_true, List.map_cons, List.map_nil, List.set_cons_zero, List.set_cons_succ, List.length_cons, List.length_nil, List.cons_append, List.nil_append, List.reduceReplicate, Nat.reduceSub, Nat.reduceAdd, Nat.reduceLT, Nat.reduceLeDiff, Nat.zero_lt_succ, Nat.lt_add_left_iff_pos, Nat.succ_lt_succ_iff, D.int.injEq, D.bl.injEq, D.str.injEq, D.tup.injEq, D.lst.injEq, D.own.injEq, decide_eq_true_eq, Bool.not_eq_true', decide_eq_false_iff_not, if_true, if_false, ite_true, ite_false, Bool.false_eq_true, reduceCtorEq, false_and, exists_false, Option.map_some, Option.map_none, Option.bind_some, Option.getD_some]
        refine ⟨by decide, hlt9, ?_⟩
        refine ⟨by omega, D9.well.setAbove (by omega) _, us ++ [t], _, _, _, _, R9.add hsm, rfl⟩
      · refine ⟨by decide, (draw (n := n + 28) (m := 4) (by decide) (by decide) (W6.less (j := 2 ^ 48 + (6 - (i + 1)) * 500000 + 1 + big + 1) (by omega))).mono fun d S7 ⟨v7, e7, a7, b7, D7⟩ => ?_⟩
        subst e7
        obtain ⟨mo, hmo7, m17, m27⟩ := at_most4 (z := 60) a7 b7 (.inr rfl)
        simp only [hmo7, w_var, w_con, w_glob, w_bin, w_neg, w_not, w_and, w_or, w_ifx, w_cmp, w_tup, w_frz, w_own, w_sub, w_slc, w_call, w_callk, w_bi, w_isi, w_me, w_tab, w_ono, w_oyes, w_nil, w_cons, w_tnil, w_tcons, w_disp, w_comp, w_cat, w_rep, w_nslc, w_rev, w_ival, w_irng, w_gname, w_gtup, w_gsub, w_gsnil, w_gscons, w_sexpr, w_asg, w_par, w_ret, w_retN, w_ifs, w_for, w_pass, w_brk, w_cont, w_snil, w_scons, nxt_nx, nxt_rt, nxt_bk, nxt_ct, fin_rt, fin_nx, is_ok, is_no, is_bind, is_guard, is_of, bin_addI, bin_addS, bin_addT, bin_sub, bin_mul, bin_mulT, bin_fdiv, bin_mod, bin_pow, look_int, look_str, look_bl, look_non, look_tup, look_lst, look_sq, items_tup, items_lst, items_sq, list_lst, list_sq, cmp_lt, cmp_le, cmp_gt, cmp_ge, cmp_eq, cmp_ne, eq_int, eq_str, eq_bl, cmp_isN, cmp_isB, cmp_isnot, cmp_inT, cmp_inL, cmp_ninL, sub_tup, sub_lst, sub_sq, atP0, atP1, atP2, atP3, atP4, atP5, len_tup, len_lst, len_sq, len_str, bi_abs, bi_int, bi_strI, bi_strS, bi_tupL, bi_tupT, bi_tupS, bi_max2, bi_min2, bi_all, bi_any, bi_sum, me_join, it_tup, it_lst, it_sq, slc_tup, opt_none, opt_some, cut1, exists_and_left, List.singleton_append, pick, isTupD, typed, isTy, wipeE, Int.reduceEq, Int.reduceLT, Int.reduceSub, Int.reduceNeg, ex_if, ex_some, ex_map, List.any_cons, List.any_nil, Bool.or_false, Bool.false_or, Bool.or_true, Bool.true_or, decide_true, decide_false, List.getElem?_cons_zero, List.getElem?_cons_succ, Option.some.injEq, exists_eq_left', exists_eq_left, exists_eq_right, true_and, and_true, List.map_cons, List.map_nil, List.set_cons_zero, List.set_cons_succ, List.length_cons, List.length_nil, List.cons_append, List.nil_append, List.reduceReplicate, Nat.reduceSub, Nat.reduceAdd, Nat.reduceLT, Nat.reduceLeDiff, Nat.zero_lt_succ, Nat.lt_add_left_iff_pos, Nat.succ_lt_succ_iff, D.int.injEq, D.bl.injEq, D.str.injEq, D.tup.injEq, D.lst.injEq, D.own.injEq, decide_eq_true_eq, Bool.not_eq_true', decide_eq_false_iff_not, if_true, if_false, ite_true, ite_false, Bool.false_eq_true, reduceCtorEq, false_and, exists_false, Option.map_some, Option.map_none, Option.bind_some, Option.getD_some]
        refine (thing (n := n + 9) (door := i) hw m17 m27 (by omega) D7.well).mono fun d S8 ⟨t, e8, hdoor, hsm, D8⟩ => ?_
        subst e8
        simp only [w_var, w_con, w_glob, w_bin, w_neg, w_not, w_and, w_or, w_ifx, w_cmp, w_tup, w_frz, w_own, w_sub, w_slc, w_call, w_callk, w_bi, w_isi, w_me, w_tab, w_ono, w_oyes, w_nil, w_cons, w_tnil, w_tcons, w_disp, w_comp, w_cat, w_rep, w_nslc, w_rev, w_ival, w_irng, w_gname, w_gtup, w_gsub, w_gsnil, w_gscons, w_sexpr, w_asg, w_par, w_ret, w_retN, w_ifs, w_for, w_pass, w_brk, w_cont, w_snil, w_scons, nxt_nx, nxt_rt, nxt_bk, nxt_ct, fin_rt, fin_nx, is_ok, is_no, is_bind, is_guard, is_of, bin_addI, bin_addS, bin_addT, bin_sub, bin_mul, bin_mulT, bin_fdiv, bin_mod, bin_pow, look_int, look_str, look_bl, look_non, look_tup, look_lst, look_sq, items_tup, items_lst, items_sq, list_lst, list_sq, cmp_lt, cmp_le, cmp_gt, cmp_ge, cmp_eq, cmp_ne, eq_int, eq_str, eq_bl, cmp_isN, cmp_isB, cmp_isnot, cmp_inT, cmp_inL, cmp_ninL, sub_tup, sub_lst, sub_sq, atP0, atP1, atP2, atP3, atP4, atP5, len_tup, len_lst, len_sq, len_str, bi_abs, bi_int, bi_strI, bi_strS, bi_tupL, bi_tupT, bi_tupS, bi_max2, bi_min2, bi_all, bi_any, bi_sum, me_join, it_tup, it_lst, it_sq, slc_tup, opt_none, opt_some, cut1, exists_and_left, List.singleton_append, pick, isTupD, typed, isTy, wipeE, Int.reduceEq, Int.reduceLT, Int.reduceSub, Int.reduceNeg, ex_if, ex_some, ex_map, List.any_cons, List.any_nil, Bool.or_false, Bool.false_or, Bool.or_true, Bool.true_or, decide_true, decide_false, List.getElem?_cons_zero, List.getElem?_cons_succ, Option.some.injEq, exists_eq_left', exists_eq_left, exists_eq_right, true_and, and_true, List.map_cons, List.map_nil, List.set_cons_zero, List.set_cons_succ, List.length_cons, List.length_nil, List.cons_append, List.nil_append, List.reduceReplicate, Nat.reduceSub, Nat.reduceAdd, Nat.reduceLT, Nat.reduceLeDiff, Nat.zero_lt_succ, Nat.lt_add_left_iff_pos, Nat.succ_lt_succ_iff, D.int.injEq, D.bl.injEq, D.str.injEq, D.tup.injEq, D.lst.injEq, D.own.injEq, decide_eq_true_eq, Bool.not_eq_true', decide_eq_false_iff_not, if_true, if_false, ite_true, ite_false, Bool.false_eq_true, reduceCtorEq, false_and, exists_false, Option.map_some, Option.map_none, Option.bind_some, Option.getD_some]
        refine (draw (n := n + 28) (m := 2) (by decide) (by decide) D8.well).mono fun d S9 ⟨v9, e9, a9, b9, D9⟩ => ?_
        subst e9
        have DD := (D7.trans D8).trans D9
        have R9 := R6.dr hwp DD
        have hR9 := R9.1
        have hlt9 : (us.map rowD).length < LIM := by rw [List.length_map]; have := R9.2.2; unfold LIM; omega
        rw [← hdoor]
        simp only [shown (n := n + 9) hsm, same (n := n + 28), me_append _ _ _ hR9, w_var, w_con, w_glob, w_bin, w_neg, w_not, w_and, w_or, w_ifx, w_cmp, w_tup, w_frz, w_own, w_sub, w_slc, w_call, w_callk, w_bi, w_isi, w_me, w_tab, w_ono, w_oyes, w_nil, w_cons, w_tnil, w_tcons, w_disp, w_comp, w_cat, w_rep, w_nslc, w_rev, w_ival, w_irng, w_gname, w_gtup, w_gsub, w_gsnil, w_gscons, w_sexpr, w_asg, w_par, w_ret, w_retN, w_ifs, w_for, w_pass, w_brk, w_cont, w_snil, w_scons, nxt_nx, nxt_rt, nxt_bk, nxt_ct, fin_rt, fin_nx, is_ok, is_no, is_bind, is_guard, is_of, bin_addI, bin_addS, bin_addT, bin_sub, bin_mul, bin_mulT, bin_fdiv, bin_mod, bin_pow, look_int, look_str, look_bl, look_non, look_tup, look_lst, look_sq, items_tup, items_lst, items_sq, list_lst, list_sq, cmp_lt, cmp_le, cmp_gt, cmp_ge, cmp_eq, cmp_ne, eq_int, eq_str, eq_bl, cmp_isN, cmp_isB, cmp_isnot, cmp_inT, cmp_inL, cmp_ninL, sub_tup, sub_lst, sub_sq, atP0, atP1, atP2, atP3, atP4, atP5, len_tup, len_lst, len_sq, len_str, bi_abs, bi_int, bi_strI, bi_strS, bi_tupL, bi_tupT, bi_tupS, bi_max2, bi_min2, bi_all, bi_any, bi_sum, me_join, it_tup, it_lst, it_sq, slc_tup, opt_none, opt_some, cut1, exists_and_left, List.singleton_append, pick, isTupD, typed, isTy, wipeE, Int.reduceEq, Int.reduceLT, Int.reduceSub, Int.reduceNeg, ex_if, ex_some, ex_map, List.any_cons, List.any_nil, Bool.or_false, Bool.false_or, Bool.or_true, Bool.true_or, decide_true, decide_false, List.getElem?_cons_zero, List.getElem?_cons_succ, Option.some.injEq, exists_eq_left', exists_eq_left, exists_eq_right, true_and, and_true, List.map_cons, List.map_nil, List.set_cons_zero, List.set_cons_succ, List.length_cons, List.length_nil, List.cons_append, List.nil_append, List.reduceReplicate, Nat.reduceSub, Nat.reduceAdd, Nat.reduceLT, Nat.reduceLeDiff, Nat.zero_lt_succ, Nat.lt_add_left_iff_pos, Nat.succ_lt_succ_iff, D.int.injEq, D.bl.injEq, D.str.injEq, D.tup.injEq, D.lst.injEq, D.own.injEq, decide_eq_true_eq, Bool.not_eq_true', decide_eq_false_iff_not, if_true, if_false, ite_true, ite_false, Bool.false_eq_true, reduceCtorEq, false_and, exists_false, Option.map_some, Option.map_none, Option.bind_some, Option.getD_some]
        refine ⟨by decide, hlt9, ?_⟩
        refine ⟨by omega, D9.well.setAbove (by omega) _, us ++ [t], _, _, _, _, R9.add hsm, rfl⟩
    · subst he
      try simp only [w_var, w_con, w_glob, w_bin, w_neg, w_not, w_and, w_or, w_ifx, w_cmp, w_tup, w_frz, w_own, w_sub, w_slc, w_call, w_callk, w_bi, w_isi, w_me, w_tab, w_ono, w_oyes, w_nil, w_cons, w_tnil, w_tcons, w_disp, w_comp, w_cat, w_rep, w_nslc, w_rev, w_ival, w_irng, w_gname, w_gtup, w_gsub, w_gsnil, w_gscons, w_sexpr, w_asg, w_par, w_ret, w_retN, w_ifs, w_for, w_pass, w_brk, w_cont, w_snil, w_scons, nxt_nx, nxt_rt, nxt_bk, nxt_ct, fin_rt, fin_nx, is_ok, is_no, is_bind, is_guard, is_of, bin_addI, bin_addS, bin_addT, bin_sub, bin_mul, bin_mulT, bin_fdiv, bin_mod, bin_pow, look_int, look_str, look_bl, look_non, look_tup, look_lst, look_sq, items_tup, items_lst, items_sq, list_lst, list_sq, cmp_lt, cmp_le, cmp_gt, cmp_ge, cmp_eq, cmp_ne, eq_int, eq_str, eq_bl, cmp_isN, cmp_isB, cmp_isnot, cmp_inT, cmp_inL, cmp_ninL, sub_tup, sub_lst, sub_sq, atP0, atP1, atP2, atP3, atP4, atP5, len_tup, len_lst, len_sq, len_str, bi_abs, bi_int, bi_strI, bi_strS, bi_tupL, bi_tupT, bi_tupS, bi_max2, bi_min2, bi_all, bi_any, bi_sum, me_join, it_tup, it_lst, it_sq, slc_tup, opt_none, opt_some, cut1, exists_and_left, List.singleton_append, pick, isTupD, typed, isTy, wipeE, Int.reduceEq, Int.reduceLT, Int.reduceSub, Int.reduceNeg, ex_if, ex_some, ex_map, List.any_cons, List.any_nil, Bool.or_false, Bool.false_or, Bool.or_true, Bool.true_or, decide_true, decide_false, List.getElem?_cons_zero, List.getElem?_cons_succ, Option.some.injEq, exists_eq_left', exists_eq_left, exists_eq_right, true_and, and_true, List.map_cons, List.map_nil, List.set_cons_zero, List.set_cons_succ, List.length_cons, List.length_nil, List.cons_append, List.nil_append, List.reduceReplicate, Nat.reduceSub, Nat.reduceAdd, Nat.reduceLT, Nat.reduceLeDiff, Nat.zero_lt_succ, Nat.lt_add_left_iff_pos, Nat.succ_lt_succ_iff, D.int.injEq, D.bl.injEq, D.str.injEq, D.tup.injEq, D.lst.injEq, D.own.injEq, decide_eq_true_eq, Bool.not_eq_true', decide_eq_false_iff_not, if_true, if_false, ite_true, ite_false, Bool.false_eq_true, reduceCtorEq, false_and, exists_false, Option.map_some, Option.map_none, Option.bind_some, Option.getD_some]
      exact ⟨us, _, _, _, _, _, _, ⟨R6.1, R6.2.1, Nat.le_trans R6.2.2 (by show 7 * j + 1 + 6 ≤ 7 * (j + 1); omega)⟩, rfl⟩
  · rw [rangeL_len] at hR
    subst he
    have hrev : look S' (.own 0) = .lst (ts.map rowD) := look_own _ _ hR.1
    simp only [hrev, ← List.map_reverse, w_var, w_con, w_glob, w_bin, w_neg, w_not, w_and, w_or, w_ifx, w_cmp, w_tup, w_frz, w_own, w_sub, w_slc, w_call, w_callk, w_bi, w_isi, w_me, w_tab, w_ono, w_oyes, w_nil, w_cons, w_tnil, w_tcons, w_disp, w_comp, w_cat, w_rep, w_nslc, w_rev, w_ival, w_irng, w_gname, w_gtup, w_gsub, w_gsnil, w_gscons, w_sexpr, w_asg, w_par, w_ret, w_retN, w_ifs, w_for, w_pass, w_brk, w_cont, w_snil, w_scons, nxt_nx, nxt_rt, nxt_bk, nxt_ct, fin_rt, fin_nx, is_ok, is_no, is_bind, is_guard, is_of, bin_addI, bin_addS, bin_addT, bin_sub, bin_mul, bin_mulT, bin_fdiv, bin_mod, bin_pow, look_int, look_str, look_bl, look_non, look_tup, look_lst, look_sq, items_tup, items_lst, items_sq, list_lst, list_sq, cmp_lt, cmp_le, cmp_gt, cmp_ge, cmp_eq, cmp_ne, eq_int, eq_str, eq_bl, cmp_isN, cmp_isB, cmp_isnot, cmp_inT, cmp_inL, cmp_ninL, sub_tup, sub_lst, sub_sq, atP0, atP1, atP2, atP3, atP4, atP5, len_tup, len_lst, len_sq, len_str, bi_abs, bi_int, bi_strI, bi_strS, bi_tupL, bi_tupT, bi_tupS, bi_max2, bi_min2, bi_all, bi_any, bi_sum, me_join, it_tup, it_lst, it_sq, slc_tup, opt_none, opt_some, cut1, exists_and_left, List.singleton_append, pick, isTupD, typed, isTy, wipeE, Int.reduceEq, Int.reduceLT, Int.reduceSub, Int.reduceNeg, ex_if, ex_some, ex_map, List.any_cons, List.any_nil, Bool.or_false, Bool.false_or, Bool.or_true, Bool.true_or, decide_true, decide_false, List.getElem?_cons_zero, List.getElem?_cons_succ, Option.some.injEq, exists_eq_left', exists_eq_left, exists_eq_right, true_and, and_true, List.map_cons, List.map_nil, List.set_cons_zero, List.set_cons_succ, List.length_cons, List.length_nil, List.cons_append, List.nil_append, List.reduceReplicate, Nat.reduceSub, Nat.reduceAdd, Nat.reduceLT, Nat.reduceLeDiff, Nat.zero_lt_succ, Nat.lt_add_left_iff_pos, Nat.succ_lt_succ_iff, D.int.injEq, D.bl.injEq, D.str.injEq, D.tup.injEq, D.lst.injEq, D.own.injEq, decide_eq_true_eq, Bool.not_eq_true', decide_eq_false_iff_not, if_true, if_false, ite_true, ite_false, Bool.false_eq_true, reduceCtorEq, false_and, exists_false, Option.map_some, Option.map_none, Option.bind_some, Option.getD_some]
    refine w_forL (fun i e S' => ∃ (x2 x3 x4 x5 x6 x7 : Option D), e = [some (.sq (ns.map D.int)), some (.own 0), x2, x3, x4, x5, x6, x7]) ⟨_, _, _, _, _, _, rfl⟩ (fun _ _ _ _ _ => ok_nil) (fun i x e S' hx ⟨x2, x3, x4, x5, x6, x7, he⟩ => ?_) (fun e S' ⟨x2, x3, x4, x5, x6, x7, he⟩ => ?_)
    · rw [List.getElem?_map] at hx
      obtain ⟨t, ht, rfl⟩ := Option.map_eq_some_iff.mp hx
      have hsm : SmT t := hR.2.1 t (List.mem_reverse.mp (List.mem_of_getElem? ht))
      subst he
      simp only [rowD, w_var, w_con, w_glob, w_bin, w_neg, w_not, w_and, w_or, w_ifx, w_cmp, w_tup, w_frz, w_own, w_sub, w_slc, w_call, w_callk, w_bi, w_isi, w_me, w_tab, w_ono, w_oyes, w_nil, w_cons, w_tnil, w_tcons, w_disp, w_comp, w_cat, w_rep, w_nslc, w_rev, w_ival, w_irng, w_gname, w_gtup, w_gsub, w_gsnil, w_gscons, w_sexpr, w_asg, w_par, w_ret, w_retN, w_ifs, w_for, w_pass, w_brk, w_cont, w_snil, w_scons, nxt_nx, nxt_rt, nxt_bk, nxt_ct, fin_rt, fin_nx, is_ok, is_no, is_bind, is_guard, is_of, bin_addI, bin_addS, bin_addT, bin_sub, bin_mul, bin_mulT, bin_fdiv, bin_mod, bin_pow, look_int, look_str, look_bl, look_non, look_tup, look_lst, look_sq, items_tup, items_lst, items_sq, list_lst, list_sq, cmp_lt, cmp_le, cmp_gt, cmp_ge, cmp_eq, cmp_ne, eq_int, eq_str, eq_bl, cmp_isN, cmp_isB, cmp_isnot, cmp_inT, cmp_inL, cmp_ninL, sub_tup, sub_lst, sub_sq, atP0, atP1, atP2, atP3, atP4, atP5, len_tup, len_lst, len_sq, len_str, bi_abs, bi_int, bi_strI, bi_strS, bi_tupL, bi_tupT, bi_tupS, bi_max2, bi_min2, bi_all, bi_any, bi_sum, me_join, it_tup, it_lst, it_sq, slc_tup, opt_none, opt_some, cut1, exists_and_left, List.singleton_append, pick, isTupD, typed, isTy, wipeE, Int.reduceEq, Int.reduceLT, Int.reduceSub, Int.reduceNeg, ex_if, ex_some, ex_map, List.any_cons, List.any_nil, Bool.or_false, Bool.false_or, Bool.or_true, Bool.true_or, decide_true, decide_false, List.getElem?_cons_zero, List.getElem?_cons_succ, Option.some.injEq, exists_eq_left', exists_eq_left, exists_eq_right, true_and, and_true, List.map_cons, List.map_nil, List.set_cons_zero, List.set_cons_succ, List.length_cons, List.length_nil, List.cons_append, List.nil_append, List.reduceReplicate, Nat.reduceSub, Nat.reduceAdd, Nat.reduceLT, Nat.reduceLeDiff, Nat.zero_lt_succ, Nat.lt_add_left_iff_pos, Nat.succ_lt_succ_iff, D.int.injEq, D.bl.injEq, D.str.injEq, D.tup.injEq, D.lst.injEq, D.own.injEq, decide_eq_true_eq, Bool.not_eq_true', decide_eq_false_iff_not, if_true, if_false, ite_true, ite_false, Bool.false_eq_true, reduceCtorEq, false_and, exists_false, Option.map_some, Option.map_none, Option.bind_some, Option.getD_some]
      refine ⟨thS_len hsm, ?_⟩
      simp only [shown (n := n + 9) hsm, same (n := n + 28), w_var, w_con, w_glob, w_bin, w_neg, w_not, w_and, w_or, w_ifx, w_cmp, w_tup, w_frz, w_own, w_sub, w_slc, w_call, w_callk, w_bi, w_isi, w_me, w_tab, w_ono, w_oyes, w_nil, w_cons, w_tnil, w_tcons, w_disp, w_comp, w_cat, w_rep, w_nslc, w_rev, w_ival, w_irng, w_gname, w_gtup, w_gsub, w_gsnil, w_gscons, w_sexpr, w_asg, w_par, w_ret, w_retN, w_ifs, w_for, w_pass, w_brk, w_cont, w_snil, w_scons, nxt_nx, nxt_rt, nxt_bk, nxt_ct, fin_rt, fin_nx, is_ok, is_no, is_bind, is_guard, is_of, bin_addI, bin_addS, bin_addT, bin_sub, bin_mul, bin_mulT, bin_fdiv, bin_mod, bin_pow, look_int, look_str, look_bl, look_non, look_tup, look_lst, look_sq, items_tup, items_lst, items_sq, list_lst, list_sq, cmp_lt, cmp_le, cmp_gt, cmp_ge, cmp_eq, cmp_ne, eq_int, eq_str, eq_bl, cmp_isN, cmp_isB, cmp_isnot, cmp_inT, cmp_inL, cmp_ninL, sub_tup, sub_lst, sub_sq, atP0, atP1, atP2, atP3, atP4, atP5, len_tup, len_lst, len_sq, len_str, bi_abs, bi_int, bi_strI, bi_strS, bi_tupL, bi_tupT, bi_tupS, bi_max2, bi_min2, bi_all, bi_any, bi_sum, me_join, it_tup, it_lst, it_sq, slc_tup, opt_none, opt_some, cut1, exists_and_left, List.singleton_append, pick, isTupD, typed, isTy, wipeE, Int.reduceEq, Int.reduceLT, Int.reduceSub, Int.reduceNeg, ex_if, ex_some, ex_map, List.any_cons, List.any_nil, Bool.or_false, Bool.false_or, Bool.or_true, Bool.true_or, decide_true, decide_false, List.getElem?_cons_zero, List.getElem?_cons_succ, Option.some.injEq, exists_eq_left', exists_eq_left, exists_eq_right, true_and, and_true, List.map_cons, List.map_nil, List.set_cons_zero, List.set_cons_succ, List.length_cons, List.length_nil, List.cons_append, List.nil_append, List.reduceReplicate, Nat.reduceSub, Nat.reduceAdd, Nat.reduceLT, Nat.reduceLeDiff, Nat.zero_lt_succ, Nat.lt_add_left_iff_pos, Nat.succ_lt_succ_iff, D.int.injEq, D.bl.injEq, D.str.injEq, D.tup.injEq, D.lst.injEq, D.own.injEq, decide_eq_true_eq, Bool.not_eq_true', decide_eq_false_iff_not, if_true, if_false, ite_true, ite_false, Bool.false_eq_true, reduceCtorEq, false_and, exists_false, Option.map_some, Option.map_none, Option.bind_some, Option.getD_some]
      exact ⟨_, _, _, _, _, _, rfl⟩
    · subst he
      simp only [finish_nil (d := .bl true) rfl, w_var, w_con, w_glob, w_bin, w_neg, w_not, w_and, w_or, w_ifx, w_cmp, w_tup, w_frz, w_own, w_sub, w_slc, w_call, w_callk, w_bi, w_isi, w_me, w_tab, w_ono, w_oyes, w_nil, w_cons, w_tnil, w_tcons, w_disp, w_comp, w_cat, w_rep, w_nslc, w_rev, w_ival, w_irng, w_gname, w_gtup, w_gsub, w_gsnil, w_gscons, w_sexpr, w_asg, w_par, w_ret, w_retN, w_ifs, w_for, w_pass, w_brk, w_cont, w_snil, w_scons, nxt_nx, nxt_rt, nxt_bk, nxt_ct, fin_rt, fin_nx, is_ok, is_no, is_bind, is_guard, is_of, bin_addI, bin_addS, bin_addT, bin_sub, bin_mul, bin_mulT, bin_fdiv, bin_mod, bin_pow, look_int, look_str, look_bl, look_non, look_tup, look_lst, look_sq, items_tup, items_lst, items_sq, list_lst, list_sq, cmp_lt, cmp_le, cmp_gt, cmp_ge, cmp_eq, cmp_ne, eq_int, eq_str, eq_bl, cmp_isN, cmp_isB, cmp_isnot, cmp_inT, cmp_inL, cmp_ninL, sub_tup, sub_lst, sub_sq, atP0, atP1, atP2, atP3, atP4, atP5, len_tup, len_lst, len_sq, len_str, bi_abs, bi_int, bi_strI, bi_strS, bi_tupL, bi_tupT, bi_tupS, bi_max2, bi_min2, bi_all, bi_any, bi_sum, me_join, it_tup, it_lst, it_sq, slc_tup, opt_none, opt_some, cut1, exists_and_left, List.singleton_append, pick, isTupD, typed, isTy, wipeE, Int.reduceEq, Int.reduceLT, Int.reduceSub, Int.reduceNeg, ex_if, ex_some, ex_map, List.any_cons, List.any_nil, Bool.or_false, Bool.false_or, Bool.or_true, Bool.true_or, decide_true, decide_false, List.getElem?_cons_zero, List.getElem?_cons_succ, Option.some.injEq, exists_eq_left', exists_eq_left, exists_eq_right, true_and, and_true, List.map_cons, List.map_nil, List.set_cons_zero, List.set_cons_succ, List.length_cons, List.length_nil, List.cons_append, List.nil_append, List.reduceReplicate, Nat.reduceSub, Nat.reduceAdd, Nat.reduceLT, Nat.reduceLeDiff, Nat.zero_lt_succ, Nat.lt_add_left_iff_pos, Nat.succ_lt_succ_iff, D.int.injEq, D.bl.injEq, D.str.injEq, D.tup.injEq, D.lst.injEq, D.own.injEq, decide_eq_true_eq, Bool.not_eq_true', decide_eq_false_iff_not, if_true, if_false, ite_true, ite_false, Bool.false_eq_true, reduceCtorEq, false_and, exists_false, Option.map_some, Option.map_none, Option.bind_some, Option.getD_some]
end K47

theorem K47.law_true (ns : List Int) (hl : ns.length ≤ 63) (hb : ∀ z ∈ ns, PySem.Builtin.Int.intBits z ≤ 1048576) : ∃ S', Ev.callF K47.tab K47.G (10 ^ 310) 30 29 [.sq (ns.map Ev.D.int)] [] = .ok (.bl true) S' :=
  ⟨_, K47.law (n := 0) (Nat.le_refl _) (fun z hz => by
    have h := hb z hz
    by_cases h0 : z = 0
    · subst h0
      decide
    · unfold PySem.Builtin.Int.intBits at h
      rw [if_neg (by simpa using h0)] at h
      unfold Ev.bits
      omega) hl⟩

open PySem PySem.W PyProof.Rows
set_option maxHeartbeats 0 in
theorem PySem.Challenge.cw_sidebooks_k47_whole_texts_shown_holds : PySem.Challenge.rw_sidebooks_k47_whole_texts_shown.Holds := by
  w_on; o_law; k_head; (case hw => w_witness2)
  k_fill
  refine L2.walk_ofB (l := PySem.Challenge.rw_sidebooks_k47_whole_texts_shown) (n := 63) (k := 30) (x := "_law_script") (CX := fun _ => L2.CX0) (sp := fun w => Ev.spF _ (Ev.callF K47.tab K47.G (10 ^ 310) 30 29)) rfl (by decide) rfl ⟨rfl, by decide, by decide⟩ (fun w h Y => PySem.W.kIn_of Y) ?F (fun _ _ a ns hl hb hO hS => Ev.sp_of hO hS (K47.law_true ns hl hb)) (fun _ _ _ _ _ h => h)
  case F =>
    intro w mg fa h KX G hmg
    refine' K47.all_mk KX G hmg ?a0 ?l0 ?c0 ?k0 ?a1 ?l1 ?c1 ?k1 ?a2 ?l2 ?c2 ?k2 ?a3 ?l3 ?c3 ?k3 ?a4 ?l4 ?c4 ?k4 ?a5 ?l5 ?c5 ?k5 ?a6 ?l6 ?c6 ?k6 ?a7 ?l7 ?c7 ?k7 ?a8 ?l8 ?c8 ?k8 ?a9 ?l9 ?c9 ?k9 ?a10 ?l10 ?c10 ?k10 ?a11 ?l11 ?c11 ?k11 ?a12 ?l12 ?c12 ?k12 ?a13 ?l13 ?c13 ?k13 ?a14 ?l14 ?c14 ?k14 ?a15 ?l15 ?c15 ?k15 ?a16 ?l16 ?c16 ?k16 ?a17 ?l17 ?c17 ?k17 ?a18 ?l18 ?c18 ?k18 ?a19 ?l19 ?c19 ?k19 ?a20 ?l20 ?c20 ?k20 ?a21 ?l21 ?c21 ?k21 ?a22 ?l22 ?c22 ?k22 ?a23 ?l23 ?c23 ?k23 ?a24 ?l24 ?c24 ?k24 ?a25 ?l25 ?c25 ?k25 ?a26 ?l26 ?c26 ?k26 ?a27 ?l27 ?c27 ?k27 ?a28 ?l28 ?c28 ?k28 ?a29 ?l29 ?c29 ?k29 ?z_str ?z_len ?z_int ?z_max ?z_abs ?z_all ?z_tuple ?z_min ?z_isinstance ?z_bool ?z_list ?z_range ?ca0 ?cr0 ?ca1 ?cl1 ?cz1 ?cr1 ?ta0 ?tl0 ?tt0
    (case a0 => k_is)
    (case l0 => k_is)
    (case c0 => k_is)
    (case k0 => k_is)
    (case a1 => k_is)
    (case l1 => k_is)
    (case c1 => k_is)
    (case k1 => k_is)
    (case a2 => k_is)
    (case l2 => k_is)
    (case c2 => k_is)
    (case k2 => k_is)
    (case a3 => k_is)
    (case l3 => k_is)
    (case c3 => k_is)
    (case k3 => k_is)
    (case a4 => k_is)
    (case l4 => k_is)
    (case c4 => k_is)
    (case k4 => k_is)
    (case a5 => k_is)
    (case l5 => k_is)
    (case c5 => k_is)
    (case k5 => k_is)
    (case a6 => k_is)
    (case l6 => k_is)
    (case c6 => k_is)
    (case k6 => k_is)
    (case a7 => k_is)
    (case l7 => k_is)
    (case c7 => k_is)
    (case k7 => k_is)
    (case a8 => k_is)
    (case l8 => k_is)
    (case c8 => k_is)
    (case k8 => k_is)
    (case a9 => k_is)
    (case l9 => k_is)
    (case c9 => k_is)
    (case k9 => k_is)
    (case a10 => k_is)
    (case l10 => k_is)
    (case c10 => k_is)
    (case k10 => k_is)
    (case a11 => k_is)
    (case l11 => k_is)
    (case c11 => k_is)
    (case k11 => k_is)
    (case a12 => k_is)
    (case l12 => k_is)
    (case c12 => k_is)
    (case k12 => k_is)
    (case a13 => k_is)
    (case l13 => k_is)
    (case c13 => k_is)
    (case k13 => k_is)
    (case a14 => k_is)
    (case l14 => k_is)
    (case c14 => k_is)
    (case k14 => k_is)
    (case a15 => k_is)
    (case l15 => k_is)
    (case c15 => k_is)
    (case k15 => k_is)
    (case a16 => k_is)
    (case l16 => k_is)
    (case c16 => k_is)
    (case k16 => k_is)
    (case a17 => k_is)
    (case l17 => k_is)
    (case c17 => k_is)
    (case k17 => k_is)
    (case a18 => k_is)
    (case l18 => k_is)
    (case c18 => k_is)
    (case k18 => k_is)
    (case a19 => k_is)
    (case l19 => k_is)
    (case c19 => k_is)
    (case k19 => k_is)
    (case a20 => k_is)
    (case l20 => k_is)
    (case c20 => k_is)
    (case k20 => k_is)
    (case a21 => k_is)
    (case l21 => k_is)
    (case c21 => k_is)
    (case k21 => k_is)
    (case a22 => k_is)
    (case l22 => k_is)
    (case c22 => k_is)
    (case k22 => k_is)
    (case a23 => k_is)
    (case l23 => k_is)
    (case c23 => k_is)
    (case k23 => k_is)
    (case a24 => k_is)
    (case l24 => k_is)
    (case c24 => k_is)
    (case k24 => k_is)
    (case a25 => k_is)
    (case l25 => k_is)
    (case c25 => k_is)
    (case k25 => k_is)
    (case a26 => k_is)
    (case l26 => k_is)
    (case c26 => k_is)
    (case k26 => k_is)
    (case a27 => k_is)
    (case l27 => k_is)
    (case c27 => k_is)
    (case k27 => k_is)
    (case a28 => k_is)
    (case l28 => k_is)
    (case c28 => k_is)
    (case k28 => k_is)
    (case a29 => k_is)
    (case l29 => k_is)
    (case c29 => k_is)
    (case k29 => k_is)
    (case z_str => k_is)
    (case z_len => k_is)
    (case z_int => k_is)
    (case z_max => k_is)
    (case z_abs => k_is)
    (case z_all => k_is)
    (case z_tuple => k_is)
    (case z_min => k_is)
    (case z_isinstance => k_is)
    (case z_bool => k_is)
    (case z_list => k_is)
    (case z_range => k_is)
    (case ca0 => k_is)
    (case cr0 => exact ⟨_, rfl⟩)
    (case ca1 => k_is)
    (case cl1 => k_is)
    (case cz1 => decide)
    (case cr1 => exact ⟨_, _, rfl, ⟨_, rfl⟩, ⟨_, _, rfl, ⟨_, rfl⟩, ⟨_, _, rfl, ⟨_, rfl⟩, rfl⟩⟩⟩)
    (case ta0 => k_is)
    (case tl0 => k_is)
    (case tt0 => exact ⟨⟨_, (.str "-" : L2.V), rfl, rfl, rfl, ⟨_, rfl⟩, fun _ _ => .str _⟩, ⟨_, (.str "0" : L2.V), rfl, rfl, rfl, ⟨_, rfl⟩, fun _ _ => .str _⟩, ⟨_, (.str "+" : L2.V), rfl, rfl, rfl, ⟨_, rfl⟩, fun _ _ => .str _⟩, ⟨_, (.str "?" : L2.V), rfl, rfl, rfl, ⟨_, rfl⟩, fun _ _ => .str _⟩, True.intro⟩)

