import PyProof.Rows.All
import Wide.All
import OpenK.AllK
import Wide.FinOn
import HandS.ForMost
import HandS.Exc
import HandS.ExcOwn
import HandS.Flow
import HandS.Style
import HandS.Wide
import HandS.IsInst
import HandS.CallSlots
import HandS.Defaults
import PyProof.StrOps2
import HandS.Text
import HandS.Conv
import PyProof.ListStr
import HandS.Iter
import HandS.HeadHook2
import HandS.HeadEnd
import HandS.Head0
import HandS.Head1
import HandS.Head2
import HandS.HeadHook1
import Lean
import PySem.Challenge.RW_paidsteps_k44_words_of_texts
section
set_option autoImplicit false
/-! Ev0: the plain reading of the subset: data, heap, expressions, statements. -/
namespace Ev

inductive D where
  | non | bl (b : Bool) | int (i : Int) | str (s : List Nat) | tup (xs : List D) | fro (xs : List D) | ref (a : Nat)
  deriving Inhabited

mutual
def D.beq : D → D → Bool
  | .non, .non => true
  | .bl a, .bl b => a == b
  | .int a, .int b => a == b
  | .str a, .str b => a == b
  | .tup a, .tup b => D.beqs a b
  | .fro a, .fro b => D.beqs a b
  | .ref a, .ref b => a == b
  | _, _ => false
def D.beqs : List D → List D → Bool
  | [], [] => true
  | x :: xs, y :: ys => D.beq x y && D.beqs xs ys
  | _, _ => false
end
mutual
theorem D.beq_eq : ∀ a b : D, D.beq a b = true ↔ a = b
  | .non, b => by cases b <;> simp [D.beq]
  | .bl x, b => by cases b <;> simp [D.beq]
  | .int x, b => by cases b <;> simp [D.beq]
  | .str x, b => by cases b <;> simp [D.beq]
  | .ref x, b => by cases b <;> simp [D.beq]
  | .tup xs, b => by
    cases b with
    | tup ys => simp [D.beq, D.beqs_eq xs ys]
    | _ => simp [D.beq]
  | .fro xs, b => by
    cases b with
    | fro ys => simp [D.beq, D.beqs_eq xs ys]
    | _ => simp [D.beq]
theorem D.beqs_eq : ∀ a b : List D, D.beqs a b = true ↔ a = b
  | [], b => by cases b <;> simp [D.beqs]
  | x :: xs, b => by
    cases b with
    | nil => simp [D.beqs]
    | cons y ys => simp [D.beqs, D.beq_eq x y, D.beqs_eq xs ys]
end
instance : DecidableEq D := fun a b => if h : D.beq a b = true then .isTrue ((D.beq_eq a b).mp h) else .isFalse fun e => h ((D.beq_eq a b).mpr e)

/-- what stands in the heap: a list, a dict (being walked or not), an instance of a class -/
inductive MO where
  | lst (xs : List D) | dic (lk : Bool) (kvs : List (D × D)) | ins (c : Nat) (fs : List (Nat × D))
  deriving Inhabited, DecidableEq

abbrev Hx := List MO
abbrev Sx := List (Option D)

/-- an error: its class, its fields -/
structure Exc where
  cls : Nat
  fs : List (Nat × D)
  deriving Inhabited, DecidableEq

inductive Rs (α : Type) where
  | ok (a : α) (h : Hx)
  | ex (x : Exc) (h : Hx)
  | no

def Rs.bind {α β : Type} (m : Rs α) (f : α → Hx → Rs β) : Rs β := match m with
  | .ok a h => f a h
  | .ex x h => .ex x h
  | .no => .no

inductive SR where
  | nx (s : Sx) (h : Hx)
  | rt (d : D) (h : Hx)
  | bk (s : Sx) (h : Hx)
  | ct (s : Sx) (h : Hx)
  | ex (x : Exc) (s : Sx) (h : Hx)
  | no

/-- from an expression's result to a statement's -/
def Rs.run {α : Type} (m : Rs α) (s : Sx) (f : α → Hx → SR) : SR := match m with
  | .ok a h => f a h
  | .ex x h => .ex x s h
  | .no => .no
def SR.seq (m : SR) (f : Sx → Hx → SR) : SR := match m with
  | .nx s h => f s h
  | r => r
def Rs.of {α : Type} (o : Option α) (h : Hx) : Rs α := match o with
  | some a => .ok a h
  | none => .no

/-- the largest length -/
def LIM : Nat := 16777216

/-! ### values -/
def seqOf (h : Hx) : D → Option (List D)
  | .tup xs => some xs
  | .fro xs => some xs
  | .ref a => match h[a]? with
    | some (.lst xs) => some xs
    | _ => none
  | _ => none
def lstOf (h : Hx) : D → Option (List D)
  | .fro xs => some xs
  | .ref a => match h[a]? with
    | some (.lst xs) => some xs
    | _ => none
  | _ => none
def truth (h : Hx) : D → Option Bool
  | .non => some false
  | .bl b => some b
  | .int i => some (i != 0)
  | .str s => if s.length ≤ LIM then some (!s.isEmpty) else none
  | .tup xs => some (!xs.isEmpty)
  | .fro xs => some (!xs.isEmpty)
  | .ref a => match h[a]? with
    | some (.lst xs) => some (!xs.isEmpty)
    | some (.dic false kvs) => some (!kvs.isEmpty)
    | _ => none

/-- data without the heap, for ==: n storeys -/
inductive P where
  | non | bl (b : Bool) | int (i : Int) | str (s : List Nat) | tup (xs : List P) | lst (xs : List P)
def allSome {α β : Type} (f : α → Option β) : List α → Option (List β)
  | [] => some []
  | x :: xs => match f x, allSome f xs with
    | some y, some ys => some (y :: ys)
    | _, _ => none
def goodSign (c : Nat) : Bool := decide (c < 1114112)
def goodStr (s : List Nat) : Bool := s.all goodSign && decide (s.length ≤ LIM)
def toP (h : Hx) : Nat → D → Option P
  | 0, _ => none
  | _ + 1, .non => some .non
  | _ + 1, .bl b => some (.bl b)
  | _ + 1, .int i => some (.int i)
  | _ + 1, .str s => if goodStr s then some (.str s) else none
  | n + 1, .tup xs => (allSome (toP h n) xs).map P.tup
  | n + 1, .fro xs => (allSome (toP h n) xs).map P.lst
  | n + 1, .ref a => match h[a]? with
    | some (.lst xs) => (allSome (toP h n) xs).map P.lst
    | _ => none
mutual
def P.eqv : P → P → Bool
  | .non, .non => true
  | .bl a, .bl b => a == b
  | .bl a, .int j => (if a then 1 else 0) == j
  | .int i, .bl b => i == (if b then 1 else 0)
  | .int i, .int j => i == j
  | .str x, .str y => x == y
  | .tup xs, .tup ys => P.eqvs xs ys
  | .lst xs, .lst ys => P.eqvs xs ys
  | _, _ => false
def P.eqvs : List P → List P → Bool
  | [], [] => true
  | x :: xs, y :: ys => P.eqv x y && P.eqvs xs ys
  | _, _ => false
end
/-- == -/
def eqD (h : Hx) (x y : D) : Option Bool := match toP h 60 x, toP h 60 y with
  | some p, some q => some (P.eqv p q)
  | _, _ => none

/-! ### places -/
def ixOf (n : Nat) (i : Int) : Option Nat := if 0 ≤ i then (if i < n then some i.toNat else none) else if -(n : Int) ≤ i then some (i + n).toNat else none
def atD {α : Type} (xs : List α) (i : Int) : Option α := match ixOf xs.length i with
  | some j => xs[j]?
  | none => none
def sIx (n d : Nat) : Option Int → Nat
  | none => d
  | some v => if v < 0 then (v + (n : Int)).toNat else min v.toNat n
def cut {α : Type} (xs : List α) (lo hi : Option Int) : List α := (xs.drop (sIx xs.length 0 lo)).take (sIx xs.length xs.length hi - sIx xs.length 0 lo)

/-! ### keys -/
def isKey : D → Bool
  | .int _ => true
  | .str s => goodStr s
  | _ => false
def dGet (kvs : List (D × D)) (k : D) : Option D := match kvs with
  | [] => none
  | (x, v) :: r => if x = k then some v else dGet r k
def dPut (kvs : List (D × D)) (k v : D) : List (D × D) :=
  if (kvs.any fun kv => decide (kv.1 = k)) = true then kvs.map (fun kv => if kv.1 = k then (kv.1, v) else kv) else kvs ++ [(k, v)]
def fPut (fs : List (Nat × D)) (f : Nat) (v : D) : List (Nat × D) := match fs with
  | [] => [(f, v)]
  | (g, u) :: r => if g = f then (g, v) :: r else (g, u) :: fPut r f v
def fGet (fs : List (Nat × D)) (f : Nat) : Option D := match fs with
  | [] => none
  | (g, u) :: r => if g = f then some u else fGet r f

/-! ### operators -/
inductive Bop where
  | add | sub | mul | fdiv | mod | pow
  deriving DecidableEq
inductive Cop where
  | eq | ne | lt | le | gt | ge | inn | nin
  deriving DecidableEq
/-- a new object -/
def new (o : MO) (h : Hx) : Rs D := .ok (.ref h.length) (h ++ [o])
def mulOk (i j : Int) : Bool := decide (i.natAbs < 2 ^ 64) || decide (j.natAbs < 2 ^ 64) || (decide (i.natAbs.log2 < 400000) && decide (j.natAbs.log2 < 400000))
def divOk (j : Int) : Bool := decide (0 < j) && decide (j.natAbs.log2 < 9000)
def powOk (i j : Int) : Bool := decide (0 ≤ j) && decide (j ≤ 1000000) && decide (i.natAbs < 2 ^ 64)
def binop (o : Bop) (x y : D) (h : Hx) : Rs D := match o, x, y with
  | .add, .int i, .int j => .ok (.int (i + j)) h
  | .add, .str i, .str j => if i.length + j.length ≤ LIM then .ok (.str (i ++ j)) h else .no
  | .add, .tup i, .tup j => if i ≠ [] ∧ i.length + j.length ≤ LIM then .ok (.tup (i ++ j)) h else .no
  | .add, .ref a, .ref b => match h[a]?, h[b]? with
    | some (.lst i), some (.lst j) => if i.length + j.length ≤ LIM then new (.lst (i ++ j)) h else .no
    | _, _ => .no
  | .sub, .int i, .int j => .ok (.int (i - j)) h
  | .mul, .int i, .int j => if mulOk i j then .ok (.int (i * j)) h else .no
  | .mul, .str z, .int j => if 0 ≤ j ∧ j < 1000000 ∧ z.length * j.toNat ≤ LIM then .ok (.str (List.replicate j.toNat z).flatten) h else .no
  | .mul, .ref a, .int j => match h[a]? with
    | some (.lst xs) => if 0 ≤ j ∧ j < 1000000 ∧ xs.length * j.toNat ≤ LIM then new (.lst (List.replicate j.toNat xs).flatten) h else .no
    | _ => .no
  | .fdiv, .int i, .int j => if divOk j then .ok (.int (i / j)) h else .no
  | .mod, .int i, .int j => if 0 < j then .ok (.int (i % j)) h else .no
  | .pow, .int i, .int j => if powOk i j then .ok (.int (i ^ j.toNat)) h else .no
  | _, _, _ => .no
def eqFlat : D → D → Bool
  | .non, .non => true
  | .bl a, .bl b => a == b
  | .bl a, .int b => (if a then 1 else 0) == b
  | .int a, .bl b => a == (if b then 1 else 0)
  | .int a, .int b => a == b
  | .str a, .str b => a == b
  | _, _ => false
def isFlat : D → Bool
  | .non => true
  | .bl _ => true
  | .int _ => true
  | .str _ => true
  | _ => false
def isIn (h : Hx) (x y : D) : Option Bool := match y with
  | .str z => match x with
    | .str [c] => some (decide (c ∈ z))
    | _ => none
  | .tup xs => if isFlat x && xs.all isFlat then some (xs.any fun z => eqFlat z x) else none
  | .fro xs => if isFlat x && xs.all isFlat then some (xs.any fun z => eqFlat z x) else none
  | .ref a => match h[a]? with
    | some (.lst xs) => if isFlat x && xs.all isFlat then some (xs.any fun z => eqFlat z x) else none
    | some (.dic _ kvs) => if isKey x then some (dGet kvs x).isSome else none
    | _ => none
  | _ => none
def cmpop (o : Cop) (x y : D) (h : Hx) : Option Bool := match o with
  | .eq => eqD h x y
  | .ne => (eqD h x y).map (!·)
  | .inn => isIn h x y
  | .nin => (isIn h x y).map (!·)
  | .lt => match x, y with
    | .int i, .int j => some (decide (i < j))
    | _, _ => none
  | .le => match x, y with
    | .int i, .int j => some (decide (i ≤ j))
    | _, _ => none
  | .gt => match x, y with
    | .int i, .int j => some (decide (j < i))
    | _, _ => none
  | .ge => match x, y with
    | .int i, .int j => some (decide (j ≤ i))
    | _, _ => none
/-- x[i] -/
def getIx (x y : D) (h : Hx) : Option D := match x, y with
  | .str z, .int i => if z.length ≤ LIM then (atD z i).map fun c => .str [c] else none
  | .tup xs, .int i => atD xs i
  | .fro xs, .int i => atD xs i
  | .ref a, y => match h[a]? with
    | some (.lst xs) => (match y with
      | .int i => atD xs i
      | _ => none)
    | some (.dic _ kvs) => if isKey y then dGet kvs y else none
    | _ => none
  | _, _ => none
/-- x[lo:hi] -/
def slice (x : D) (lo hi : Option Int) (h : Hx) : Rs D := match x with
  | .str z => if z.length ≤ LIM then .ok (.str (cut z lo hi)) h else .no
  | .tup xs => .ok (.tup (cut xs lo hi)) h
  | .fro xs => new (.lst (cut xs lo hi)) h
  | .ref a => match h[a]? with
    | some (.lst xs) => new (.lst (cut xs lo hi)) h
    | _ => .no
  | _ => .no
/-- x[i] = v -/
def setIx (x y v : D) (h : Hx) : Option Hx := match x, y with
  | .ref a, y => match h[a]? with
    | some (.lst xs) => (match y with
      | .int i => (ixOf xs.length i).map fun j => h.set a (.lst (xs.set j v))
      | _ => none)
    | some (.dic false kvs) => if isKey y && decide (kvs.length < LIM) then some (h.set a (.dic false (dPut kvs y v))) else none
    | _ => none
  | _, _ => none

/-! ### built-ins -/
inductive Bf where
  | len | abs | int | str | list | tuple | max | sum | all | any
  deriving DecidableEq
def digitsOf (n : Nat) : List Nat := (toString n).toList.map Char.toNat
def strOfInt (i : Int) : List Nat := (toString i).toList.map Char.toNat
def intsD : List D → Option (List Int)
  | [] => some []
  | .int i :: r => (intsD r).map (i :: ·)
  | _ :: _ => none
def blsD : List D → Option (List Bool)
  | [] => some []
  | .bl i :: r => (blsD r).map (i :: ·)
  | _ :: _ => none
def maxI : List Int → Option Int
  | [] => none
  | x :: r => some (r.foldl (fun m y => if y > m then y else m) x)
def builtin (b : Bf) (xs : List D) (h : Hx) : Rs D := match b, xs with
  | .len, [.str z] => if z.length ≤ LIM then .ok (.int z.length) h else .no
  | .len, [.tup xs] => .ok (.int xs.length) h
  | .len, [.fro xs] => .ok (.int xs.length) h
  | .len, [.ref a] => match h[a]? with
    | some (.lst xs) => .ok (.int xs.length) h
    | some (.dic false kvs) => .ok (.int kvs.length) h
    | _ => .no
  | .abs, [.int i] => .ok (.int (if i < 0 then -i else i)) h
  | .int, [.int i] => .ok (.int i) h
  | .int, [.bl b] => .ok (.int (if b then 1 else 0)) h
  | .str, [.int i] => if i.natAbs.log2 < 1920 then .ok (.str (strOfInt i)) h else .no
  | .list, [.str z] => if z.length ≤ LIM then new (.lst (z.map fun c => .str [c])) h else .no
  | .list, [x] => match seqOf h x with
    | some xs => new (.lst xs) h
    | none => .no
  | .tuple, [x] => match seqOf h x with
    | some xs => .ok (.tup xs) h
    | none => .no
  | .max, [x] => match lstOf h x with
    | some xs => (match intsD xs with
      | some ns => (match maxI ns with
        | some m => .ok (.int m) h
        | none => .no)
      | none => .no)
    | none => .no
  | .sum, [x] => match lstOf h x with
    | some xs => (match intsD xs with
      | some ns => .ok (.int ns.sum) h
      | none => .no)
    | none => .no
  | .all, [x] => match lstOf h x with
    | some xs => (match blsD xs with
      | some bs => .ok (.bl (bs.all id)) h
      | none => .no)
    | none => .no
  | .any, [x] => match lstOf h x with
    | some xs => (match blsD xs with
      | some bs => .ok (.bl (bs.any id)) h
      | none => .no)
    | none => .no
  | _, _ => .no
/-- the classes that isinstance asks for -/
inductive Ck where
  | int | bool | str | list | tuple | cl (c : Nat)
  deriving DecidableEq
def isOf (h : Hx) (sub : Nat → Nat → Bool) : D → Ck → Bool
  | .int _, .int => true
  | .bl _, .int => true
  | .bl _, .bool => true
  | .str _, .str => true
  | .tup _, .tuple => true
  | .fro _, .list => true
  | .ref a, k => match h[a]?, k with
    | some (.lst _), .list => true
    | some (.ins c _), .cl d => sub c d
    | _, _ => false
  | _, _ => false
def known (h : Hx) : D → Bool
  | .ref a => (h[a]?).isSome
  | _ => true
/-- built-in methods -/
inductive Bm where
  | append | extend | pop | get | join | split | isalnum | startswith
  deriving DecidableEq
def strsD : List D → Option (List (List Nat))
  | [] => some []
  | .str s :: r => (strsD r).map (s :: ·)
  | _ :: _ => none
def joinS (sep : List Nat) : List (List Nat) → List Nat
  | [] => []
  | [x] => x
  | x :: y :: r => x ++ sep ++ joinS sep (y :: r)
/-- text.split(c), c one sign -/
def splitC (c : Nat) : List Nat → List (List Nat)
  | [] => [[]]
  | x :: r => if x = c then [] :: splitC c r else match splitC c r with
    | [] => [[x]]
    | w :: ws => (x :: w) :: ws
def alnumC (c : Nat) : Bool := (decide (48 ≤ c) && decide (c ≤ 57)) || (decide (65 ≤ c) && decide (c ≤ 90)) || (decide (97 ≤ c) && decide (c ≤ 122))
def bmethod (m : Bm) (x : D) (xs : List D) (h : Hx) : Rs D := match m, x, xs with
  | .append, .ref a, [y] => match h[a]? with
    | some (.lst xs) => if xs.length < LIM then .ok .non (h.set a (.lst (xs ++ [y]))) else .no
    | _ => .no
  | .extend, .ref a, [.ref b] => match h[a]?, h[b]? with
    | some (.lst xs), some (.lst ys) => if xs.length + ys.length ≤ LIM then .ok .non (h.set a (.lst (xs ++ ys))) else .no
    | _, _ => .no
  | .pop, .ref a, [] => match h[a]? with
    | some (.lst xs) => (match xs[xs.length - 1]? with
      | some y => .ok y (h.set a (.lst xs.dropLast))
      | none => .no)
    | _ => .no
  | .get, .ref a, [k, d] => match h[a]? with
    | some (.dic false kvs) => if isKey k then .ok ((dGet kvs k).getD d) h else .no
    | _ => .no
  | .join, .str sep, [x] => match seqOf h x with
    | some xs => (match strsD xs with
      | some ss => if (ss.map List.length).sum + ss.length * sep.length ≤ LIM then .ok (.str (joinS sep ss)) h else .no
      | none => .no)
    | none => .no
  | .split, .str s, [.str [c]] => if s.length + 2 ≤ LIM ∧ c < 256 then new (.lst ((splitC c s).map .str)) h else .no
  | .startswith, .str s, [.str t] => .ok (.bl (s.take t.length == t)) h
  | .isalnum, .str s, [] => if s.length ≤ LIM ∧ s.all (fun c => decide (c < 128)) then .ok (.bl (!s.isEmpty && s.all alnumC)) h else .no
  | _, _, _ => .no

/-- which values have the method -/
def hasM (h : Hx) : Bm → D → Bool
  | .append, .ref a => match h[a]? with
    | some (.lst _) => true
    | _ => false
  | .extend, .ref a => match h[a]? with
    | some (.lst _) => true
    | _ => false
  | .pop, .ref a => match h[a]? with
    | some (.lst _) => true
    | _ => false
  | .get, .ref a => match h[a]? with
    | some (.dic false _) => true
    | _ => false
  | .join, .str _ => true
  | .split, .str _ => true
  | .isalnum, .str _ => true
  | .startswith, .str _ => true
  | _, _ => false

/-! ### the syntax -/
mutual
inductive T where
  | non | bl (b : Bool) | int (i : Int) | str (s : List Nat)
  | cst (d : D)
  | var (i : Nat)
  | bin (o : Bop) (a b : T)
  | neg (a : T)
  | not_ (a : T)
  | cmp (o : Cop) (a b : T)
  | isN (a : T) | isnN (a : T)
  | chain (o p : Cop) (a b c : T)
  | and_ (a b : T) | or_ (a b : T)
  | ife (c a b : T)
  | tup (es : Ts) | lst (es : Ts) | dct (ps : Tps)
  | ix (a b : T)
  | sl (a : T) (lo hi : To)
  | rev (a : T)
  | call (f : Nat) (es : Ts)
  | bf (b : Bf) (es : Ts)
  | bm (b : Bm) (a : T) (es : Ts)
  | isi (a : T) (cs : List Ck)
  | lc (own : List Nat) (tg : Tg) (it : It) (ifs : Ts) (e : T)
inductive Ts where
  | nil | cons (e : T) (es : Ts)
inductive Tps where
  | nil | cons (k v : T) (ps : Tps)
inductive To where
  | none | some (e : T)
/-- targets -/
inductive Tg where
  | nm (i : Nat)
  | ix (a b : T)
  | tup (ts : Tgs)
inductive Tgs where
  | nil | cons (t : Tg) (ts : Tgs)
/-- what is walked -/
inductive It where
  | seq (e : T)
  | rng1 (a : T) | rng2 (a b : T)
end

def Tgs.len : Tgs → Nat
  | .nil => 0
  | .cons _ ts => ts.len + 1
/-- what a walk leans on: a list in the heap that must stay as it is -/
inductive Src where
  | none
  | at_ (a : Nat) (xs : List D)
def Src.ok (s : Src) (h : Hx) : Bool := match s with
  | .none => true
  | .at_ a xs => decide (h[a]? = some (.lst xs))
def walkOf (h : Hx) : D → Option (List D × Src)
  | .tup xs => some (xs, .none)
  | .fro xs => some (xs, .none)
  | .str s => if s.length ≤ LIM then some (s.map fun c => .str [c], .none) else none
  | .ref a => match h[a]? with
    | some (.lst xs) => some (xs, .at_ a xs)
    | _ => none
  | _ => none
@[reducible] def rngOk (i : Int) : Bool := decide (-(2 ^ 62) ≤ i) && decide (i < 2 ^ 62)
def rngD (lo : Int) (n : Nat) : List D := (List.range n).map fun (k : Nat) => .int (lo + k)
/-- the slots of a comprehension's own names forgotten -/
def wipeD (s : Sx) : List Nat → Sx
  | [] => s
  | v :: vs => (wipeD s vs).set v none

abbrev Call := Nat → List D → Hx → Rs D

/-- the loop of a comprehension: turn: a turn's answer, some: an item more -/
def lcLoop (turn : D → Hx → Rs (Option D)) (src : Src) : List D → List D → Hx → Rs (List D)
  | [], acc, h => if src.ok h then .ok acc h else .no
  | x :: xs, acc, h => if src.ok h then (match turn x h with
    | .ok (some y) h1 => if acc.length < LIM then lcLoop turn src xs (acc ++ [y]) h1 else .no
    | .ok none h1 => lcLoop turn src xs acc h1
    | _ => .no) else .no

mutual
def evE (C : Call) : T → Sx → Hx → Rs D
  | .non, _, h => .ok .non h
  | .bl b, _, h => .ok (.bl b) h
  | .int i, _, h => .ok (.int i) h
  | .str s, _, h => .ok (.str s) h
  | .cst d, _, h => .ok d h
  | .var i, s, h => match s[i]? with
    | some (some d) => .ok d h
    | _ => .no
  | .bin o a b, s, h => (evE C a s h).bind fun x h1 => (evE C b s h1).bind fun y h2 => binop o x y h2
  | .neg a, s, h => (evE C a s h).bind fun x h1 => match x with
    | .int i => .ok (.int (-i)) h1
    | _ => .no
  | .not_ a, s, h => (evE C a s h).bind fun x h1 => (Rs.of (truth h1 x) h1).bind fun k h2 => .ok (.bl (!k)) h2
  | .cmp o a b, s, h => (evE C a s h).bind fun x h1 => (evE C b s h1).bind fun y h2 => (Rs.of (cmpop o x y h2) h2).bind fun k h3 => .ok (.bl k) h3
  | .isN a, s, h => (evE C a s h).bind fun x h1 => .ok (.bl (decide (x = .non))) h1
  | .isnN a, s, h => (evE C a s h).bind fun x h1 => .ok (.bl (!decide (x = .non))) h1
  | .chain o p a b c, s, h => (evE C a s h).bind fun x h1 => (evE C b s h1).bind fun y h2 => (Rs.of (cmpop o x y h2) h2).bind fun k h3 =>
    if k then (evE C c s h3).bind fun z h4 => (Rs.of (cmpop p y z h4) h4).bind fun k2 h5 => .ok (.bl k2) h5 else .ok (.bl false) h3
  | .and_ a b, s, h => (evE C a s h).bind fun x h1 => (Rs.of (truth h1 x) h1).bind fun k h2 => if k then evE C b s h2 else .ok x h2
  | .or_ a b, s, h => (evE C a s h).bind fun x h1 => (Rs.of (truth h1 x) h1).bind fun k h2 => if k then .ok x h2 else evE C b s h2
  | .ife c a b, s, h => (evT C c s h).bind fun k h1 => if k then evE C a s h1 else evE C b s h1
  | .tup es, s, h => (evEs C es s h).bind fun xs h1 => if xs.length ≤ LIM then .ok (.tup xs) h1 else .no
  | .lst es, s, h => (evEs C es s h).bind fun xs h1 => if xs.length ≤ LIM then new (.lst xs) h1 else .no
  | .dct ps, s, h => (evPs C ps s h).bind fun kvs h1 => if kvs.all (fun kv => isKey kv.1) && decide (kvs.length ≤ 15) then new (.dic false (kvs.foldl (fun a kv => dPut a kv.1 kv.2) [])) h1 else .no
  | .ix a b, s, h => (evE C a s h).bind fun x h1 => (evE C b s h1).bind fun y h2 => Rs.of (getIx x y h2) h2
  | .sl a lo hi, s, h => (evE C a s h).bind fun x h1 => (evO C lo s h1).bind fun l h2 => (evO C hi s h2).bind fun u h3 => slice x l u h3
  | .rev a, s, h => (evE C a s h).bind fun x h1 => match x with
    | .ref p => (match h1[p]? with
      | some (.lst xs) => new (.lst xs.reverse) h1
      | _ => .no)
    | _ => .no
  | .call f es, s, h => (evEs C es s h).bind fun xs h1 => C f xs h1
  | .bf b es, s, h => (evEs C es s h).bind fun xs h1 => builtin b xs h1
  | .bm b a es, s, h => (evE C a s h).bind fun x h1 => if hasM h1 b x then (evEs C es s h1).bind fun xs h2 => bmethod b x xs h2 else .no
  | .isi a cs, s, h => (evE C a s h).bind fun x h1 => if known h1 x then .ok (.bl (cs.any fun k => isOf h1 (fun _ _ => false) x k)) h1 else .no
  | .lc own tg it ifs e, s, h => (evI C it s h).bind fun w h1 =>
    (lcLoop (fun x h2 => match evG C tg x (wipeD s own) h2 with
      | .nx s3 h3 => (evTs C ifs s3 h3).bind fun k h4 => if k then (evE C e s3 h4).bind fun y h5 => .ok (some y) h5 else .ok none h4
      | _ => .no) w.2 w.1 [] h1).bind fun acc h2 => new (.lst acc) h2
def evEs (C : Call) : Ts → Sx → Hx → Rs (List D)
  | .nil, _, h => .ok [] h
  | .cons e es, s, h => (evE C e s h).bind fun x h1 => (evEs C es s h1).bind fun xs h2 => .ok (x :: xs) h2
def evPs (C : Call) : Tps → Sx → Hx → Rs (List (D × D))
  | .nil, _, h => .ok [] h
  | .cons k v ps, s, h => (evE C k s h).bind fun x h1 => (evE C v s h1).bind fun y h2 => (evPs C ps s h2).bind fun r h3 => .ok ((x, y) :: r) h3
def evO (C : Call) : To → Sx → Hx → Rs (Option Int)
  | .none, _, h => .ok none h
  | .some e, s, h => (evE C e s h).bind fun x h1 => match x with
    | .int i => .ok (some i) h1
    | _ => .no
/-- a test -/
def evT (C : Call) : T → Sx → Hx → Rs Bool
  | .not_ a, s, h => (evT C a s h).bind fun k h1 => .ok (!k) h1
  | .and_ a b, s, h => (evT C a s h).bind fun k h1 => if k then evT C b s h1 else .ok false h1
  | .or_ a b, s, h => (evT C a s h).bind fun k h1 => if k then .ok true h1 else evT C b s h1
  | .ife c a b, s, h => (evT C c s h).bind fun k h1 => if k then evT C a s h1 else evT C b s h1
  | t, s, h => (evE C t s h).bind fun x h1 => Rs.of (truth h1 x) h1
/-- the tests of a comprehension -/
def evTs (C : Call) : Ts → Sx → Hx → Rs Bool
  | .nil, _, h => .ok true h
  | .cons e es, s, h => (evT C e s h).bind fun k h1 => if k then evTs C es s h1 else .ok false h1
/-- a store -/
def evG (C : Call) : Tg → D → Sx → Hx → SR
  | .nm i, d, s, h => .nx (s.set i (some d)) h
  | .ix a b, d, s, h => (evE C a s h).run s fun x h1 => (evE C b s h1).run s fun y h2 => match setIx x y d h2 with
    | some h3 => .nx s h3
    | none => .no
  | .tup ts, d, s, h => match d with
    | .tup xs => if xs.length = ts.len then evGs C ts xs s h else .no
    | _ => .no
def evGs (C : Call) : Tgs → List D → Sx → Hx → SR
  | .nil, [], s, h => .nx s h
  | .cons t ts, x :: xs, s, h => (evG C t x s h).seq fun s1 h1 => evGs C ts xs s1 h1
  | _, _, _, _ => .no
def evI (C : Call) : It → Sx → Hx → Rs (List D × Src)
  | .seq e, s, h => (evE C e s h).bind fun x h1 => Rs.of (walkOf h1 x) h1
  | .rng1 a, s, h => (evE C a s h).bind fun x h1 => match x with
    | .int i => if rngOk i then .ok (rngD 0 i.toNat, .none) h1 else .no
    | _ => .no
  | .rng2 a b, s, h => (evE C a s h).bind fun x h1 => (evE C b s h1).bind fun y h2 => match x, y with
    | .int i, .int j => if rngOk i && rngOk j then .ok (rngD i (j - i).toNat, .none) h2 else .no
    | _, _ => .no
end
end Ev
end

section
set_option autoImplicit false
set_option linter.all false
set_option Elab.async false
set_option maxRecDepth 100000
/-! Ev1: how the plain reading's data and heap stand for the model's. -/
namespace Ev
open PySem PySem.Spec PyProof.Rows L2

def strOf (s : List Nat) : Str := ⟨s.toArray⟩
theorem strOf_inj {a b : List Nat} : strOf a = strOf b ↔ a = b := by simp [strOf]
theorem strOf_len (a : List Nat) : (strOf a).length = a.length := by simp [strOf, Str.length]

/-- a list that is never written -/
def SqF (K : PySem.W.Frag) (H : Hp) (a : Addr) (xs : List V) : Prop :=
  (∃ o, H a = some (.frz o (.lst xs))) ∨
    ∃ (o : Obj) (its : Array Value) (n : Nat), K.lookup a = some o ∧ o.cls = .type "list" ∧ o.dict = none ∧ o.data = .seq its n ∧ its.size ≤ sizeLine ∧ Vals xs its.toList
theorem SqF.l {K : PySem.W.Frag} {H : Hp} {a : Addr} {xs : List V} (h : SqF K H a xs) : SqL K H a xs := by
  rcases h with h | h
  · exact .inl (.inr h)
  · exact .inr h

section
variable (K : PySem.W.Frag)
mutual
inductive DR (μ : List Addr) (H : Hp) : D → V → Prop
  | non : DR μ H .non .non
  | bl (b : Bool) : DR μ H (.bl b) (.bl b)
  | int (i : Int) : DR μ H (.int i) (.int i)
  | str (s : List Nat) : DR μ H (.str s) (.str (strOf s))
  | tup {p : Addr} {ds : List D} {vs : List V} : SqT K H p vs → DRs μ H ds vs → DR μ H (.tup ds) (.ref p)
  | fro {p : Addr} {ds : List D} {vs : List V} : SqF K H p vs → DRs μ H ds vs → DR μ H (.fro ds) (.ref p)
  | ref {a : Nat} {p : Addr} : μ[a]? = some p → DR μ H (.ref a) (.ref p)
inductive DRs (μ : List Addr) (H : Hp) : List D → List V → Prop
  | nil : DRs μ H [] []
  | cons {d : D} {ds : List D} {v : V} {vs : List V} : DR μ H d v → DRs μ H ds vs → DRs μ H (d :: ds) (v :: vs)
end
/-- a key -/
inductive KR : D → Key → Prop
  | int (i : Int) : KR (.int i) (.inl i)
  | str (s : List Nat) : KR (.str s) (.inr (strOf s))
abbrev KVR (μ : List Addr) (H : Hp) : List (D × D) → List (Key × V) → Prop := Paired fun p q => KR p.1 q.1 ∧ DR K μ H p.2 q.2
/-- an object of the plain heap at its address -/
inductive OR (μ : List Addr) (H : Hp) : MO → Addr → Prop
  | lst {p : Addr} {ds : List D} {vs : List V} : H p = some (.lst vs) → DRs K μ H ds vs → OR μ H (.lst ds) p
  | dic {p : Addr} {kvs : List (D × D)} {ks : List (Key × V)} : H p = some (.dK ks) → KVR K μ H kvs ks → OR μ H (.dic false kvs) p
  | loc {p : Addr} {o : Obj} {kvs : List (D × D)} {ks : List (Key × V)} : H p = some (.frz o (.dK ks)) → KVR K μ H kvs ks → OR μ H (.dic true kvs) p
/-- the plain heap -/
structure HR (μ : List Addr) (H : Hp) (h : Hx) : Prop where
  len : μ.length = h.length
  nd : μ.Nodup
  obj : ∀ (a : Nat) (p : Addr) (o : MO), μ[a]? = some p → h[a]? = some o → OR K μ H o p
/-- what a piece of the run leaves: more addresses, all else as it was -/
structure Ext (μ : List Addr) (H : Hp) (μ' : List Addr) (H' : Hp) : Prop where
  pre : μ <+: μ'
  keep : ∀ p o, p ∉ μ → H p = some o → H' p = some o
  new : ∀ p, p ∈ μ' → p ∉ μ → H p = none
/-- names -/
def SRl (μ : List Addr) (H : Hp) (s : Sx) (σ : L2.St) : Prop := s.length = σ.length ∧ ∀ (i : Nat) (d : D), s[i]? = some (some d) → ∃ v, σ[i]? = some (some v) ∧ DR K μ H d v
end

section
variable {K : PySem.W.Frag} {μ μ' μ'' : List Addr} {H H' H'' : Hp} {h h' : Hx}
theorem Ext.refl : Ext μ H μ H := ⟨List.prefix_refl _, fun _ _ _ e => e, fun p h1 h2 => absurd h1 h2⟩
theorem Ext.trans (a : Ext μ H μ' H') (b : Ext μ' H' μ'' H'') : Ext μ H μ'' H'' where
  pre := a.pre.trans b.pre
  keep := fun p o n e => by
    have h1 := a.keep p o n e
    by_cases hp : p ∈ μ'
    · exact absurd (a.new p hp n) (by rw [e]; simp)
    · exact b.keep p o hp h1
  new := fun p hp n => by
    by_cases h1 : p ∈ μ'
    · exact a.new p h1 n
    · have z := b.new p hp h1
      cases e : H p with
      | none => rfl
      | some o => rw [a.keep p o n e] at z; cases z
theorem Ext.get (e : Ext μ H μ' H') {a : Nat} {p : Addr} (h : μ[a]? = some p) : μ'[a]? = some p := by
  obtain ⟨t, rfl⟩ := e.pre
  rw [List.getElem?_append_left]
  · exact h
  · exact (List.getElem?_eq_some_iff.mp h).1

theorem HR.at (r : HR K μ H h) {a : Nat} {o : MO} (e : h[a]? = some o) : ∃ p, μ[a]? = some p ∧ OR K μ H o p := by
  have h1 : a < h.length := (List.getElem?_eq_some_iff.mp e).1
  have h2 : a < μ.length := by rw [r.len]; exact h1
  exact ⟨μ[a], List.getElem?_eq_getElem h2, r.obj a _ o (List.getElem?_eq_getElem h2) e⟩
theorem HR.of (r : HR K μ H h) {a : Nat} {p : Addr} (e : μ[a]? = some p) : ∃ o, h[a]? = some o ∧ OR K μ H o p := by
  have h1 : a < μ.length := (List.getElem?_eq_some_iff.mp e).1
  have h2 : a < h.length := by rw [← r.len]; exact h1
  exact ⟨h[a], List.getElem?_eq_getElem h2, r.obj a p _ e (List.getElem?_eq_getElem h2)⟩
/-- what stands at an address of the plain heap is no tuple, no frozen list -/
theorem OR.kind {o : MO} {p : Addr} (r : OR K μ H o p) : ∃ u, H p = some u ∧ ((∃ xs, u = .lst xs) ∨ (∃ ks, u = .dK ks) ∨ ∃ ob ks, u = .frz ob (.dK ks)) := by
  cases r with
  | lst e _ => exact ⟨_, e, .inl ⟨_, rfl⟩⟩
  | dic e _ => exact ⟨_, e, .inr (.inl ⟨_, rfl⟩)⟩
  | loc e _ => exact ⟨_, e, .inr (.inr ⟨_, _, rfl⟩)⟩
theorem HR.kind (r : HR K μ H h) {p : Addr} (hp : p ∈ μ) : ∃ u, H p = some u ∧ ((∃ xs, u = .lst xs) ∨ (∃ ks, u = .dK ks) ∨ ∃ ob ks, u = .frz ob (.dK ks)) := by
  obtain ⟨a, ha⟩ := List.getElem?_of_mem hp
  obtain ⟨o, _, q⟩ := r.of ha
  exact q.kind
theorem HR.has (r : HR K μ H h) {p : Addr} (hp : p ∈ μ) : H p ≠ none := by
  obtain ⟨u, e, _⟩ := r.kind hp
  rw [e]; simp
theorem HR.notin (r : HR K μ H h) {p : Addr} (hp : H p = none) : p ∉ μ := fun q => r.has q hp
theorem sqT_keep (r : HR K μ H h) (e : Ext μ H μ' H') {p : Addr} {xs : List V} (s : SqT K H p xs) : SqT K H' p xs := by
  rcases s with (s | ⟨o, s⟩) | s
  · refine .inl (.inl (e.keep p _ (fun q => ?_) s))
    obtain ⟨u, z, w⟩ := r.kind q
    rw [s] at z; cases z
    rcases w with ⟨_, w⟩ | ⟨_, w⟩ | ⟨_, _, w⟩ <;> cases w
  · refine .inl (.inr ⟨o, e.keep p _ (fun q => ?_) s⟩)
    obtain ⟨u, z, w⟩ := r.kind q
    rw [s] at z; cases z
    rcases w with ⟨_, w⟩ | ⟨_, w⟩ | ⟨_, _, w⟩ <;> cases w
  · exact .inr s
theorem sqF_keep (r : HR K μ H h) (e : Ext μ H μ' H') {p : Addr} {xs : List V} (s : SqF K H p xs) : SqF K H' p xs := by
  rcases s with ⟨o, s⟩ | s
  · refine .inl ⟨o, e.keep p _ (fun q => ?_) s⟩
    obtain ⟨u, z, w⟩ := r.kind q
    rw [s] at z; cases z
    rcases w with ⟨_, w⟩ | ⟨_, w⟩ | ⟨_, _, w⟩ <;> cases w
  · exact .inr s
mutual
theorem DR.mono (r : HR K μ H h) (e : Ext μ H μ' H') : ∀ {d : D} {v : V}, DR K μ H d v → DR K μ' H' d v
  | _, _, .non => .non
  | _, _, .bl b => .bl b
  | _, _, .int i => .int i
  | _, _, .str s => .str s
  | _, _, .tup s q => .tup (sqT_keep r e s) (DRs.mono r e q)
  | _, _, .fro s q => .fro (sqF_keep r e s) (DRs.mono r e q)
  | _, _, .ref q => .ref (e.get q)
theorem DRs.mono (r : HR K μ H h) (e : Ext μ H μ' H') : ∀ {ds : List D} {vs : List V}, DRs K μ H ds vs → DRs K μ' H' ds vs
  | _, _, .nil => .nil
  | _, _, .cons a b => .cons (DR.mono r e a) (DRs.mono r e b)
end
theorem DRs.length : ∀ {ds : List D} {vs : List V}, DRs K μ H ds vs → ds.length = vs.length
  | _, _, .nil => rfl
  | _, _, .cons _ b => congrArg (· + 1) (DRs.length b)
theorem DRs.get : ∀ {ds : List D} {vs : List V} {i : Nat} {d : D}, DRs K μ H ds vs → ds[i]? = some d → ∃ v, vs[i]? = some v ∧ DR K μ H d v
  | _, _, 0, _, .cons a _, e => by simp at e; subst e; exact ⟨_, rfl, a⟩
  | _, _, i + 1, _, .cons _ b, e => by
    obtain ⟨v, h1, h2⟩ := DRs.get (i := i) b (by simpa using e)
    exact ⟨v, by simpa using h1, h2⟩
theorem DRs.append : ∀ {ds es : List D} {vs ws : List V}, DRs K μ H ds vs → DRs K μ H es ws → DRs K μ H (ds ++ es) (vs ++ ws)
  | _, _, _, _, .nil, q => q
  | _, _, _, _, .cons a b, q => .cons a (DRs.append b q)
theorem DRs.one {d : D} {v : V} (r : DR K μ H d v) : DRs K μ H [d] [v] := .cons r .nil
theorem DRs.set {d : D} {v : V} (r : DR K μ H d v) : ∀ {ds : List D} {vs : List V} (i : Nat), DRs K μ H ds vs → DRs K μ H (ds.set i d) (vs.set i v)
  | _, _, _, .nil => .nil
  | _, _, 0, .cons _ b => .cons r b
  | _, _, i + 1, .cons a b => .cons a (DRs.set r i b)
theorem DRs.take : ∀ {ds : List D} {vs : List V} (n : Nat), DRs K μ H ds vs → DRs K μ H (ds.take n) (vs.take n)
  | _, _, 0, _ => by simp; exact .nil
  | _, _, _ + 1, .nil => .nil
  | _, _, n + 1, .cons a b => .cons a (DRs.take n b)
theorem DRs.drop : ∀ {ds : List D} {vs : List V} (n : Nat), DRs K μ H ds vs → DRs K μ H (ds.drop n) (vs.drop n)
  | _, _, 0, r => r
  | _, _, _ + 1, .nil => .nil
  | _, _, n + 1, .cons _ b => DRs.drop n b
theorem DRs.dropLast {ds : List D} {vs : List V} (r : DRs K μ H ds vs) : DRs K μ H ds.dropLast vs.dropLast := by
  rw [List.dropLast_eq_take, List.dropLast_eq_take, r.length]
  exact r.take _
theorem DRs.reverse : ∀ {ds : List D} {vs : List V}, DRs K μ H ds vs → DRs K μ H ds.reverse vs.reverse
  | _, _, .nil => .nil
  | _, _, .cons a b => by
    rw [List.reverse_cons, List.reverse_cons]
    exact (DRs.reverse b).append (.one a)
theorem DRs.nil_iff {ds : List D} {vs : List V} (r : DRs K μ H ds vs) : ds = [] ↔ vs = [] := by cases r <;> simp
theorem DRs.isEmpty {ds : List D} {vs : List V} (r : DRs K μ H ds vs) : ds.isEmpty = vs.isEmpty := by cases r <;> rfl
theorem KVR.mono (r : HR K μ H h) (e : Ext μ H μ' H') {ds : List (D × D)} {vs : List (Key × V)} (q : KVR K μ H ds vs) : KVR K μ' H' ds vs :=
  Paired.mapP q fun _ _ z => ⟨z.1, z.2.mono r e⟩
theorem SRl.mono {s : Sx} {σ : L2.St} (q : SRl K μ H s σ) (r : HR K μ H h) (e : Ext μ H μ' H') : SRl K μ' H' s σ :=
  ⟨q.1, fun i d z => let ⟨v, a, b⟩ := q.2 i d z; ⟨v, a, b.mono r e⟩⟩
theorem SRl.set {s : Sx} {σ : L2.St} (q : SRl K μ H s σ) {d : D} {v : V} (i : Nat) (r : DR K μ H d v) : SRl K μ H (s.set i (some d)) (σ.set i (some v)) := by
  refine ⟨by simpa using q.1, fun j e z => ?_⟩
  by_cases hj : j = i
  · subst hj
    have hl : j < s.length := by
      have := (List.getElem?_eq_some_iff.mp z).1
      simpa using this
    rw [List.getElem?_set_self hl] at z
    cases z
    exact ⟨v, by rw [List.getElem?_set_self (by rw [← q.1]; exact hl)], r⟩
  · rw [List.getElem?_set_ne (Ne.symm hj)] at z
    obtain ⟨v', a, b⟩ := q.2 j e z
    exact ⟨v', by rw [List.getElem?_set_ne (Ne.symm hj)]; exact a, b⟩
theorem SRl.forget {s : Sx} {σ : L2.St} (q : SRl K μ H s σ) (i : Nat) : SRl K μ H (s.set i none) (σ.set i none) := by
  refine ⟨by simpa using q.1, fun j e z => ?_⟩
  by_cases hj : j = i
  · subst hj
    have hl : j < s.length := by
      have := (List.getElem?_eq_some_iff.mp z).1
      simpa using this
    rw [List.getElem?_set_self hl] at z
    cases z
  · rw [List.getElem?_set_ne (Ne.symm hj)] at z
    obtain ⟨v', a, b⟩ := q.2 j e z
    exact ⟨v', by rw [List.getElem?_set_ne (Ne.symm hj)]; exact a, b⟩
theorem SRl.wipe {s : Sx} {σ : L2.St} (q : SRl K μ H s σ) : ∀ vs : List Nat, SRl K μ H (wipeD s vs) (L2.wipe σ vs)
  | [] => q
  | v :: vs => (SRl.wipe q vs).forget v

/-! ### the two steps -/
/-- a new thing, tracked, that is none of the plain heap's (a tuple) -/
theorem Ext.side (r : HR K μ H h) {p : Addr} {o : HO} (hp : H p = none) : Ext μ H μ (upd H p o) := by
  refine ⟨List.prefix_refl _, fun q u _ e => ?_, fun q h1 h2 => absurd h1 h2⟩
  rw [upd_ne (ne_of_none e hp)]; exact e
theorem OR.mono (r : HR K μ H h) (e : Ext μ H μ' H') {o : MO} {p : Addr} (hp : ∀ u, H p = some u → H' p = some u) (q : OR K μ H o p) : OR K μ' H' o p := by
  cases q with
  | lst z w => exact .lst (hp _ z) (w.mono r e)
  | dic z w => exact .dic (hp _ z) (KVR.mono r e w)
  | loc z w => exact .loc (hp _ z) (KVR.mono r e w)
theorem HR.side (r : HR K μ H h) {p : Addr} {o : HO} (hp : H p = none) : HR K μ (upd H p o) h :=
  ⟨r.len, r.nd, fun a q u e1 e2 => (r.obj a q u e1 e2).mono r (Ext.side r hp) fun w e => by rw [upd_ne (ne_of_none e hp)]; exact e⟩
/-- a new object of the plain heap -/
theorem Ext.alloc (r : HR K μ H h) {p : Addr} {o : HO} (hp : H p = none) : Ext μ H (μ ++ [p]) (upd H p o) := by
  refine ⟨List.prefix_append _ _, fun q u _ e => ?_, fun q h1 h2 => ?_⟩
  · rw [upd_ne (ne_of_none e hp)]; exact e
  · rcases List.mem_append.mp h1 with h1 | h1
    · exact absurd h1 h2
    · simp at h1; subst h1; exact hp
theorem HR.alloc (r : HR K μ H h) {p : Addr} {o : HO} {m : MO} (hp : H p = none) (q : OR K (μ ++ [p]) (upd H p o) m p) : HR K (μ ++ [p]) (upd H p o) (h ++ [m]) := by
  have np := r.notin hp
  refine ⟨by simp [r.len], ?_, fun a b u e1 e2 => ?_⟩
  · rw [List.nodup_append]
    refine ⟨r.nd, by simp, fun x hx y hy => ?_⟩
    simp at hy; subst hy
    intro z; subst z; exact np hx
  · by_cases ha : a < μ.length
    · rw [List.getElem?_append_left ha] at e1
      rw [List.getElem?_append_left (by rw [← r.len]; exact ha)] at e2
      exact (r.obj a b u e1 e2).mono r (Ext.alloc r hp) fun w e => by rw [upd_ne (ne_of_none e hp)]; exact e
    · rw [List.getElem?_append_right (by omega)] at e1
      rw [List.getElem?_append_right (by rw [← r.len]; omega)] at e2
      have e3 : a - μ.length = 0 := by
        have := (List.getElem?_eq_some_iff.mp e1).1
        simp at this
        omega
      rw [e3] at e1
      rw [← r.len, e3] at e2
      simp at e1 e2
      subst e1; subst e2
      exact q
/-- an object of the plain heap is written -/
theorem Ext.write {p : Addr} {o : HO} (hp : p ∈ μ) : Ext μ H μ (upd H p o) := by
  refine ⟨List.prefix_refl _, fun q u n e => ?_, fun q h1 h2 => absurd h1 h2⟩
  rw [upd_ne (by rintro rfl; exact n hp)]; exact e
theorem HR.write (r : HR K μ H h) {a : Nat} {p : Addr} {o : HO} {m : MO} (ha : μ[a]? = some p) (q : OR K μ (upd H p o) m p) : HR K μ (upd H p o) (h.set a m) := by
  have hp : p ∈ μ := List.mem_of_getElem? ha
  refine ⟨by simp [r.len], r.nd, fun b c u e1 e2 => ?_⟩
  by_cases hb : b = a
  · subst hb
    rw [ha] at e1; cases e1
    rw [List.getElem?_set_self (by rw [← r.len]; exact (List.getElem?_eq_some_iff.mp ha).1)] at e2
    cases e2
    exact q
  · rw [List.getElem?_set_ne (Ne.symm hb)] at e2
    have ne : c ≠ p := by
      rintro rfl
      obtain ⟨h1, e3⟩ := List.getElem?_eq_some_iff.mp e1
      obtain ⟨h2, e4⟩ := List.getElem?_eq_some_iff.mp ha
      exact hb ((List.getElem_inj r.nd).mp (e3.trans e4.symm))
    exact (r.obj b c u e1 e2).mono r (Ext.write hp) fun w e => by rw [upd_ne ne]; exact e
end

/-! ### what is asked of an answer -/
section
variable (K : PySem.W.Frag)
/-- an error's fields -/
def XR (μ : List Addr) (H : Hp) (x : Exc) (c : Value) (dd : Option Addr) : Prop := False
def Fit {α : Type} (r : Rs α) (μ : List Addr) (H : Hp) (Q : α → List Addr → Hx → Hp → Prop) (E : XK) : Prop := match r with
  | .ok a h' => ∀ μ' H', Ext μ H μ' H' → HR K μ' H' h' → Q a μ' h' H'
  | .ex x h' => ∀ μ' H' c dd, Ext μ H μ' H' → HR K μ' H' h' → XR μ' H' x c dd → E c dd H'
  | .no => False
end
section
variable {K : PySem.W.Frag} {α β : Type} {μ μ' : List Addr} {H H' : Hp} {E : XK}
theorem Fit.mono {r : Rs α} {Q : α → List Addr → Hx → Hp → Prop} (e : Ext μ H μ' H') (f : Fit K r μ H Q E) : Fit K r μ' H' Q E := by
  cases r with
  | ok a h => exact fun m Hm x y => f m Hm (e.trans x) y
  | ex a h => exact fun m Hm c d x y z => f m Hm c d (e.trans x) y z
  | no => exact f
theorem Fit.imp {r : Rs α} {Q Q' : α → List Addr → Hx → Hp → Prop} (f : Fit K r μ H Q E) (g : ∀ a μ' h' H', r = .ok a h' → Ext μ H μ' H' → HR K μ' H' h' → Q a μ' h' H' → Q' a μ' h' H') : Fit K r μ H Q' E := by
  cases r with
  | ok a h => exact fun m Hm x y => g a m h Hm rfl x y (f m Hm x y)
  | ex a h => exact f
  | no => exact f
theorem Fit.bind {r : Rs α} {f : α → Hx → Rs β} {Q : β → List Addr → Hx → Hp → Prop} (z : Fit K (r.bind f) μ H Q E) :
    Fit K r μ H (fun a μ1 h1 H1 => Fit K (f a h1) μ1 H1 Q E) E := by
  cases r with
  | ok a h => exact fun m Hm x _ => Fit.mono x z
  | ex a h => exact z
  | no => exact z
theorem Fit.now {a : α} {h : Hx} {Q : α → List Addr → Hx → Hp → Prop} (z : Fit K (.ok a h) μ H Q E) (r : HR K μ H h) : Q a μ h H := z μ H .refl r
theorem Fit.of {o : Option α} {h : Hx} {Q : α → List Addr → Hx → Hp → Prop} (z : Fit K (Rs.of o h) μ H Q E) : ∃ a, o = some a ∧ Fit K (.ok a h) μ H Q E := by
  cases o with
  | none => exact z.elim
  | some a => exact ⟨a, rfl, z⟩
end
end Ev
end

section
set_option autoImplicit false
set_option linter.all false
set_option Elab.async false
set_option maxRecDepth 100000
set_option maxHeartbeats 4000000
/-! Ev2: operators, comparisons, truth by values. -/
namespace Ev
open PySem PySem.Spec PyProof.Rows L2

theorem LIM_eq : LIM = sizeLine := rfl
/-- what is asked of a value -/
abbrev QV (K : PySem.W.Frag) (Q : VK) : D → List Addr → Hx → Hp → Prop := fun d μ' _ H' => ∀ v, DR K μ' H' d v → Q v H'
section
variable {K : PySem.W.Frag} {μ : List Addr} {H : Hp} {h : Hx} {Q : VK} {E : XK}
theorem qv_int {i : Int} (r : HR K μ H h) (z : Fit K (.ok (.int i) h) μ H (QV K Q) E) : Q (.int i) H := z.now r _ (.int i)
theorem qv_bl {b : Bool} (r : HR K μ H h) (z : Fit K (.ok (.bl b) h) μ H (QV K Q) E) : Q (.bl b) H := z.now r _ (.bl b)
theorem qv_str {x : List Nat} (r : HR K μ H h) (z : Fit K (.ok (.str x) h) μ H (QV K Q) E) : Q (.str (strOf x)) H := z.now r _ (.str x)
theorem qv_non (r : HR K μ H h) (z : Fit K (.ok .non h) μ H (QV K Q) E) : Q .non H := z.now r _ .non
theorem qv_is {d : D} {v : V} (r : HR K μ H h) (z : Fit K (.ok d h) μ H (QV K Q) E) (q : DR K μ H d v) : Q v H := z.now r _ q
/-- a new tuple -/
theorem qv_tup {ds : List D} {vs : List V} (r : HR K μ H h) (z : Fit K (.ok (.tup ds) h) μ H (QV K Q) E) (q : DRs K μ H ds vs) : ∀ p, H p = none → Q (.ref p) (upd H p (.tup vs)) := fun p hp =>
  z μ _ (Ext.side r hp) (r.side hp) _ (.tup (SqT.of upd_same) (q.mono r (Ext.side r hp)))
/-- a new object -/
theorem qv_new {m : MO} {o : HO} (r : HR K μ H h) (z : Fit K (new m h) μ H (QV K Q) E) {p : Addr} (hp : H p = none) (q : OR K (μ ++ [p]) (upd H p o) m p) : Q (.ref p) (upd H p o) := by
  refine z (μ ++ [p]) _ (Ext.alloc r hp) (r.alloc hp q) _ (.ref ?_)
  rw [← r.len]
  simp
theorem qv_lst {ds : List D} {vs : List V} (r : HR K μ H h) (z : Fit K (new (.lst ds) h) μ H (QV K Q) E) (q : DRs K μ H ds vs) : ∀ p, H p = none → Q (.ref p) (upd H p (.lst vs)) := fun p hp =>
  qv_new r z hp (.lst upd_same (q.mono r (Ext.alloc r hp)))
theorem HR.lst (r : HR K μ H h) {a : Nat} {p : Addr} {ds : List D} (ha : μ[a]? = some p) (e : h[a]? = some (.lst ds)) : ∃ vs, H p = some (.lst vs) ∧ DRs K μ H ds vs := by
  cases r.obj a p _ ha e with
  | lst x y => exact ⟨_, x, y⟩
theorem HR.dic (r : HR K μ H h) {a : Nat} {p : Addr} {kvs : List (D × D)} (ha : μ[a]? = some p) (e : h[a]? = some (.dic false kvs)) : ∃ ks, H p = some (.dK ks) ∧ KVR K μ H kvs ks := by
  cases r.obj a p _ ha e with
  | dic x y => exact ⟨_, x, y⟩
theorem HR.dict (r : HR K μ H h) {a : Nat} {p : Addr} {lk : Bool} {kvs : List (D × D)} (ha : μ[a]? = some p) (e : h[a]? = some (.dic lk kvs)) : ∃ ks, Rd H p (.dK ks) ∧ KVR K μ H kvs ks := by
  cases r.obj a p _ ha e with
  | dic x y => exact ⟨_, .inl x, y⟩
  | loc x y => exact ⟨_, .inr ⟨_, x⟩, y⟩
/-- what is read as a sequence -/
theorem seq_of (r : HR K μ H h) {d : D} {v : V} {xs : List D} (q : DR K μ H d v) (e : seqOf h d = some xs) : ∃ p vs, v = .ref p ∧ (SqL K H p vs ∨ SqT K H p vs) ∧ DRs K μ H xs vs := by
  cases q with
  | tup s w => simp [seqOf] at e; subst e; exact ⟨_, _, rfl, .inr s, w⟩
  | fro s w => simp [seqOf] at e; subst e; exact ⟨_, _, rfl, .inl s.l, w⟩
  | ref ha =>
    rename_i a p
    simp only [seqOf] at e
    split at e
    · rename_i ys hy
      cases e
      obtain ⟨vs, x, y⟩ := r.lst ha hy
      exact ⟨_, vs, rfl, .inl (SqL.of x), y⟩
    · cases e
  | _ => simp [seqOf] at e
end

section
variable {X : Cx}
/-- an operation by the plain reading's values -/
def rD (K : PySem.W.Frag) (g : D → D → Hx → Rs D) : R2 := fun x y H Q => ∃ dx dy μ h E, DR K μ H dx x ∧ DR K μ H dy y ∧ HR K μ H h ∧ Fit K (g dx dy h) μ H (QV K Q) E

theorem str_rep (z : List Nat) (n : Nat) : (List.replicate n (strOf z).cps).foldl (· ++ ·) #[] = ((List.replicate n z).flatten).toArray := by
  have key : ∀ (k : Nat) (acc : List Nat), (List.replicate k (strOf z).cps).foldl (· ++ ·) acc.toArray = (acc ++ (List.replicate k z).flatten).toArray := by
    intro k
    induction k with
    | zero => intro acc; simp
    | succ k ih =>
      intro acc
      rw [List.replicate_succ, List.foldl_cons, List.replicate_succ, List.flatten_cons]
      have e : acc.toArray ++ (strOf z).cps = (acc ++ z).toArray := by simp [strOf]
      rw [e, ih, List.append_assoc]
  have := key n []
  simpa using this
theorem mul_str_ok {z : List Nat} {j : Int} (h0 : 0 ≤ j) (h1 : j < 1000000) (hl : z.length * j.toNat ≤ LIM) : OpR X (binaryOp .Mult) (fun x y H Q => x = .str (strOf z) ∧ y = .int j ∧ Q (.str (strOf (List.replicate j.toNat z).flatten)) H) := by
  intro pins s σ H x y v u Q I rx ry hq
  obtain ⟨rfl, rfl, q⟩ := hq
  obtain ⟨t, rfl⟩ := rx
  obtain ⟨t', rfl⟩ := ry
  have lz : (strOf z).length = z.length := strOf_len z
  refine PySem.P.mul_str (by rw [Bool.or_eq_false_iff]; exact ⟨decide_eq_false (by omega), decide_eq_false (by omega)⟩) (fun _ h2 => ?_) (fun _ _ => ?_) ?_
  · rw [lz]
    have e1 : z.length * j.toNat ≤ 16777216 := hl
    have e2 : (j.toNat : Int) = j := Int.toNat_of_nonneg h0
    intro h3
    have hj : 0 < j := by
      rcases Int.lt_or_le 0 j with hj | hj
      · exact hj
      · exact absurd hj (by omega)
    have h4 : (2 ^ 63 - 1 : Int) / j < (z.length : Int) := h3
    have h5 := Int.lt_mul_of_ediv_lt hj h4
    have h6 : (z.length : Int) * j ≤ 16777216 := by
      have h7 : ((z.length * j.toNat : Nat) : Int) ≤ ((16777216 : Nat) : Int) := Int.ofNat_le.mpr e1
      rw [Int.natCast_mul, e2] at h7
      exact h7
    omega
  · rw [lz]
    have e1 : z.length * j.toNat ≤ 16777216 := hl
    have e2 : sizeLine = 16777216 := rfl
    simpa [Builtin.Str.tooLong, e2] using e1
  · split
    · rename_i hj
      have : j = 0 := by omega
      subst this
      refine ⟨by decide, .str Str.empty, H, I.tok _, ⟨_, rfl⟩, ?_⟩
      simpa [Str.empty, strOf] using q
    · split
      · rename_i hj h2
        simp at h2
        refine ⟨.str (strOf z), H, I, ⟨_, rfl⟩, ?_⟩
        rcases h2 with h2 | h2
        · subst h2
          simpa using q
        · have hz : z = [] := by
            rw [strOf_len] at h2
            simpa using h2
          subst hz
          simpa using q
      · refine ⟨?_, .str (strOf (List.replicate j.toNat z).flatten), H, I.tok _, ⟨_, by rw [str_rep]; rfl⟩, q⟩
        rw [str_rep]
        show ((List.replicate j.toNat z).flatten).toArray.size ≤ sizeLine
        have e1 : z.length * j.toNat ≤ 16777216 := hl
        have e2 : sizeLine = 16777216 := rfl
        simp [e2, Nat.mul_comm]
        rw [Nat.mul_comm]
        exact e1

theorem strOf_app (a b : List Nat) : strOf a ++ strOf b = strOf (a ++ b) := by
  show Str.append _ _ = _
  simp [Str.append, strOf]
theorem mulOk_c {i j : Int} (h : mulOk i j = true) : CMul i j ∨ CMulW i j := by
  unfold mulOk at h
  simp only [Bool.or_eq_true, Bool.and_eq_true, decide_eq_true_eq] at h
  rcases h with (h | h) | ⟨h1, h2⟩
  · refine .inl (.inl ?_)
    omega
  · refine .inl (.inr ?_)
    omega
  · right; unfold CMulW; omega
def astB : Bop → Operator
  | .add => .Add | .sub => .Sub | .mul => .Mult | .fdiv => .FloorDiv | .mod => .Mod | .pow => .Pow
theorem opD_bin (o : Bop) : OpR X (binaryOp (astB o)) (rD X.K (binop o)) := by
  intro pins s σ H x y v u Q I rx ry hq
  obtain ⟨dx, dy, μ, h, E, qx, qy, r, z⟩ := hq
  cases o <;> dsimp only [astB]
  · -- add
    cases qx <;> cases qy <;> try exact z.elim
    · rename_i i j
      exact op_add pins s σ H _ _ v u Q I rx ry ⟨i, j, rfl, rfl, qv_int r z⟩
    · rename_i i j
      simp only [binop] at z
      split at z
      · rename_i hl
        exact op_add_str pins s σ H _ _ v u Q I rx ry ⟨_, _, rfl, rfl, by rw [strOf_len, strOf_len]; exact hl, by rw [strOf_app]; exact qv_str r z⟩
      · exact z.elim
    · rename_i p ds vs s1 w1 p' ds' vs' s2 w2
      simp only [binop] at z
      split at z
      · rename_i hl
        refine op_catT pins s σ H _ _ v u Q I rx ry ⟨_, _, _, _, rfl, rfl, s1, s2, fun e => hl.1 (w1.nil_iff.mpr e), by rw [← w1.length, ← w2.length]; exact hl.2, fun e => ?_, fun _ => qv_tup r z (w1.append w2)⟩
        have e2 := w2.nil_iff.mpr e
        subst e2
        rw [List.append_nil] at z
        exact qv_is r z (.tup s1 w1)
      · exact z.elim
    · rename_i a p ha b p' hb
      simp only [binop] at z
      split at z
      · rename_i xs ys e1 e2
        split at z
        · rename_i hl
          obtain ⟨vs, h1, w1⟩ := r.lst ha e1
          obtain ⟨ws, h2, w2⟩ := r.lst hb e2
          exact op_cat pins s σ H _ _ v u Q I rx ry ⟨_, _, _, _, rfl, rfl, h1, h2, by rw [← w1.length, ← w2.length]; exact hl, qv_lst r z (w1.append w2)⟩
        · exact z.elim
      · exact z.elim
  · -- sub
    cases qx <;> cases qy <;> try exact z.elim
    rename_i i j
    exact op_sub pins s σ H _ _ v u Q I rx ry ⟨i, j, rfl, rfl, qv_int r z⟩
  · -- mul
    cases qx <;> cases qy <;> try exact z.elim
    · rename_i i j
      simp only [binop] at z
      split at z
      · rename_i hm
        rcases mulOk_c hm with hm | hm
        · exact op_mul pins s σ H _ _ v u Q I rx ry ⟨i, j, rfl, rfl, hm, qv_int r z⟩
        · exact op_mulW pins s σ H _ _ v u Q I rx ry ⟨i, j, rfl, rfl, hm, qv_int r z⟩
      · exact z.elim
    · rename_i x j
      simp only [binop] at z
      split at z
      · rename_i hm
        exact mul_str_ok hm.1 hm.2.1 hm.2.2 pins s σ H _ _ v u Q I rx ry ⟨rfl, rfl, qv_str r z⟩
      · exact z.elim
    · rename_i a p ha j
      simp only [binop] at z
      split at z
      · rename_i xs e1
        split at z
        · rename_i hm
          obtain ⟨vs, h1, w1⟩ := r.lst ha e1
          refine op_rep pins s σ H _ _ v u Q I rx ry ⟨_, _, _, rfl, rfl, h1, by omega, by omega, by rw [← w1.length]; exact hm.2.2, qv_lst r z ?_⟩
          have rep : ∀ k : Nat, DRs X.K μ H (List.replicate k xs).flatten (List.replicate k vs).flatten := by
            intro k
            induction k with
            | zero => exact .nil
            | succ k ih =>
              rw [List.replicate_succ, List.replicate_succ, List.flatten_cons, List.flatten_cons]
              exact w1.append ih
          exact rep _
        · exact z.elim
      · exact z.elim
  · -- fdiv
    cases qx <;> cases qy <;> try exact z.elim
    rename_i i j
    simp only [binop] at z
    split at z
    · rename_i hm
      unfold divOk at hm
      simp only [Bool.and_eq_true, decide_eq_true_eq] at hm
      exact op_fdivW pins s σ H _ _ v u Q I rx ry ⟨i, j, rfl, rfl, hm, qv_int r z⟩
    · exact z.elim
  · -- mod
    cases qx <;> cases qy <;> try exact z.elim
    rename_i i j
    simp only [binop] at z
    split at z
    · rename_i hm
      exact op_mod pins s σ H _ _ v u Q I rx ry ⟨i, j, rfl, rfl, hm, qv_int r z⟩
    · exact z.elim
  · -- pow
    cases qx <;> cases qy <;> try exact z.elim
    rename_i i j
    simp only [binop] at z
    split at z
    · rename_i hm
      unfold powOk at hm
      simp only [Bool.and_eq_true, decide_eq_true_eq] at hm
      exact op_pow pins s σ H _ _ v u Q I rx ry ⟨i, j, rfl, rfl, ⟨hm.1.1, hm.1.2, hm.2⟩, qv_int r z⟩
    · exact z.elim
end
end Ev
end

section
set_option autoImplicit false
set_option linter.all false
set_option Elab.async false
set_option maxRecDepth 100000
set_option maxHeartbeats 4000000
/-! Ev3: comparisons, subscripts, truth, built-ins by values. -/
namespace Ev
open PySem PySem.Spec PyProof.Rows L2

mutual
def pyOf : P → PyData
  | .non => .none
  | .bl b => .bool b
  | .int i => .int i
  | .str s => .str (strOf s)
  | .tup xs => .tuple (pyOfs xs)
  | .lst xs => .list (pyOfs xs)
def pyOfs : List P → List PyData
  | [] => []
  | x :: xs => pyOf x :: pyOfs xs
end
mutual
theorem eqv_py : ∀ a b : P, PyData.eqv (pyOf a) (pyOf b) = P.eqv a b
  | .non, b => by cases b <;> rfl
  | .bl x, b => by cases b <;> rfl
  | .int x, b => by cases b <;> rfl
  | .str x, b => by
    cases b with
    | str y =>
      show (strOf x == strOf y) = (x == y)
      by_cases e : x = y
      · subst e; simp
      · have : strOf x ≠ strOf y := fun q => e (strOf_inj.mp q)
        rw [beq_eq_false_iff_ne.mpr e, beq_eq_false_iff_ne.mpr this]
    | _ => rfl
  | .tup xs, b => by
    cases b with
    | tup ys => exact eqvs_py xs ys
    | _ => rfl
  | .lst xs, b => by
    cases b with
    | lst ys => exact eqvs_py xs ys
    | _ => rfl
theorem eqvs_py : ∀ a b : List P, PyData.eqvAll (pyOfs a) (pyOfs b) = P.eqvs a b
  | [], [] => rfl
  | [], _ :: _ => rfl
  | _ :: _, [] => rfl
  | x :: xs, y :: ys => by
    show (PyData.eqv (pyOf x) (pyOf y) && PyData.eqvAll (pyOfs xs) (pyOfs ys)) = (P.eqv x y && P.eqvs xs ys)
    rw [eqv_py x y, eqvs_py xs ys]
end
section
variable {K : PySem.W.Frag} {μ : List Addr} {H : Hp} {h : Hx}
theorem strOk_of {s : List Nat} (g : goodStr s = true) : PyData.strOk (strOf s) = true := by
  unfold goodStr goodSign at g
  simp only [Bool.and_eq_true, List.all_eq_true, decide_eq_true_eq] at g
  simp [PyData.strOk, strOf]
  exact g.1
mutual
theorem toP_ok (r : HR K μ H h) : ∀ (n : Nat) (d : D) (v : V) (p : P), DR K μ H d v → toP h n d = some p → Dp K H v (pyOf p) ∧ (pyOf p).canLay0 = true ∧ (pyOf p).depth ≤ n
  | 0, _, _, _, _, e => by simp [toP] at e
  | n + 1, _, _, _, .non, e => by simp [toP] at e; subst e; exact ⟨.non, rfl, by simp [pyOf, PyData.depth]⟩
  | n + 1, _, _, _, .bl b, e => by simp [toP] at e; subst e; exact ⟨.bl b, rfl, by simp [pyOf, PyData.depth]⟩
  | n + 1, _, _, _, .int i, e => by simp [toP] at e; subst e; exact ⟨.int i, rfl, by simp [pyOf, PyData.depth]⟩
  | n + 1, _, _, _, .str s, e => by
    simp only [toP] at e
    split at e
    · rename_i g
      cases e
      exact ⟨.str _, by simpa [pyOf, PyData.canLay0] using strOk_of g, by simp [pyOf, PyData.depth]⟩
    · cases e
  | n + 1, _, _, _, .tup (ds := ds) (vs := vs) s w, e => by
    simp only [toP] at e
    cases q : allSome (toP h n) ds with
    | none => rw [q] at e; cases e
    | some ps =>
      rw [q] at e; cases e
      obtain ⟨a, b, c⟩ := toPs_ok r n ds vs ps w q
      exact ⟨.tup s a, by simpa [pyOf, PyData.canLay0] using b, by simp [pyOf, PyData.depth]; exact c⟩
  | n + 1, _, _, _, .fro (ds := ds) (vs := vs) s w, e => by
    simp only [toP] at e
    cases q : allSome (toP h n) ds with
    | none => rw [q] at e; cases e
    | some ps =>
      rw [q] at e; cases e
      obtain ⟨a, b, c⟩ := toPs_ok r n ds vs ps w q
      exact ⟨.lst s.l a, by simpa [pyOf, PyData.canLay0] using b, by simp [pyOf, PyData.depth]; exact c⟩
  | n + 1, _, _, _, .ref (a := a) (p := p) ha, e => by
    simp only [toP] at e
    split at e
    · rename_i ds hd
      obtain ⟨vs, hv, w⟩ := r.lst ha hd
      cases q : allSome (toP h n) ds with
      | none => rw [q] at e; cases e
      | some ps =>
        rw [q] at e; cases e
        obtain ⟨a, b, c⟩ := toPs_ok r n ds vs ps w q
        exact ⟨.lst (SqL.of hv) a, by simpa [pyOf, PyData.canLay0] using b, by simp [pyOf, PyData.depth]; exact c⟩
    · cases e
termination_by n => (n, 0)
theorem toPs_ok (r : HR K μ H h) : ∀ (n : Nat) (ds : List D) (vs : List V) (ps : List P), DRs K μ H ds vs → allSome (toP h n) ds = some ps → DpAll K H vs (pyOfs ps) ∧ PyData.canLayAll0 (pyOfs ps) = true ∧ PyData.depthAll (pyOfs ps) ≤ n
  | n, _, _, ps, .nil, e => by simp [allSome] at e; subst e; exact ⟨.nil, rfl, by simp [pyOfs, PyData.depthAll]⟩
  | n, _, _, ps, .cons (d := d) (ds := ds) (v := v) (vs := vs) a b, e => by
    simp only [allSome] at e
    split at e
    · rename_i y ys e1 e2
      cases e
      obtain ⟨x1, x2, x3⟩ := toP_ok r n d v y a e1
      obtain ⟨y1, y2, y3⟩ := toPs_ok r n ds vs ys b e2
      exact ⟨.cons x1 y1, by simp [pyOfs, PyData.canLayAll0, x2, y2], by simp [pyOfs, PyData.depthAll]; exact Nat.max_le.mpr ⟨x3, y3⟩⟩
    · cases e
termination_by n ds => (n, ds.length + 1)
end
/-! ### flat values -/
theorem flat_V {d : D} {v : V} (q : DR K μ H d v) (f : isFlat d = true) : flatV v = true := by
  cases q <;> first | rfl | (simp [isFlat] at f)
theorem flats_V : ∀ {ds : List D} {vs : List V}, DRs K μ H ds vs → ds.all isFlat = true → vs.all flatV = true
  | _, _, .nil, _ => rfl
  | _, _, .cons a b, f => by
    simp only [List.all_cons, Bool.and_eq_true] at f ⊢
    exact ⟨flat_V a f.1, flats_V b f.2⟩
theorem strOf_beq (a b : List Nat) : (strOf a == strOf b) = (a == b) := by
  by_cases e : a = b
  · subst e; simp
  · have : strOf a ≠ strOf b := fun q => e (strOf_inj.mp q)
    rw [beq_eq_false_iff_ne.mpr e, beq_eq_false_iff_ne.mpr this]
theorem eqV_of {d e : D} {v w : V} (q : DR K μ H d v) (q' : DR K μ H e w) (f : isFlat d = true) (f' : isFlat e = true) : eqV v w = eqFlat d e := by
  cases q <;> cases q' <;> first | rfl | (exact strOf_beq _ _) | (simp [isFlat] at f) | (simp [isFlat] at f')
theorem inV_of {e : D} {w : V} (q' : DR K μ H e w) (f' : isFlat e = true) : ∀ {ds : List D} {vs : List V}, DRs K μ H ds vs → ds.all isFlat = true → inV w vs = ds.any fun z => eqFlat z e
  | _, _, .nil, _ => rfl
  | _, _, .cons a b, f => by
    simp only [List.all_cons, Bool.and_eq_true] at f
    have h1 := eqV_of a q' f.1 f'
    have h2 := inV_of q' f' b f.2
    unfold inV at h2 ⊢
    rw [List.any_cons, List.any_cons, h1, h2]
/-! ### keys -/
theorem key_R {d : D} {v : V} (q : DR K μ H d v) (f : isKey d = true) : ∃ k, KR d k ∧ v = kV k := by
  cases q <;> first | exact ⟨_, .int _, rfl⟩ | exact ⟨_, .str _, rfl⟩ | (simp [isKey] at f)
theorem KR.inj {d e : D} {k l : Key} (a : KR d k) (b : KR e l) : (k = l) ↔ (d = e) := by
  cases a <;> cases b <;> simp [strOf_inj]
theorem dGet_of {d : D} {k : Key} (q : KR d k) : ∀ {kvs : List (D × D)} {ks : List (Key × V)}, KVR K μ H kvs ks → (∃ x v, dGet kvs d = some x ∧ valV ks k = some v ∧ DR K μ H x v) ∨ (dGet kvs d = none ∧ valV ks k = none)
  | _, _, .nil => .inr ⟨rfl, rfl⟩
  | (x0, _) :: _, (_, _) :: _, .cons r t => by
    obtain ⟨r1, r2⟩ := r
    by_cases e : x0 = d
    · exact .inl ⟨_, _, by simp only [dGet]; rw [if_pos e], valV_pos ((KR.inj r1 q).mpr e), r2⟩
    · rcases dGet_of q t with ⟨x, v, h1, h2, h3⟩ | ⟨h1, h2⟩
      · exact .inl ⟨x, v, by simp only [dGet]; rw [if_neg e, h1], by rw [valV_neg (fun z => e ((KR.inj r1 q).mp z)), h2], h3⟩
      · exact .inr ⟨by simp only [dGet]; rw [if_neg e, h1], by rw [valV_neg (fun z => e ((KR.inj r1 q).mp z)), h2]⟩
theorem dGet_some {d : D} {k : Key} (q : KR d k) {kvs : List (D × D)} {ks : List (Key × V)} (r : KVR K μ H kvs ks) : (dGet kvs d).isSome = (valV ks k).isSome := by
  rcases dGet_of q r with ⟨x, v, h1, h2, _⟩ | ⟨h1, h2⟩ <;> rw [h1, h2] <;> rfl
theorem putK_cons {k l : Key} {v w : V} {ks : List (Key × V)} : putK ((l, w) :: ks) k v = if l = k then (l, v) :: ks.map (fun kv => if kv.1 = k then (kv.1, v) else kv) else (l, w) :: putK ks k v := by
  unfold putK
  by_cases e : l = k
  · simp [e]
  · simp only [List.any_cons, decide_eq_false e, Bool.false_or, List.map_cons, if_neg e]
    split <;> rfl
end
section
variable {X : Cx}
def rC (K : PySem.W.Frag) (o : Cop) : R2 := fun x y H Q => ∃ dx dy μ h k, DR K μ H dx x ∧ DR K μ H dy y ∧ HR K μ H h ∧ cmpop o dx dy h = some k ∧ Q (.bl k) H
def astC : Cop → CmpOp
  | .eq => .Eq | .ne => .NotEq | .lt => .Lt | .le => .LtE | .gt => .Gt | .ge => .GtE | .inn => .In | .nin => .NotIn
theorem in_ok (hu : X.A.units + 64 < cLine) (neg : Bool) : OpR X (compareOp (if neg then .NotIn else .In)) (fun x y H Q => ∃ dx dy μ h k, DR X.K μ H dx x ∧ DR X.K μ H dy y ∧ HR X.K μ H h ∧ isIn h dx dy = some k ∧ Q (.bl (if neg then !k else k)) H) := by
  intro pins s σ H x y v u Q I rx ry hq
  obtain ⟨dx, dy, μ, h, k, qx, qy, r, e, q⟩ := hq
  have sq : ∀ (p : Addr) (ds : List D) (vs : List V), y = .ref p → (SqL X.K H p vs ∨ SqT X.K H p vs) → DRs X.K μ H ds vs → (if isFlat dx && ds.all isFlat then some (ds.any fun z => eqFlat z dx) else none) = some k →
      wpAny (model X.prog X.w) X.A (compareOp (if neg then .NotIn else .In) v u) (EP X pins σ Q) X.xe s := by
    intro p ds vs ey sv w e
    split at e
    · rename_i hf
      simp only [Bool.and_eq_true] at hf
      cases e
      have e1 := inV_of qx hf.1 w hf.2
      cases neg
      · exact op_in_seq pins s σ H x y v u Q I rx ry ⟨p, vs, ey, sv, flat_V qx hf.1, flats_V w hf.2, by rw [e1]; exact q⟩
      · exact op_notIn_seq pins s σ H x y v u Q I rx ry ⟨p, vs, ey, sv, flat_V qx hf.1, flats_V w hf.2, by rw [e1]; exact q⟩
    · cases e
  unfold isIn at e
  split at e
  · rename_i z
    split at e
    · rename_i c
      cases e
      cases qx; cases qy
      cases neg
      · exact op_in_sign pins s σ H _ _ v u Q I rx ry ⟨c, _, rfl, rfl, Eq.mp (congrArg (fun b => Q (.bl b) H) (decide_eq_decide.mpr Iff.rfl)) q⟩
      · exact op_notIn_sign pins s σ H _ _ v u Q I rx ry ⟨c, _, rfl, rfl, Eq.mp (congrArg (fun b => Q (.bl (!b)) H) (decide_eq_decide.mpr Iff.rfl)) q⟩
    · cases e
  · cases qy with
    | tup sv w => exact sq _ _ _ rfl (.inr sv) w e
  · cases qy with
    | fro sv w => exact sq _ _ _ rfl (.inl sv.l) w e
  · cases qy with
    | ref ha =>
      split at e
      · rename_i xs hx
        obtain ⟨vs, h1, w⟩ := r.lst ha hx
        exact sq _ _ _ rfl (.inl (SqL.of h1)) w e
      · rename_i lk kvs hx
        obtain ⟨ks, h1, w⟩ := r.dict ha hx
        split at e
        · rename_i hk
          cases e
          obtain ⟨kk, kr, rfl⟩ := key_R qx hk
          have g : DGet H _ (kV kk) (valV ks kk) := .inl ⟨ks, kk, h1, rfl, rfl⟩
          have e2 := dGet_some kr w
          cases ry
          cases neg
          · exact d_in (by omega) I g rx fun s' I' => ⟨.bl _, H, I', by rw [← e2]; rfl, q⟩
          · exact d_notIn (by omega) I g rx fun s' I' => ⟨.bl _, H, I', by rw [← e2]; rfl, q⟩
        · cases e
      · cases e
  · cases e
theorem eq_ok (hu : X.A.units + 64 < cLine) (neg : Bool) : OpR X (compareOp (if neg then .NotEq else .Eq)) (fun x y H Q => ∃ dx dy μ h k, DR X.K μ H dx x ∧ DR X.K μ H dy y ∧ HR X.K μ H h ∧ eqD h dx dy = some k ∧ Q (.bl (if neg then !k else k)) H) := by
  intro pins s σ H x y v u Q I rx ry hq
  obtain ⟨dx, dy, μ, h, k, qx, qy, r, e, q⟩ := hq
  unfold eqD at e
  split at e
  · rename_i p p' e1 e2
    cases e
    obtain ⟨a1, a2, a3⟩ := toP_ok r 60 dx x p qx e1
    obtain ⟨b1, b2, b3⟩ := toP_ok r 60 dy y p' qy e2
    have s1 : SeqAt.shaped (pyOf p) = true := by unfold SeqAt.shaped; rw [a2, Bool.true_and]; exact decide_eq_true (by omega)
    have s2 : SeqAt.shaped (pyOf p') = true := by unfold SeqAt.shaped; rw [b2, Bool.true_and]; exact decide_eq_true (by omega)
    cases neg
    · exact op_eqD hu pins s σ H x y v u Q I rx ry ⟨_, _, a1, b1, s1, s2, by rw [eqv_py]; exact q⟩
    · exact op_neD hu pins s σ H x y v u Q I rx ry ⟨_, _, a1, b1, s1, s2, by rw [eqv_py]; exact q⟩
  · cases e
theorem opD_cmp (hu : X.A.units + 64 < cLine) (o : Cop) : OpR X (compareOp (astC o)) (rC X.K o) := by
  intro pins s σ H x y v u Q I rx ry hq
  obtain ⟨dx, dy, μ, h, k, qx, qy, r, e, q⟩ := hq
  cases o
  · exact eq_ok hu false pins s σ H x y v u Q I rx ry ⟨dx, dy, μ, h, k, qx, qy, r, e, q⟩
  · simp only [cmpop, Option.map_eq_some_iff] at e
    obtain ⟨k', e, rfl⟩ := e
    exact eq_ok hu true pins s σ H x y v u Q I rx ry ⟨dx, dy, μ, h, k', qx, qy, r, e, q⟩
  · simp only [cmpop] at e
    split at e
    · cases e; cases qx; cases qy
      exact op_lt pins s σ H _ _ v u Q I rx ry ⟨_, _, rfl, rfl, q⟩
    · cases e
  · simp only [cmpop] at e
    split at e
    · cases e; cases qx; cases qy
      exact op_le pins s σ H _ _ v u Q I rx ry ⟨_, _, rfl, rfl, q⟩
    · cases e
  · simp only [cmpop] at e
    split at e
    · cases e; cases qx; cases qy
      exact op_gt pins s σ H _ _ v u Q I rx ry ⟨_, _, rfl, rfl, q⟩
    · cases e
  · simp only [cmpop] at e
    split at e
    · cases e; cases qx; cases qy
      exact op_ge pins s σ H _ _ v u Q I rx ry ⟨_, _, rfl, rfl, q⟩
    · cases e
  · exact in_ok hu false pins s σ H x y v u Q I rx ry ⟨dx, dy, μ, h, k, qx, qy, r, e, q⟩
  · simp only [cmpop, Option.map_eq_some_iff] at e
    obtain ⟨k', e, rfl⟩ := e
    exact in_ok hu true pins s σ H x y v u Q I rx ry ⟨dx, dy, μ, h, k', qx, qy, r, e, q⟩
end
end Ev
end

section
set_option autoImplicit false
set_option linter.all false
set_option Elab.async false
set_option maxRecDepth 100000
set_option maxHeartbeats 4000000
/-! Ev4: subscripts, slices, stores, truth by values. -/
namespace Ev
open PySem PySem.Spec PyProof.Rows L2

theorem ixOf_eq (n : Nat) (i : Int) : ixOf n i = ixN n i := rfl
theorem sIx_eq (n d : Nat) (o : Option Int) : sIx n d o = HT.sIx n d o := by cases o <;> rfl
section
variable {K : PySem.W.Frag} {μ : List Addr} {H : Hp} {h : Hx}
theorem at_of {ds : List D} {vs : List V} (w : DRs K μ H ds vs) {i : Int} {d : D} (e : atD ds i = some d) : ∃ v, atI vs i = some v ∧ DR K μ H d v := by
  unfold atD at e
  unfold atI
  rw [ixOf_eq, w.length] at e
  cases q : ixN vs.length i with
  | none => rw [q] at e; cases e
  | some j =>
    rw [q] at e
    exact w.get e
theorem cut_of {ds : List D} {vs : List V} (w : DRs K μ H ds vs) (lo hi : Option Int) : DRs K μ H (cut ds lo hi) (cutV vs lo hi) := by
  unfold cut cutV
  rw [sIx_eq, sIx_eq, w.length]
  exact (w.drop _).take _
theorem cutS_eq (z : List Nat) (lo hi : Option Int) : cutS (strOf z) lo hi = strOf (cut z lo hi) := by
  unfold cutS cut
  rw [sIx_eq, sIx_eq, strOf_len]
  rfl
end
section
variable {prog : Program} {w : World} {A : Around} {E : Value → Shared → Prop} {s : Shared}
/-- the slice that is the whole tuple is the tuple -/
theorem whole_tup {t sl : Addr} {items : Array Value} {vl vu : Value} {lo hi : Option Int} {Q : Value → Shared → Prop} (ht : IsTup s.heap t items) (hs : s.heap.IsSliceOf sl vl vu .none) (pl : IsPart vl lo) (pu : IsPart vu hi)
    (h0 : HT.sIx items.size 0 lo = 0) (h1 : HT.sIx items.size items.size hi = items.size) (h : Q (.ref t) s) : wpAny (model prog w) A (getItem (.ref t) (.ref sl)) Q E s := by
  obtain ⟨os, hos, hcs, hds⟩ := id hs
  have hT : s.TypeIs (.ref sl) "slice" := ⟨os, hos, hcs⟩
  unfold getItem
  try with_reducible refine wpAny_holding ?_
  first | refine wpAny_bind (wpAny_pure ?_) | skip
  refine wpAny_bind (wpAny_sequenceKey ht.typeIs (by decide) ?_)
  refine wpAny_bind (wpAny_callSpecial?_slot ht.typeIs PyProof.Rows.slot_tuple_getitem (wpAny_call_entry PyProof.Rows.slot_tuple_getitem ht.typeIs entry_tuple_getitem ?_ (args_tuple_getitem _ _)))
  show wpAny _ _ (Builtin.Tuple.tupleItemsOf (.ref t) >>= _) _ _ s
  refine wpAny_bind (tupleItemsOf_ ht (wpAny_bind (wpAny_typeOf hT ?_)))
  rw [if_pos (by decide)]
  refine wpAny_bind (HT.sliceApplied_gen hs pl pu ?_)
  rw [h0, h1]
  have yes : ((((0 : Nat) : Int) == 0 && (1 : Int) == 1 && (items.size - 0 == items.size)) = true) := by simp
  show wpAny _ _ (if ((((0 : Nat) : Int) == 0 && (1 : Int) == 1 && (items.size - 0 == items.size)) = true) then _ else _) _ _ s
  rw [if_pos yes]
  refine wpAny_bind (wpAny_bind (wpAny_typeOf ht.typeIs (wpAny_pure ?_)))
  rw [if_pos (by decide)]
  refine wpAny_bind (wpAny_rule (wpAny_pure ⟨_, rfl, wpAny_pure h⟩))
end

section
variable {X : Cx}
/-- x[i] -/
def rG (K : PySem.W.Frag) : R2 := fun x y H Q => ∃ dx dy μ h d, DR K μ H dx x ∧ DR K μ H dy y ∧ HR K μ H h ∧ getIx dx dy h = some d ∧ ∀ v, DR K μ H d v → Q v H
theorem ixD (hu : X.A.units + 64 < cLine) : IxR X (rG X.K) := by
  intro value slice pins s σ H x y v u Q I rx ry hq hs
  obtain ⟨dx, dy, μ, h, d, qx, qy, r, e, q⟩ := hq
  unfold getIx at e
  split at e
  · split at e
    · rename_i z i hz
      cases qx; cases qy
      cases e2 : atD z i with
      | none => rw [e2] at e; cases e
      | some c =>
        rw [e2] at e
        cases e
        refine ix_str value slice pins s σ H _ _ v u Q I rx ry ⟨_, _, c, rfl, rfl, by rw [strOf_len]; exact hz, ?_, q _ (.str [c])⟩ hs
        unfold atD at e2
        unfold atI
        rw [ixOf_eq] at e2
        simp only [strOf]
        cases e3 : ixN z.length i with
        | none => rw [e3] at e2; cases e2
        | some j => rw [e3] at e2; exact e2
    · cases e
  · cases qx with
    | tup sv w =>
      cases qy
      obtain ⟨w', h1, h2⟩ := at_of w e
      exact ix_tup value slice pins s σ H _ _ v u Q I rx ry ⟨_, _, _, w', rfl, rfl, sv, h1, q _ h2⟩ hs
  · cases qx with
    | fro sv w =>
      cases qy
      obtain ⟨w', h1, h2⟩ := at_of w e
      exact ix_list value slice pins s σ H _ _ v u Q I rx ry ⟨_, _, _, w', rfl, rfl, sv.l, h1, q _ h2⟩ hs
  · cases qx with
    | ref ha =>
      split at e
      · rename_i xs hx
        split at e
        · cases qy
          obtain ⟨vs, h0, w⟩ := r.lst ha hx
          obtain ⟨w', h1, h2⟩ := at_of w e
          exact ix_list value slice pins s σ H _ _ v u Q I rx ry ⟨_, _, _, w', rfl, rfl, SqL.of h0, h1, q _ h2⟩ hs
        · cases e
      · rename_i lk kvs hx
        split at e
        · rename_i hk
          obtain ⟨ks, h1, w⟩ := r.dict ha hx
          obtain ⟨kk, kr, rfl⟩ := key_R qy hk
          rcases dGet_of kr w with ⟨x', v', g1, g2, g3⟩ | ⟨g1, g2⟩
          · rw [g1] at e; cases e
            have g : DGet H _ (kV kk) (some v') := .inl ⟨ks, kk, h1, rfl, g2.symm⟩
            cases rx
            exact tail_any (dict_typeIs I g) PySem.F.slot_dict_getitem.lookup (d_getItem (by omega) I g ry fun w' s' I' rw' => ⟨v', H, I', rw', q _ g3⟩) hs
          · rw [g1] at e; cases e
        · cases e
      · cases e
  · cases e
/-- x[lo:hi] -/
def rSl (K : PySem.W.Frag) : V → Option Int → Option Int → Hp → VK → Prop := fun x lo hi H Q => ∃ dx μ h E, DR K μ H dx x ∧ HR K μ H h ∧ Fit K (slice dx lo hi h) μ H (QV K Q) E
theorem slD : SlR X (rSl X.K) := by
  intro pins s σ H x v vl vu lo hi sl Q I rx hs pl pu hq
  obtain ⟨dx, μ, h, E, qx, r, z⟩ := hq
  unfold slice at z
  split at z
  · split at z
    · rename_i y hy
      cases qx
      exact sl_str pins s σ H _ v vl vu lo hi sl Q I rx hs pl pu ⟨_, rfl, by rw [strOf_len]; exact hy, by rw [cutS_eq]; exact qv_str r z⟩
    · exact z.elim
  · cases qx with
    | tup sv w =>
      rename_i ds p vs
      by_cases hw : HT.sIx vs.length 0 lo = 0 ∧ HT.sIx vs.length vs.length hi = vs.length
      · cases rx
        obtain ⟨its, r2, ht, hz⟩ := I.tuple sv
        have hlen : its.toArray.size = vs.length := by rw [List.size_toArray]; exact r2.length.symm
        refine ⟨"tuple", _, PyProof.Rows.slot_tuple_getitem.lookup, ht.typeIs, ?_⟩
        refine whole_tup ht hs pl pu (by rw [hlen]; exact hw.1) (by rw [hlen]; exact hw.2) ⟨.ref p, H, I, rfl, ?_⟩
        have ec : cut ds lo hi = ds := by
          unfold cut
          rw [sIx_eq, sIx_eq, w.length, hw.1, hw.2, List.drop_zero, Nat.sub_zero, ← w.length, List.take_length]
        rw [ec] at z
        exact qv_is r z (.tup sv w)
      · exact sl_tup pins s σ H _ v vl vu lo hi sl Q I rx hs pl pu ⟨_, _, rfl, sv, hw, qv_tup r z (cut_of w lo hi)⟩
  · cases qx with
    | fro sv w => exact sl_list pins s σ H _ v vl vu lo hi sl Q I rx hs pl pu ⟨_, _, rfl, sv.l, qv_lst r z (cut_of w lo hi)⟩
  · cases qx with
    | ref ha =>
      split at z
      · rename_i xs hx
        obtain ⟨vs, h0, w⟩ := r.lst ha hx
        exact sl_list pins s σ H _ v vl vu lo hi sl Q I rx hs pl pu ⟨_, _, rfl, SqL.of h0, qv_lst r z (cut_of w lo hi)⟩
      · exact z.elim
  · exact z.elim
/-- x[i] = v -/
def rSet (K : PySem.W.Frag) : V → V → V → Hp → (Hp → Prop) → Prop := fun x y v H Q => ∃ dx dy dv μ h h', DR K μ H dx x ∧ DR K μ H dy y ∧ DR K μ H dv v ∧ HR K μ H h ∧ setIx dx dy dv h = some h' ∧ ∀ H', Ext μ H μ H' → HR K μ H' h' → Q H'
theorem any_key {K : PySem.W.Frag} {μ : List Addr} {H : Hp} {d : D} {k : Key} (q : KR d k) : ∀ {kvs : List (D × D)} {ks : List (Key × V)}, KVR K μ H kvs ks → (kvs.any fun kv => decide (kv.1 = d)) = ks.any fun kv => decide (kv.1 = k)
  | _, _, .nil => rfl
  | (x0, u0) :: r0, (l, w) :: ks, .cons r t => by
    rw [List.any_cons, List.any_cons, any_key q t]
    have e : decide (x0 = d) = decide (l = k) := decide_eq_decide.mpr (KR.inj r.1 q).symm
    show (decide (x0 = d) || _) = (decide (l = k) || _)
    rw [e]
theorem putR {K : PySem.W.Frag} {μ : List Addr} {H : Hp} {d x : D} {k : Key} {v : V} (q : KR d k) (qv : DR K μ H x v) {kvs : List (D × D)} {ks : List (Key × V)} (t : KVR K μ H kvs ks) : KVR K μ H (dPut kvs d x) (putK ks k v) := by
  unfold dPut putK
  rw [any_key q t]
  split
  · rename_i hany
    clear hany
    induction t with
    | nil => exact .nil
    | cons r t ih =>
      rename_i a b l1 l2
      rw [List.map_cons, List.map_cons]
      refine .cons ?_ ih
      by_cases e : a.1 = d
      · rw [if_pos e, if_pos ((KR.inj r.1 q).mpr e)]; exact ⟨r.1, qv⟩
      · rw [if_neg e, if_neg (fun z => e ((KR.inj r.1 q).mp z))]; exact r
  · rename_i hany
    clear hany
    induction t with
    | nil => exact .cons ⟨q, qv⟩ .nil
    | cons r t ih => exact .cons r ih
theorem KVR.length {K : PySem.W.Frag} {μ : List Addr} {H : Hp} {kvs : List (D × D)} {ks : List (Key × V)} (t : KVR K μ H kvs ks) : kvs.length = ks.length := Paired.length t
theorem setD (hu : X.A.units + 64 < cLine) : PSet X (rSet X.K) := by
  intro pins s σ H x y v xv yv u Q I rx ry rv hq
  obtain ⟨dx, dy, dv, μ, h, h', qx, qy, qv, r, e, q⟩ := hq
  unfold setIx at e
  split at e
  · cases qx with
    | ref ha =>
      split at e
      · rename_i xs hx
        split at e
        · rename_i i
          cases qy
          obtain ⟨vs, h0, w⟩ := r.lst ha hx
          cases e2 : ixOf xs.length i with
          | none => rw [e2] at e; cases e
          | some j =>
            rw [e2] at e; cases e
            rw [ixOf_eq, w.length] at e2
            have x1 := Ext.write (H := H) (o := .lst (vs.set j v)) (List.mem_of_getElem? ha)
            exact set_list pins s σ H _ _ v xv yv u Q I rx ry rv ⟨_, _, _, j, rfl, rfl, h0, e2, q _ x1 (r.write ha (.lst upd_same ((w.set qv j).mono r x1)))⟩
        · cases e
      · rename_i kvs hx
        split at e
        · rename_i hk
          simp only [Bool.and_eq_true, decide_eq_true_eq] at hk
          cases e
          obtain ⟨ks, h1, w⟩ := r.dic ha hx
          obtain ⟨kk, kr, rfl⟩ := key_R qy hk.1
          cases rx
          have x1 := Ext.write (H := H) (o := .dK (putK ks kk v)) (List.mem_of_getElem? ha)
          exact d_setItem (by omega) I (DPut.k (v := v) h1 (by rw [← KVR.length w]; exact hk.2)) ry rv fun s' I' => ⟨_, I', q _ x1 (r.write ha (.dic upd_same (KVR.mono r x1 (putR kr qv w))))⟩
        · cases e
      · cases e
  · cases e
/-- truth -/
theorem truD {K : PySem.W.Frag} {μ : List Addr} {H : Hp} {h : Hx} (r : HR K μ H h) {d : D} {v : V} (q : DR K μ H d v) {k : Bool} (e : truth h d = some k) : TruV K v H k := by
  cases q with
  | non => simp [truth] at e; exact e
  | bl b => simp [truth] at e; exact e.symm
  | int i => simp [truth] at e; subst e; rfl
  | str x =>
    simp only [truth] at e
    split at e
    · rename_i hl
      cases e
      refine ⟨by rw [strOf_len]; exact hl, ?_⟩
      rw [strOf_len]
      cases x <;> simp
      omega
    · cases e
  | tup sv w =>
    cases e
    exact .inr (.inl ⟨_, sv, by rw [w.isEmpty]⟩)
  | fro sv w =>
    cases e
    exact .inl ⟨_, sv.l, by rw [w.isEmpty]⟩
  | ref ha =>
    simp only [truth] at e
    split at e
    · rename_i xs hx
      cases e
      obtain ⟨vs, h0, w⟩ := r.lst ha hx
      exact .inl ⟨_, SqL.of h0, by rw [w.isEmpty]⟩
    · rename_i kvs hx
      cases e
      obtain ⟨ks, h1, w⟩ := r.dic ha hx
      refine .inr (.inr ⟨_, h1, ?_⟩)
      cases w <;> rfl
    · cases e
end
end Ev
end

section
set_option autoImplicit false
set_option linter.all false
set_option Elab.async false
set_option maxRecDepth 100000
set_option maxHeartbeats 4000000
/-! Ev5: built-in functions and methods by values. -/
namespace Ev
open PySem PySem.Spec PyProof.Rows L2

theorem ints_of {K : PySem.W.Frag} {μ : List Addr} {H : Hp} : ∀ {ds : List D} {vs : List V} {ns : List Int}, DRs K μ H ds vs → intsD ds = some ns → vs = ns.map V.int
  | _, _, ns, .nil, e => by simp [intsD] at e; subst e; rfl
  | _, _, ns, .cons a b, e => by
    cases a <;> simp only [intsD] at e <;> try cases e
    rw [Option.map_eq_some_iff] at e
    obtain ⟨r, e1, rfl⟩ := e
    rw [ints_of b e1]
    rfl
theorem bls_of {K : PySem.W.Frag} {μ : List Addr} {H : Hp} : ∀ {ds : List D} {vs : List V} {ns : List Bool}, DRs K μ H ds vs → blsD ds = some ns → vs = ns.map V.bl
  | _, _, ns, .nil, e => by simp [blsD] at e; subst e; rfl
  | _, _, ns, .cons a b, e => by
    cases a <;> simp only [blsD] at e <;> try cases e
    rw [Option.map_eq_some_iff] at e
    obtain ⟨r, e1, rfl⟩ := e
    rw [bls_of b e1]
    rfl
theorem strs_of {K : PySem.W.Frag} {μ : List Addr} {H : Hp} : ∀ {ds : List D} {vs : List V} {ns : List (List Nat)}, DRs K μ H ds vs → strsD ds = some ns → vs = (ns.map strOf).map V.str
  | _, _, ns, .nil, e => by simp [strsD] at e; subst e; rfl
  | _, _, ns, .cons a b, e => by
    cases a <;> simp only [strsD] at e <;> try cases e
    rw [Option.map_eq_some_iff] at e
    obtain ⟨r, e1, rfl⟩ := e
    rw [strs_of b e1]
    rfl
theorem foldl_max (r : List Int) : ∀ x : Int, (r.foldl (fun m y => if y > m then y else m) x = x ∨ r.foldl (fun m y => if y > m then y else m) x ∈ r) ∧ x ≤ r.foldl (fun m y => if y > m then y else m) x ∧ ∀ y ∈ r, y ≤ r.foldl (fun m y => if y > m then y else m) x := by
  induction r with
  | nil => intro x; simp
  | cons a r ih =>
    intro x
    simp only [List.foldl_cons]
    obtain ⟨h1, h2, h3⟩ := ih (if a > x then a else x)
    refine ⟨?_, ?_, ?_⟩
    · rcases h1 with h1 | h1
      · rw [h1]
        by_cases c : a > x
        · rw [if_pos c]; exact .inr List.mem_cons_self
        · rw [if_neg c]; exact .inl rfl
      · exact .inr (List.mem_cons_of_mem _ h1)
    · refine Int.le_trans ?_ h2
      split <;> omega
    · intro y hy
      rcases List.mem_cons.mp hy with rfl | hy
      · refine Int.le_trans ?_ h2
        split <;> omega
      · exact h3 y hy
theorem max_unique {ns : List Int} {m k : Int} (e : maxI ns = some k) (h1 : m ∈ ns) (h2 : ∀ y, y ∈ ns → y ≤ m) : m = k := by
  cases ns with
  | nil => cases h1
  | cons x r =>
    simp only [maxI, Option.some.injEq] at e
    obtain ⟨a, b, c⟩ := foldl_max r x
    rw [e] at a b c
    have h3 : k ≤ m := by
      rcases a with a | a
      · rw [a]; exact h2 x List.mem_cons_self
      · exact h2 k (List.mem_cons_of_mem _ a)
    have h4 : m ≤ k := by
      rcases List.mem_cons.mp h1 with rfl | h1
      · exact b
      · exact c m h1
    omega
theorem strOfInt_eq (i : Int) : (Str.ofString (toString i)) = strOf (strOfInt i) := by
  rw [Str.ofString_eq_toList]
  rfl
theorem lst_of {K : PySem.W.Frag} {μ : List Addr} {H : Hp} {h : Hx} (r : HR K μ H h) {d : D} {v : V} {xs : List D} (q : DR K μ H d v) (e : lstOf h d = some xs) : ∃ p vs, v = .ref p ∧ SqL K H p vs ∧ DRs K μ H xs vs := by
  cases q with
  | fro s w => simp [lstOf] at e; subst e; exact ⟨_, _, rfl, s.l, w⟩
  | ref ha =>
    simp only [lstOf] at e
    split at e
    · rename_i ys hy
      cases e
      obtain ⟨vs, x, y⟩ := r.lst ha hy
      exact ⟨_, vs, rfl, SqL.of x, y⟩
    · cases e
  | _ => simp [lstOf] at e
theorem chars_R {K : PySem.W.Frag} {μ : List Addr} {H : Hp} : ∀ z : List Nat, DRs K μ H (z.map fun c => .str [c]) (z.map fun c => V.str (strOf [c]))
  | [] => .nil
  | c :: z => .cons (.str [c]) (chars_R z)
section
variable {X : Cx}
def rB (K : PySem.W.Frag) (b : Bf) : List V → Hp → VK → Prop := fun vs H Q => ∃ ds μ h E, DRs K μ H ds vs ∧ HR K μ H h ∧ Fit K (builtin b ds h) μ H (QV K Q) E
def valB : Bf → Value
  | .len => .builtin "len" | .abs => .builtin "abs" | .int => .type "int" | .str => .type "str" | .list => .type "list" | .tuple => .type "tuple" | .max => .builtin "max" | .sum => .builtin "sum" | .all => .builtin "all" | .any => .builtin "any"
theorem list_str_ok (hc : X.calm = true) {z : List Nat} (hz : z.length ≤ LIM) : CallR X (.type "list") (fun vs H Q => vs = [.str (strOf z)] ∧ ∀ p, H p = none → Q (.ref p) (upd H p (.lst (z.map fun c => V.str (strOf [c]))))) := by
  intro pins s σ H xs us Q I rs hq
  obtain ⟨rfl, q⟩ := hq
  obtain ⟨u, rfl, t, rfl⟩ := Vals.one rs
  refine call_list_str (I.ok.hd hc) (strOf z) t (hn := by show (strOf z).length ≤ _; rw [strOf_len]; exact hz) fun h' tk acc' c' hk hS' hacc => ?_
  have hp := I.hok.fresh (Nat.le_refl s.heap.objs.size)
  refine ⟨.ref s.heap.objs.size, _, I.laid (o := .lst (z.map fun c => V.str (strOf [c]))) hk (Nat.le_refl _) ⟨by rw [List.length_map]; exact hz, acc'.toList, c', ?_, by simpa using hS'⟩, rfl, q _ hp⟩
  obtain ⟨hl, hit⟩ := hacc
  have sz : acc'.size = z.length := by simpa [strOf] using hl
  clear hS' hk
  have key : ∀ (n : Nat) (i : Nat), i + n = z.length → Vals ((z.drop i).map fun c => V.str (strOf [c])) (acc'.toList.drop i) := by
    intro n
    induction n with
    | zero =>
      intro i hi
      rw [List.drop_eq_nil_of_le (by omega), List.drop_eq_nil_of_le (by simp; omega)]
      exact .nil
    | succ n ih =>
      intro i hi
      have h1 : i < z.length := by omega
      have h2 : i < acc'.toList.length := by simp; omega
      rw [List.drop_eq_getElem_cons h1, List.drop_eq_getElem_cons h2, List.map_cons]
      refine .cons ?_ (ih (i + 1) (by omega))
      obtain ⟨c, u, hc', e⟩ := hit i acc'.toList[i] (by simp [Array.getElem?_eq_getElem (show i < acc'.size by omega)])
      rw [e]
      have : c = z[i] := by
        simp [strOf, List.getElem?_eq_getElem h1] at hc'
        exact hc'.symm
      subst this
      exact ⟨u, rfl⟩
  have := key z.length 0 (by omega)
  simpa using this
theorem DRs.one_of {K : PySem.W.Frag} {μ : List Addr} {H : Hp} {d : D} {vs : List V} (q : DRs K μ H [d] vs) : ∃ v, vs = [v] ∧ DR K μ H d v := by
  cases q with
  | cons a b => cases b; exact ⟨_, rfl, a⟩
theorem callB (hc : X.calm = true) (b : Bf) : CallR X (valB b) (rB X.K b) := by
  intro pins s σ H xs us Q I rs hq
  obtain ⟨ds, μ, h, E, qs, r, z⟩ := hq
  unfold builtin at z
  split at z
  · split at z
    · rename_i x hx
      obtain ⟨v, rfl, qv⟩ := qs.one_of
      cases qv
      exact call_len_str pins s σ H _ us Q I rs ⟨_, rfl, by rw [strOf_len]; exact hx, by rw [strOf_len]; exact qv_int r z⟩
    · exact z.elim
  · obtain ⟨v, rfl, qv⟩ := qs.one_of
    cases qv with
    | tup sv w => exact call_len_seq pins s σ H _ us Q I rs ⟨_, _, rfl, .inr sv, by rw [← w.length]; exact qv_int r z⟩
  · obtain ⟨v, rfl, qv⟩ := qs.one_of
    cases qv with
    | fro sv w => exact call_len_seq pins s σ H _ us Q I rs ⟨_, _, rfl, .inl sv.l, by rw [← w.length]; exact qv_int r z⟩
  · obtain ⟨v, rfl, qv⟩ := qs.one_of
    cases qv with
    | ref ha =>
      split at z
      · rename_i ys hy
        obtain ⟨vs, h0, w⟩ := r.lst ha hy
        exact call_len_seq pins s σ H _ us Q I rs ⟨_, _, rfl, .inl (SqL.of h0), by rw [← w.length]; exact qv_int r z⟩
      · rename_i kvs hy
        obtain ⟨ks, h0, w⟩ := r.dic ha hy
        obtain ⟨u, rfl, ru⟩ := Vals.one rs
        cases ru
        exact d_len I (.inl h0) fun t s' I' => ⟨.int kvs.length, H, I', ⟨t, by rw [KVR.length w]⟩, qv_int r z⟩
      · exact z.elim
  · obtain ⟨v, rfl, qv⟩ := qs.one_of
    cases qv
    exact call_abs pins s σ H _ us Q I rs ⟨_, rfl, qv_int r z⟩
  · obtain ⟨v, rfl, qv⟩ := qs.one_of
    cases qv
    exact call_int1 pins s σ H _ us Q I rs (.inl ⟨_, rfl, qv_int r z⟩)
  · obtain ⟨v, rfl, qv⟩ := qs.one_of
    cases qv
    exact call_int1 pins s σ H _ us Q I rs (.inr ⟨_, rfl, qv_int r z⟩)
  · split at z
    · rename_i i hi
      obtain ⟨v, rfl, qv⟩ := qs.one_of
      cases qv
      exact call_str_int pins s σ H _ us Q I rs ⟨_, rfl, hi, by rw [strOfInt_eq]; exact qv_str r z⟩
    · exact z.elim
  · split at z
    · rename_i x hx
      obtain ⟨v, rfl, qv⟩ := qs.one_of
      cases qv
      exact list_str_ok hc hx pins s σ H _ us Q I rs ⟨rfl, qv_lst r z (chars_R _)⟩
    · exact z.elim
  · split at z
    · rename_i x _ ys hy
      obtain ⟨v, rfl, qv⟩ := qs.one_of
      obtain ⟨p, vs, rfl, sv, w⟩ := seq_of r qv hy
      exact call_list_of pins s σ H _ us Q I rs ⟨_, _, rfl, sv, qv_lst r z w⟩
    · exact z.elim
  · split at z
    · rename_i x _ ys hy
      obtain ⟨v, rfl, qv⟩ := qs.one_of
      obtain ⟨p, vs, rfl, sv, w⟩ := seq_of r qv hy
      refine call_tuple_of pins s σ H _ us Q I rs ⟨_, vs, rfl, ?_⟩
      rcases sv with sv | sv
      · exact .inl ⟨sv, qv_tup r z w⟩
      · exact .inr ⟨sv, qv_is r z (.tup sv w)⟩
    · exact z.elim
  · split at z
    · rename_i x _ ys hy
      split at z
      · rename_i ns hn
        split at z
        · rename_i m hm
          obtain ⟨v, rfl, qv⟩ := qs.one_of
          obtain ⟨p, vs, rfl, sv, w⟩ := lst_of r qv hy
          have e := ints_of w hn
          subst e
          refine cr_max hc pins s σ H _ us Q I rs ⟨p, ns, rfl, sv, ?_, fun k h1 h2 => ?_⟩
          · cases ns with
            | nil => cases hm
            | cons _ _ => simp
          · rw [max_unique hm h1 h2]; exact qv_int r z
        · exact z.elim
      · exact z.elim
    · exact z.elim
  · split at z
    · rename_i x _ ys hy
      split at z
      · rename_i ns hn
        obtain ⟨v, rfl, qv⟩ := qs.one_of
        obtain ⟨p, vs, rfl, sv, w⟩ := lst_of r qv hy
        have e := ints_of w hn
        subst e
        exact cr_sum hc pins s σ H _ us Q I rs ⟨p, ns, rfl, sv, qv_int r z⟩
      · exact z.elim
    · exact z.elim
  · split at z
    · rename_i x _ ys hy
      split at z
      · rename_i ns hn
        obtain ⟨v, rfl, qv⟩ := qs.one_of
        obtain ⟨p, vs, rfl, sv, w⟩ := lst_of r qv hy
        have e := bls_of w hn
        subst e
        exact cr_all hc pins s σ H _ us Q I rs ⟨p, ns, rfl, sv, qv_bl r z⟩
      · exact z.elim
    · exact z.elim
  · split at z
    · rename_i x _ ys hy
      split at z
      · rename_i ns hn
        obtain ⟨v, rfl, qv⟩ := qs.one_of
        obtain ⟨p, vs, rfl, sv, w⟩ := lst_of r qv hy
        have e := bls_of w hn
        subst e
        exact cr_any hc pins s σ H _ us Q I rs ⟨p, ns, rfl, sv, qv_bl r z⟩
      · exact z.elim
    · exact z.elim
  · exact z.elim

/-! ### methods -/
def rM (K : PySem.W.Frag) (b : Bm) : V → List V → Hp → VK → Prop := fun x vs H Q => ∃ dx ds μ h E, DR K μ H dx x ∧ DRs K μ H ds vs ∧ HR K μ H h ∧ Fit K (bmethod b dx ds h) μ H (QV K Q) E
def idM : Bm → String
  | .append => "list.append" | .extend => "list.extend" | .pop => "list.pop" | .get => "dict.get" | .join => "str.join" | .split => "str.split" | .isalnum => "str.isalnum" | .startswith => "str.startswith"
theorem qv_write {K : PySem.W.Frag} {μ : List Addr} {H : Hp} {h : Hx} {Q : VK} {E : XK} {m : MO} {o : HO} {a : Nat} {p : Addr} {d : D} {v : V} (r : HR K μ H h) (ha : μ[a]? = some p) (z : Fit K (.ok d (h.set a m)) μ H (QV K Q) E)
    (q : OR K μ (upd H p o) m p) (qd : DR K μ (upd H p o) d v) : Q v (upd H p o) := z μ _ (Ext.write (List.mem_of_getElem? ha)) (r.write ha q) _ qd
theorem splitC_ne (c : Nat) : ∀ l : List Nat, splitC c l ≠ []
  | [] => by simp [splitC]
  | x :: r => by
    simp only [splitC]
    split
    · simp
    · split <;> simp
theorem pre_hit (c : Nat) (r : List Nat) : TL.pre [c] (c :: r) = true := by unfold TL.pre; simp
theorem spl_one (c : Nat) : ∀ (l acc : List Nat), TL.spl [c] 0 acc l = (match splitC c l with
    | [] => []
    | w :: ws => (acc ++ w) :: ws)
  | [], acc => by simp [splitC, TL.spl_nil]
  | x :: r, acc => by
    by_cases e : x = c
    · subst e
      rw [TL.spl_hit (pre_hit _ _)]
      have ih := spl_one x r []
      simp only [splitC, if_true, List.length_singleton, Nat.sub_self, List.append_nil] at ih ⊢
      rw [ih]
      cases q : splitC x r with
      | nil => exact absurd q (splitC_ne x r)
      | cons w ws => simp
    · rw [TL.spl_miss (TL.pre_of_head [] r e), spl_one c r]
      simp only [splitC, if_neg e]
      cases q : splitC c r with
      | nil => exact absurd q (splitC_ne c r)
      | cons w ws => simp
theorem split_one (c : Nat) (hc : c < 256) (l : List Nat) : Txt.split (strOf l) (strOf [c]) = (splitC c l).map strOf := by
  refine TL.map_tl_inj ?_
  rw [TL.split_spl (strOf l) (strOf [c]) (by simp [TL.tl, strOf]) (TL.kind_ok (by simp [strOf]; exact hc))]
  have e := spl_one c l []
  have e2 : TL.tl (strOf [c]) = [c] := rfl
  have e3 : TL.tl (strOf l) = l := rfl
  rw [e2, e3, e, List.map_map]
  have e4 : (TL.tl ∘ strOf) = id := rfl
  rw [e4]
  cases q : splitC c l with
  | nil => exact absurd q (splitC_ne c l)
  | cons w ws => simp
theorem join_D (sep : List Nat) (ss : List (List Nat)) : Txt.join (strOf sep) (ss.map strOf) = strOf (joinS sep ss) := by
  rw [TL.join_eq]
  refine TL.ext_tl ?_
  rw [TL.tl_join, List.map_map]
  have e4 : (TL.tl ∘ strOf) = id := rfl
  rw [e4, List.map_id]
  show TL.joinL sep ss = joinS sep ss
  induction ss with
  | nil => rfl
  | cons x r ih =>
    cases r with
    | nil => rfl
    | cons y r =>
      show x ++ (sep ++ TL.joinL sep (y :: r)) = x ++ sep ++ joinS sep (y :: r)
      rw [ih, List.append_assoc]
theorem alnum_small : ∀ c : Nat, c < 128 → Unicode.isAlnum c = alnumC c := by
  have key : (List.range 128).all (fun c => Unicode.isAlnum c == alnumC c) = true := by decide +kernel
  intro c hc
  have := List.all_eq_true.mp key c (List.mem_range.mpr hc)
  exact eq_of_beq this
theorem alnum_D {s : List Nat} (h : s.all (fun c => decide (c < 128)) = true) : Txt.isalnum (strOf s) = (!s.isEmpty && s.all alnumC) := by
  have e1 : Txt.isalnum (strOf s) = (!s.isEmpty && s.all Unicode.isAlnum) := by
    unfold Txt.isalnum
    rw [strOf_len]
    cases s <;> simp [strOf]
  rw [e1]
  congr 1
  clear e1
  rw [List.all_eq_true] at h
  induction s with
  | nil => rfl
  | cons c r ih =>
    rw [List.all_cons, List.all_cons, alnum_small c (by simpa using h c List.mem_cons_self), ih (fun x hx => h x (List.mem_cons_of_mem _ hx))]
theorem starts_D (s t : List Nat) : Txt.startswith (strOf s) (strOf t) = (s.take t.length == t) := by
  unfold Txt.startswith
  rw [strOf_len, strOf_len, PySem.StrLaws.subAt_eq]
  have e1 : (strOf s).cps.toList = s := rfl
  have e2 : (strOf t).cps.toList = t := rfl
  rw [e1, e2, strOf_len, List.drop_zero]
  by_cases e : t.length ≤ s.length
  · simp [e]
  · have : ¬ (s.take t.length = t) := by
      intro q
      have := congrArg List.length q
      simp at this
      omega
    simp [e, this]
theorem strs_R {K : PySem.W.Frag} {μ : List Addr} {H : Hp} : ∀ l : List (List Nat), DRs K μ H (l.map .str) (l.map (V.str ∘ strOf))
  | [] => .nil
  | c :: z => .cons (.str c) (strs_R z)
theorem mtD (hu : X.A.units + 64 < cLine) (hc : X.calm = true) (b : Bm) : MtR X (idM b) (rM X.K b) := by
  intro pins s σ H x xs v us Q I rx rs hq
  obtain ⟨dx, ds, μ, h, E, qx, qs, r, z⟩ := hq
  unfold bmethod at z
  split at z
  · cases qx with
    | ref ha =>
      obtain ⟨y, rfl, qy⟩ := qs.one_of
      split at z
      · rename_i ys hy
        split at z
        · rename_i hl
          obtain ⟨vs, h0, w⟩ := r.lst ha hy
          have x1 := Ext.write (H := H) (o := .lst (vs ++ [y])) (List.mem_of_getElem? ha)
          exact mt_append pins s σ H _ _ v us Q I rx rs ⟨_, _, _, rfl, rfl, h0, by rw [← w.length]; exact hl, qv_write r ha z (.lst upd_same ((w.append (.one qy)).mono r x1)) .non⟩
        · exact z.elim
      · exact z.elim
  · cases qx with
    | ref ha =>
      obtain ⟨y, rfl, qy⟩ := qs.one_of
      cases qy with
      | ref hb =>
        split at z
        · rename_i xs ys hx hy
          split at z
          · rename_i hl
            obtain ⟨vs, h0, w⟩ := r.lst ha hx
            obtain ⟨ws, h1, w1⟩ := r.lst hb hy
            have x1 := Ext.write (H := H) (o := .lst (vs ++ ws)) (List.mem_of_getElem? ha)
            exact mt_extend pins s σ H _ _ v us Q I rx rs ⟨_, _, _, _, rfl, rfl, h0, h1, by rw [← w.length, ← w1.length]; exact hl, qv_write r ha z (.lst upd_same ((w.append w1).mono r x1)) .non⟩
          · exact z.elim
        · exact z.elim
  · cases qx with
    | ref ha =>
      cases qs
      split at z
      · rename_i ys hy
        split at z
        · rename_i y hl
          obtain ⟨vs, h0, w⟩ := r.lst ha hy
          obtain ⟨vy, e1, e2⟩ := w.get hl
          have x1 := Ext.write (H := H) (o := .lst vs.dropLast) (List.mem_of_getElem? ha)
          exact mt_pop pins s σ H _ _ v us Q I rx rs ⟨_, _, _, rfl, rfl, h0, by rw [← w.length]; exact e1, qv_write r ha z (.lst upd_same (w.dropLast.mono r x1)) (e2.mono r x1)⟩
        · exact z.elim
      · exact z.elim
  · cases qx with
    | ref ha =>
      cases qs with
      | cons qk qs =>
        obtain ⟨yd, rfl, qd⟩ := qs.one_of
        split at z
        · rename_i kvs hk
          split at z
          · rename_i hkey
            obtain ⟨ks, h1, w⟩ := r.dic ha hk
            obtain ⟨kk, kr, rfl⟩ := key_R qk hkey
            obtain ⟨u1, u2, rfl, r1, r2⟩ := Vals.two rs
            cases rx
            rcases dGet_of kr w with ⟨x', v', g1, g2, g3⟩ | ⟨g1, g2⟩
            · have g : DGet H _ (kV kk) (some v') := .inl ⟨ks, kk, .inl h1, rfl, g2.symm⟩
              rw [g1] at z
              exact d_get2 (by omega) I g r1 r2 fun w' s' I' rw' => ⟨v', H, I', rw', qv_is r z g3⟩
            · have g : DGet H _ (kV kk) none := .inl ⟨ks, kk, .inl h1, rfl, g2.symm⟩
              rw [g1] at z
              exact d_get2 (by omega) I g r1 r2 fun w' s' I' rw' => ⟨yd, H, I', rw', qv_is r z qd⟩
          · exact z.elim
        · exact z.elim
  · obtain ⟨y, rfl, qy⟩ := qs.one_of
    cases qx
    split at z
    · rename_i ys hy
      split at z
      · rename_i ss hs
        split at z
        · rename_i hl
          obtain ⟨p, vs, rfl, sv, w⟩ := seq_of r qy hy
          have e := strs_of w hs
          subst e
          refine mt_join pins s σ H _ _ v us Q I rx rs ⟨_, p, ss.map strOf, rfl, rfl, sv, ?_, by rw [join_D]; exact qv_str r z⟩
          rw [strOf_len, List.length_map, List.map_map]
          have e5 : (fun x => x.length) ∘ strOf = List.length := by funext a; exact strOf_len a
          rw [e5]
          exact hl
        · exact z.elim
      · exact z.elim
    · exact z.elim
  · obtain ⟨y, rfl, qy⟩ := qs.one_of
    cases qx; cases qy
    split at z
    · rename_i hl
      refine mt_split pins s σ H _ _ v us Q I rx rs ⟨_, _, rfl, rfl, by rw [strOf_len]; rfl, by rw [strOf_len]; exact hl.1, ?_⟩
      rw [split_one _ hl.2]
      intro p hp
      rw [List.map_map]
      exact qv_lst r z (strs_R _) p hp
    · exact z.elim
  · obtain ⟨y, rfl, qy⟩ := qs.one_of
    cases qx; cases qy
    exact mt_startswith pins s σ H _ _ v us Q I rx rs ⟨_, _, rfl, rfl, by rw [starts_D]; exact qv_bl r z⟩
  · cases qs; cases qx
    split at z
    · rename_i hl
      exact mt_isalnum pins s σ H _ _ v us Q I rx rs ⟨_, rfl, rfl, trivial, by rw [alnum_D hl.2]; exact qv_bl r z⟩
    · exact z.elim
  · exact z.elim
end
end Ev
end

section
set_option autoImplicit false
set_option linter.all false
set_option Elab.async false
set_option maxRecDepth 100000
set_option maxHeartbeats 4000000
/-! Ev6: which text stands for which expression; the readings by the model itself. -/
namespace Ev
open PySem PySem.Spec PyProof.Rows L2

/-! ### what a text says -/
/-- what is known of the module's names: its defs with their parameters, its constants, its free names -/
structure Cfg where
  fns : List (Str × List Str)
  csts : List (Str × D)
  frees : List Str
/-- a scope: the names that are seen, their slots, the names that may be stored -/
structure SS where
  sc : Scope
  N : List Str
  own : Scope
def seenIn (sc : Scope) (x : Str) : Bool := match sc.names.lookup x with
  | some .local => true
  | some .cell => true
  | some .free => true
  | _ => false
def storeIn (sc : Scope) (x : Str) : Bool := match sc.names.lookup x with
  | some .local => true
  | some .cell => true
  | _ => false
def globIn (sc : Scope) (x : Str) : Bool := decide (sc.names.lookup x = some .globalImplicit) && !(x == ("__debug__" : Str))
def slotIs (S : SS) (i : Nat) (x : Str) : Bool := decide (S.N[i]? = some x) && seenIn S.sc x && !(x == ("__debug__" : Str)) && !(x == ("__classdict__" : Str))
def noStar : Expr → Bool
  | .Starred _ _ => false
  | _ => true
def noSlice : Expr → Bool
  | .Slice _ _ _ _ => false
  | _ => true
def noSet : Expr → Bool
  | .Set _ _ _ => false
  | _ => true
def noSuper : Expr → Bool
  | .Call (.Name id _) [] [] _ => !(id == ("super" : Str))
  | _ => true
/-- tested by its value's truth -/
def byTruth : Expr → Bool
  | .UnaryOp .Not _ _ => false
  | .BoolOp _ _ _ => false
  | .IfExp _ _ _ _ => false
  | .Compare _ _ _ _ => false
  | _ => true
def nameB : Bf → Str
  | .len => "len" | .abs => "abs" | .int => "int" | .str => "str" | .list => "list" | .tuple => "tuple" | .max => "max" | .sum => "sum" | .all => "all" | .any => "any"
def nameM : Bm → Str
  | .append => "append" | .extend => "extend" | .pop => "pop" | .get => "get" | .join => "join" | .split => "split" | .isalnum => "isalnum" | .startswith => "startswith"
def nameK : Ck → Str
  | .int => "int" | .bool => "bool" | .str => "str" | .list => "list" | .tuple => "tuple" | .cl _ => ""
def relSS (S : SS) (scope : Scope) : SS := ⟨relS scope S.sc, S.N, scope⟩
def ownOf (S : SS) (own : List Nat) : List (Str × Nat) := own.filterMap fun i => (S.N[i]?).map fun x => (x, i)
mutual
def slotsG : Tg → List Nat
  | .nm i => [i]
  | .ix _ _ => []
  | .tup ts => slotsGs ts
def slotsGs : Tgs → List Nat
  | .nil => []
  | .cons t ts => slotsG t ++ slotsGs ts
end
section
variable (G : Cfg)
def ckOk (S : SS) (k : Ck) (e : Expr) : Bool := match e with
  | .Name x _ => (match k with
    | .cl _ => false
    | _ => decide (x = nameK k) && decide (x ∈ G.frees) && globIn S.sc x)
  | _ => false
def cksOk (S : SS) : List Ck → List Expr → Bool
  | [], [] => true
  | k :: ks, e :: es => ckOk G S k e && cksOk S ks es
  | _, _ => false
mutual
def chkE (S : SS) : T → Expr → Bool
  | .non, .Constant .none _ _ => true
  | .bl b, .Constant (.bool c) _ _ => b == c
  | .int i, .Constant (.int j) _ _ => decide (i = j)
  | .str s, .Constant (.str x) _ _ => decide (x = strOf s)
  | .cst d, .Name x _ => decide ((x, d) ∈ G.csts) && globIn S.sc x
  | .var i, .Name x _ => slotIs S i x
  | .bin o a b, .BinOp l op r _ => decide (op = astB o) && chkE S a l && chkE S b r
  | .neg a, .UnaryOp .USub x _ => chkE S a x
  | .not_ a, .UnaryOp .Not x _ => chkE S a x
  | .cmp o a b, .Compare l [op] [r] _ => decide (op = astC o) && chkE S a l && chkE S b r && noSet r
  | .isN a, .Compare l [.Is] [.Constant .none _ _] _ => chkE S a l
  | .isnN a, .Compare l [.IsNot] [.Constant .none _ _] _ => chkE S a l
  | .chain o p a b c, .Compare l [o1, o2] [r1, r2] _ => decide (o1 = astC o) && decide (o2 = astC p) && chkE S a l && chkE S b r1 && chkE S c r2 && noSet r1 && noSet r2
  | .and_ a b, .BoolOp .And (x :: y :: rest) p => chkE S a x && (match rest with
    | [] => chkE S b y
    | _ => chkE S b (.BoolOp .And (y :: rest) p))
  | .or_ a b, .BoolOp .Or (x :: y :: rest) p => chkE S a x && (match rest with
    | [] => chkE S b y
    | _ => chkE S b (.BoolOp .Or (y :: rest) p))
  | .ife c a b, .IfExp x y z _ => chkE S c x && chkE S a y && chkE S b z
  | .tup es, .Tuple xs _ _ => chkEs S es xs
  | .lst es, .List xs _ => chkEs S es xs
  | .dct ps, .Dict ks vs _ => chkPs S ps ks vs && decide (ks.length ≤ 15)
  | .ix a b, .Subscript x y _ => chkE S a x && chkE S b y && noSlice y
  | .sl a lo hi, .Subscript x (.Slice l h none _) _ => chkE S a x && chkO S lo l && chkO S hi h
  | .rev a, .Subscript x (.Slice none none (some (.UnaryOp .USub (.Constant (.int 1) _ _) _)) _) _ => chkE S a x
  | .call f es, .Call (.Name x _) xs [] _ => (match G.fns[f]? with
    | some (y, ps) => decide (x = y) && decide (ps.length = xs.length) && globIn S.sc x
    | none => false) && chkEs S es xs
  | .bf b es, .Call (.Name x _) (e :: xs) [] _ => decide (x = nameB b) && decide (x ∈ G.frees) && globIn S.sc x && chkEs S es (e :: xs)
  | .bm b a es, .Call (.Attribute o m ap) xs [] cp => decide (m = nameM b) && chkE S a o && noSuper o && (ap.endLine == cp.line) && decide (xs.length < 30) && chkEs S es xs
  | .isi a cs, .Call (.Name x _) [e, c] [] _ => decide (x = "isinstance") && decide (x ∈ G.frees) && globIn S.sc x && chkE S a e && noStar e && (match cs, c with
    | [k], .Name y p => ckOk G S k (.Name y p)
    | ks, .Tuple cs' _ _ => cksOk G S ks cs' && decide (ks.length ≤ 30)
    | _, _ => false)
  | .lc own tg it ifs e, .ListComp elt [⟨tg', iter, ifs', 0⟩] scope _ => blkC S.N S.sc scope (ownOf S own) && decide ((ownOf S own).map (·.2) = own) && chkI S it iter && noSet iter &&
    chkG (relSS S scope) tg tg' && (slotsG tg).all (fun i => decide (i ∈ own)) && chkTs (relSS S scope) ifs ifs' && chkE (relSS S scope) e elt
  | _, _ => false
def chkEs (S : SS) : Ts → List Expr → Bool
  | .nil, [] => true
  | .cons t ts, e :: es => chkE S t e && noStar e && chkEs S ts es
  | _, _ => false
def chkTs (S : SS) : Ts → List Expr → Bool
  | .nil, [] => true
  | .cons t .nil, [e] => chkE S t e
  | _, _ => false
def chkPs (S : SS) : Tps → List (Option Expr) → List Expr → Bool
  | .nil, [], [] => true
  | .cons k v ps, some x :: ks, y :: vs => chkE S k x && chkE S v y && chkPs S ps ks vs
  | _, _, _ => false
def chkO (S : SS) : To → Option Expr → Bool
  | .none, none => true
  | .some t, some e => chkE S t e
  | _, _ => false
def chkG (S : SS) : Tg → Expr → Bool
  | .nm i, .Name x _ => decide (S.N[i]? = some x) && storeIn S.own x && storeIn S.sc x
  | .ix a b, .Subscript x y _ => chkE S a x && chkE S b y && noSlice y
  | .tup ts, .Tuple xs _ _ => chkGs S ts xs
  | _, _ => false
def chkGs (S : SS) : Tgs → List Expr → Bool
  | .nil, [] => true
  | .cons t ts, e :: es => chkG S t e && noStar e && chkGs S ts es
  | _, _ => false
def chkI (S : SS) : It → Expr → Bool
  | .seq a, e => chkE S a e
  | .rng1 a, .Call (.Name x _) [e] [] _ => decide (x = "range") && decide (x ∈ G.frees) && globIn S.sc x && chkE S a e && noStar e
  | .rng2 a b, .Call (.Name x _) [e, f] [] _ => decide (x = "range") && decide (x ∈ G.frees) && globIn S.sc x && chkE S a e && chkE S b f && noStar e && noStar f
  | _, _ => false
end
end
end Ev
end

section
set_option autoImplicit false
set_option linter.all false
set_option Elab.async false
set_option maxRecDepth 100000
set_option maxHeartbeats 4000000
/-! Ev7: an expression's plain reading is what the model does. -/
namespace Ev
open PySem PySem.Spec PyProof.Rows L2

/-! ### the readings by the model itself -/
section
variable (X : Cx)
def wE (e : Expr) : TE := fun σ H Q => ∀ pins s, Inv X pins σ H s → wpAny (model X.prog X.w) X.A (eval e X.env) (EP X pins σ Q) X.xe s
def wT (e : Expr) : TT := fun σ H Q => ∀ pins s, Inv X pins σ H s → wpAny (model X.prog X.w) X.A (isTrue e X.env (eval e X.env)) (TP X pins σ Q) X.xe s
def wW (e : Expr) : TT := fun σ H Q => ∀ whole pins s, Inv X pins σ H s → wpAny (model X.prog X.w) X.A (isTrue e X.env whole) (TP X pins σ Q) X.xe s
def wA (es : List Expr) : TA := fun σ H Q => ∀ pos pins s, Inv X pins σ H s → wpAny (model X.prog X.w) X.A (spliced (backTo pos (starEach es X.env))) (AP X pins σ Q) X.xe s
def wG (tg : Expr) : TG := fun v σ H Q => ∀ pins s u, Inv X pins σ H s → RelV v u → wpAny (model X.prog X.w) X.A (assign tg X.env u) (fun _ s' => ∃ σ' H', Inv X pins σ' H' s' ∧ Q σ' H') X.xe s
def wGs (ts : List Expr) : TGs := fun vs σ H Q => ∀ pins s us, Inv X pins σ H s → Vals vs us → wpAny (model X.prog X.w) X.A (assignInOrder ((assignEach ts X.env).map (·.2)) us) (fun _ s' => ∃ σ' H', Inv X pins σ' H' s' ∧ Q σ' H') X.xe s
def wI (tg iter : Expr) : TI := fun σ H R => ∀ pins s, Inv X pins σ H s → wpAny (model X.prog X.w) X.A (eval iter X.env) (fun v s1 => wpAny (model X.prog X.w) X.A (pyIter v) (PIE X pins σ tg R) X.xe s1) X.xe s
def wO (e : Option Expr) : TO := fun σ H Q => ∀ pins s, Inv X pins σ H s → wpAny (model X.prog X.w) X.A (evalPart e X.env) (fun u s' => ∃ o H', Inv X pins σ H' s' ∧ IsPart u o ∧ Q o H') X.xe s
def wTs (ifs : List Expr) : TT := fun σ H Q => ∀ pins s, Inv X pins σ H s → wpAny (model X.prog X.w) X.A (forIn ifs true fun c r => if r = true then do let ok ← isTrue c X.env (eval c X.env); pure (ForInStep.yield ok) else pure (ForInStep.yield r)) (TP X pins σ Q) X.xe s
end
section
variable {X : Cx}
theorem pe_w {e : Expr} : PE X e (wE X e) := ⟨fun pins s _ _ _ I h => h pins s I⟩
theorem pt_w {e : Expr} : PT X e (wT X e) := ⟨fun pins s _ _ _ I h => h pins s I⟩
theorem pw_w {e : Expr} : PW X e (wW X e) := ⟨fun wh pins s _ _ _ I h => h wh pins s I⟩
theorem pa_w {es : List Expr} : PA X es (wA X es) := ⟨fun pos pins s _ _ _ I h => h pos pins s I⟩
theorem pg_w {tg : Expr} : PG X tg (wG X tg) := ⟨fun pins s _ _ _ u _ I r h => h pins s u I r⟩
theorem pgs_w {ts : List Expr} : PGs X ts (wGs X ts) := ⟨fun pins s _ _ _ us _ I r h => h pins s us I r⟩
theorem pi_w {tg iter : Expr} : PI X tg iter (wI X tg iter) := ⟨fun pins s _ _ _ I h => h pins s I⟩
theorem po_w {e : Option Expr} : PO X e (wO X e) := ⟨fun pins s _ _ _ I h => h pins s I⟩
theorem pts_w {ifs : List Expr} : PTs X ifs (wTs X ifs) := ⟨fun pins s _ _ _ I h => h pins s I⟩
theorem of_pe {e : Expr} {t : TE} (p : PE X e t) {σ : L2.St} {H : Hp} {Q : VK} (h : t σ H Q) : wE X e σ H Q := fun pins s I => p.run pins s σ H Q I h
theorem of_pt {e : Expr} {t : TT} (p : PT X e t) {σ : L2.St} {H : Hp} {Q : Bool → Hp → Prop} (h : t σ H Q) : wT X e σ H Q := fun pins s I => p.run pins s σ H Q I h
theorem of_pw {e : Expr} {t : TT} (p : PW X e t) {σ : L2.St} {H : Hp} {Q : Bool → Hp → Prop} (h : t σ H Q) : wW X e σ H Q := fun wh pins s I => p.run wh pins s σ H Q I h
theorem of_pa {es : List Expr} {t : TA} (p : PA X es t) {σ : L2.St} {H : Hp} {Q : List V → Hp → Prop} (h : t σ H Q) : wA X es σ H Q := fun pos pins s I => p.run pos pins s σ H Q I h
theorem of_pg {tg : Expr} {t : TG} (p : PG X tg t) {v : V} {σ : L2.St} {H : Hp} {Q : L2.St → Hp → Prop} (h : t v σ H Q) : wG X tg v σ H Q := fun pins s u I r => p.run pins s σ H v u Q I r h
theorem of_pgs {ts : List Expr} {t : TGs} (p : PGs X ts t) {vs : List V} {σ : L2.St} {H : Hp} {Q : L2.St → Hp → Prop} (h : t vs σ H Q) : wGs X ts vs σ H Q := fun pins s us I r => p.run pins s σ H vs us Q I r h
theorem of_pi {tg iter : Expr} {t : TI} (p : PI X tg iter t) {σ : L2.St} {H : Hp} {R : L2.It → Hp → Prop} (h : t σ H R) : wI X tg iter σ H R := fun pins s I => p.run pins s σ H R I h
theorem of_po {e : Option Expr} {t : TO} (p : PO X e t) {σ : L2.St} {H : Hp} {Q : Option Int → Hp → Prop} (h : t σ H Q) : wO X e σ H Q := fun pins s I => p.run pins s σ H Q I h
theorem of_pts {ifs : List Expr} {t : TT} (p : PTs X ifs t) {σ : L2.St} {H : Hp} {Q : Bool → Hp → Prop} (h : t σ H Q) : wTs X ifs σ H Q := fun pins s I => p.run pins s σ H Q I h
end

/-! ### what is asked of a context -/
/-- a def's promise by its plain reading -/
def spD (K : PySem.W.Frag) (n : Nat) (f : List D → Hx → Rs D) : Sp := fun vs H Q E => vs.length = n ∧ ∃ ds μ h, DRs K μ H ds vs ∧ HR K μ H h ∧ Fit K (f ds h) μ H (QV K Q) E
structure CallOk (X : Cx) (C : Call) (f : Nat) (x : Str) (ps : List Str) : Prop where
  ok : ∃ (fa : Addr) (fd : FuncData) (k : Nat), X.mg x = some (.ref fa) ∧ PySem.W.keepIn X.K (.ref fa) = true ∧ Room k X.A ∧ FnOk X.prog X.w X.K X.mg X.base (L2.CX X.prog X.w) k fa fd ps (spD X.K ps.length (C f)) ∧ Binds X.K fd ps []
structure CtxOk (G : Cfg) (C : Call) (S : SS) (X : Cx) (W : WX) : Prop where
  sc : X.env.scope = S.sc
  nN : X.N = S.N
  nd : X.N.Nodup
  sto : ∀ x, storeIn S.own x = true → X.fn x = true ∨ X.env.scope.names.lookup x = some .local
  calm : X.calm = true
  units : X.A.units + 64 < cLine
  tk : Takes X W
  fns : ∀ f x ps, G.fns[f]? = some (x, ps) → CallOk X C f x ps
  csts : ∀ x d, (x, d) ∈ G.csts → ∃ u v, X.mg x = some u ∧ RelV v u ∧ ∀ μ H, DR X.K μ H d v
  frees : ∀ x, x ∈ G.frees → X.mg x = none
section
variable {G : Cfg} {C : Call} {S : SS} {X : Cx} {W : WX}
theorem CtxOk.vis (c : CtxOk G C S X W) {x : Str} (h : seenIn S.sc x = true) : Vis X.env.scope x := by
  rw [c.sc]
  unfold seenIn at h
  unfold Vis
  split at h <;> simp_all
theorem CtxOk.loc (c : CtxOk G C S X W) {x : Str} (h : storeIn S.sc x = true) : L2.Loc X.env.scope x := by
  rw [c.sc]
  unfold storeIn at h
  unfold L2.Loc
  split at h <;> simp_all
theorem CtxOk.gl (c : CtxOk G C S X W) {x : Str} (h : globIn S.sc x = true) : Gl X x ∧ (x == ("__debug__" : Str)) = false := by
  unfold globIn at h
  simp only [Bool.and_eq_true, decide_eq_true_eq, Bool.not_eq_true'] at h
  refine ⟨?_, h.2⟩
  show X.env.scope.names.lookup x = _
  rw [c.sc]; exact h.1
/-- a comprehension's block -/
theorem CtxOk.blk (c : CtxOk G C S X W) (s : Shared) (H : Hp) (scope : Scope) (Ca : Addr) (cl : List (Str × Addr)) (fp : List Addr) : CtxOk G C (relSS S scope) (X.blk s H scope (compEnvC scope cl Ca X.env) fp) (fun _ _ _ _ => False) where
  sc := by
    show relabel scope X.env = relS scope S.sc
    rw [← c.sc]; rfl
  nN := c.nN
  nd := c.nd
  sto := fun x h => by
    show (scope.names.lookup x == some .cell) = true ∨ _
    unfold storeIn at h
    split at h
    · rename_i e
      exact .inr (lookup_relabel_local e)
    · rename_i e
      exact .inl (by rw [show (relSS S scope).own = scope from rfl] at e; rw [e]; rfl)
    · cases h
  calm := c.calm
  units := c.units
  tk := fun u s' ⟨_, _, _, _, _, _, _, _, _, _, _, _, _, _, _, _, w⟩ => w.elim
  fns := fun f x ps h => by
    obtain ⟨fa, fd, k, a, b, d, e, g⟩ := (c.fns f x ps h).ok
    exact ⟨fa, fd, k, a, b, d, e, g⟩
  csts := c.csts
  frees := c.frees
end
/-! ### the statements -/
section
variable (X : Cx) (W : WX)
def SE (e : Expr) (f : Sx → Hx → Rs D) : Prop := ∀ s h σ μ H Q, SRl X.K μ H s σ → HR X.K μ H h → Fit X.K (f s h) μ H (QV X.K Q) (WE W σ) → wE X e σ H Q
def ST (e : Expr) (f : Sx → Hx → Rs Bool) : Prop := ∀ s h σ μ H (Q : Bool → Hp → Prop), SRl X.K μ H s σ → HR X.K μ H h → Fit X.K (f s h) μ H (fun b _ _ H' => Q b H') (WE W σ) → wT X e σ H Q
def STs (e : List Expr) (f : Sx → Hx → Rs Bool) : Prop := ∀ s h σ μ H (Q : Bool → Hp → Prop), SRl X.K μ H s σ → HR X.K μ H h → Fit X.K (f s h) μ H (fun b _ _ H' => Q b H') (WE W σ) → wTs X e σ H Q
def SA (es : List Expr) (f : Sx → Hx → Rs (List D)) : Prop := ∀ s h σ μ H (Q : List V → Hp → Prop), SRl X.K μ H s σ → HR X.K μ H h → Fit X.K (f s h) μ H (fun ds μ' _ H' => ∀ vs, DRs X.K μ' H' ds vs → Q vs H') (WE W σ) → wA X es σ H Q
def SO (e : Option Expr) (f : Sx → Hx → Rs (Option Int)) : Prop := ∀ s h σ μ H (Q : Option Int → Hp → Prop), SRl X.K μ H s σ → HR X.K μ H h → Fit X.K (f s h) μ H (fun o _ _ H' => Q o H') (WE W σ) → wO X e σ H Q
/-- only the slots of js may have changed -/
def SameOff (js : List Nat) (σ σ' : L2.St) : Prop := σ'.length = σ.length ∧ ∀ j, j ∉ js → σ'[j]? = σ[j]?
def FitG (K : PySem.W.Frag) (js : List Nat) (r : SR) (μ : List Addr) (H : Hp) (σ : L2.St) (Q : L2.St → Hp → Prop) (W : WX) : Prop := match r with
  | .nx s' h' => ∀ μ' H' σ', Ext μ H μ' H' → HR K μ' H' h' → SRl K μ' H' s' σ' → SameOff js σ σ' → Q σ' H'
  | .ex x s' h' => ∀ μ' H' σ' c dd, Ext μ H μ' H' → HR K μ' H' h' → SRl K μ' H' s' σ' → SameOff js σ σ' → XR μ' H' x c dd → W c dd σ' H'
  | _ => False
def SG (tg : Expr) (js : List Nat) (f : D → Sx → Hx → SR) : Prop := ∀ d s h v σ μ H Q, SRl X.K μ H s σ → HR X.K μ H h → DR X.K μ H d v → FitG X.K js (f d s h) μ H σ Q W → wG X tg v σ H Q
def SGs (ts : List Expr) (js : List Nat) (f : List D → Sx → Hx → SR) : Prop := ∀ ds s h vs σ μ H Q, SRl X.K μ H s σ → HR X.K μ H h → DRs X.K μ H ds vs → FitG X.K js (f ds s h) μ H σ Q W → wGs X ts vs σ H Q
/-- what is walked: its items in turn -/
structure WalkR (K : PySem.W.Frag) (J : L2.It) (items : List D) (src : Src) (μ0 : List Addr) (H0 : Hp) : Prop where
  go : ∀ i d μ H h, Ext μ0 H0 μ H → HR K μ H h → src.ok h = true → items[i]? = some d → J.go i H ∧ ∀ x H', J.yld i H x H' → Ext μ H μ H' ∧ HR K μ H' h ∧ DR K μ H' d x ∧ ∀ p o, H p = some o → H' p = some o
  stop : ∀ i μ H h, Ext μ0 H0 μ H → HR K μ H h → src.ok h = true → items.length ≤ i → J.stop i H
def SI (tg iter : Expr) (f : Sx → Hx → Rs (List D × Src)) : Prop := ∀ s h σ μ H (R : L2.It → Hp → Prop), SRl X.K μ H s σ → HR X.K μ H h →
  Fit X.K (f s h) μ H (fun w μ' _ H' => ∀ J, WalkR X.K J w.1 w.2 μ' H' → R J H') (WE W σ) → wI X tg iter σ H R
end
end Ev
end

section
set_option autoImplicit false
set_option linter.all false
set_option Elab.async false
set_option maxRecDepth 100000
set_option maxHeartbeats 4000000
/-! Ev8: form by form. -/
namespace Ev
open PySem PySem.Spec PyProof.Rows L2

section
variable {G : Cfg} {C : Call} {S : SS} {X : Cx} {W : WX}
theorem no_star {e : Expr} {es : List Expr} {env : Env} (h : noStar e = true) : starEach (e :: es) env = (false, eval e env) :: starEach es env := by
  cases e <;> first | rfl | (simp [noStar] at h)
theorem no_starG {e : Expr} {es : List Expr} {env : Env} (h : noStar e = true) : assignEach (e :: es) env = (false, assign e env) :: assignEach es env := by
  cases e <;> first | rfl | (simp [noStar] at h)
theorem no_slice {e : Expr} (h : noSlice e = true) : PlainIx e := by
  intro o i
  cases e <;> first | rfl | (simp [noSlice] at h)
theorem no_super {e : Expr} {f : Str} {env : Env} {w : Sem Value} (h : noSuper e = true) : attributeBase e f env w = w := by
  unfold attributeBase
  split
  · rename_i id p1 p2
    have e1 : (id != ("super" : Str)) = true := by simpa [noSuper, bne] using h
    rw [e1]; rfl
  · rfl
theorem no_set {e : Expr} {op : CmpOp} (h : noSet e = true) : behindInMarks op e = false := by
  cases e <;> first | rfl | (simp [noSet] at h)
theorem no_setI {e : Expr} {env : Env} (h : noSet e = true) : ∀ x, foldedSetIterable e env x = pure x := by
  intro x
  cases e <;> first | rfl | (simp [noSet] at h)
theorem no_setL {o p : CmpOp} {a b : Expr} (h : noSet b = true) : lastMarks [o, p] [a, b] = false := by
  show behindInMarks p b = false
  exact no_set h
theorem by_truth {e : Expr} {env : Env} (h : byTruth e = true) : ∀ whole, isTrue e env whole = (do let v ← whole; standAt e.pos; holding [v] (truthy v)) := by
  intro whole
  cases e <;> first | rfl | (simp [byTruth] at h) | skip
  rename_i op x p
  cases op <;> first | rfl | (simp [byTruth] at h)

/-! ### simple ones -/
theorem se_c {e : Expr} {v : V} {d : D} (p : PE X e (tC v)) (q : ∀ μ H, DR X.K μ H d v) : SE X W e (fun _ h => .ok d h) := fun s h σ μ H Q hs hr hf =>
  of_pe p (hf.now hr v (q μ H))
theorem se_var (c : CtxOk G C S X W) {i : Nat} {x : Str} {pos : Pos} (h : slotIs S i x = true) : SE X W (.Name x pos) (evE C (.var i)) := by
  unfold slotIs at h
  simp only [Bool.and_eq_true, decide_eq_true_eq, Bool.not_eq_true'] at h
  intro s hp σ μ H Q hs hr hf
  simp only [evE] at hf
  split at hf
  · rename_i d hd
    obtain ⟨v, e1, e2⟩ := hs.2 i d hd
    exact of_pe (pe_var (by rw [c.nN]; exact h.1.1.1) (c.vis h.1.1.2) h.1.2 h.2) ⟨v, e1, hf.now hr v e2⟩
  · exact hf.elim
theorem se_cst (c : CtxOk G C S X W) {x : Str} {d : D} {pos : Pos} (h1 : (x, d) ∈ G.csts) (h2 : globIn S.sc x = true) : SE X W (.Name x pos) (evE C (.cst d)) := by
  obtain ⟨u, v, a, b, q⟩ := c.csts x d h1
  obtain ⟨g, n⟩ := c.gl h2
  have w := se_c (W := W) (pe_glob (pos := pos) g a b n) q
  intro s h σ μ H Q hs hr hf
  simp only [evE] at hf
  exact w s h σ μ H Q hs hr hf
theorem se_bin {a b : Expr} {fa fb : Sx → Hx → Rs D} (o : Bop) (ha : SE X W a fa) (hb : SE X W b fb) {pos : Pos} : SE X W (.BinOp a (astB o) b pos) (fun s h => (fa s h).bind fun x h1 => (fb s h1).bind fun y h2 => binop o x y h2) := by
  intro s h σ μ H Q hs hr hf
  refine of_pe (pe_op (opD_bin o) pe_w pe_w) ?_
  refine ha s h σ μ H _ hs hr (Fit.imp (Fit.bind hf) fun d1 μ1 h1 H1 _ e1 r1 z v1 q1 => ?_)
  refine hb s h1 σ μ1 H1 _ (hs.mono hr e1) r1 (Fit.imp (Fit.bind z) fun d2 μ2 h2 H2 _ e2 r2 z2 v2 q2 => ?_)
  exact ⟨d1, d2, μ2, h2, _, q1.mono r1 e2, q2, r2, z2⟩
theorem se_neg {a : Expr} {fa : Sx → Hx → Rs D} (ha : SE X W a fa) {pos : Pos} : SE X W (.UnaryOp .USub a pos) (fun s h => (fa s h).bind fun x h1 => match x with
    | .int i => .ok (.int (-i)) h1
    | _ => .no) := by
  intro s h σ μ H Q hs hr hf
  refine of_pe (pe_un un_neg pe_w) ?_
  refine ha s h σ μ H _ hs hr (Fit.imp (Fit.bind hf) fun d1 μ1 h1 H1 _ e1 r1 z v1 q1 => ?_)
  split at z
  · cases q1
    exact ⟨_, rfl, qv_int r1 z⟩
  · exact z.elim
theorem se_not {a : Expr} {fa : Sx → Hx → Rs D} (ha : SE X W a fa) {pos : Pos} : SE X W (.UnaryOp .Not a pos) (fun s h => (fa s h).bind fun x h1 => (Rs.of (truth h1 x) h1).bind fun k h2 => .ok (.bl (!k)) h2) := by
  intro s h σ μ H Q hs hr hf
  refine of_pe (pe_notT pe_w) ?_
  refine ha s h σ μ H _ hs hr (Fit.imp (Fit.bind hf) fun d1 μ1 h1 H1 _ e1 r1 z v1 q1 => ?_)
  obtain ⟨k, ek, z2⟩ := (Fit.bind z).of
  exact ⟨k, truD r1 q1 ek, qv_bl r1 (z2.now r1)⟩
theorem se_cmp (c : CtxOk G C S X W) {a b : Expr} {fa fb : Sx → Hx → Rs D} (o : Cop) (ha : SE X W a fa) (hb : SE X W b fb) (hn : noSet b = true) {pos : Pos} :
    SE X W (.Compare a [astC o] [b] pos) (fun s h => (fa s h).bind fun x h1 => (fb s h1).bind fun y h2 => (Rs.of (cmpop o x y h2) h2).bind fun k h3 => .ok (.bl k) h3) := by
  intro s h σ μ H Q hs hr hf
  refine of_pe (pe_cmpR (opD_cmp c.units o) pe_w pe_w (no_set hn)) ?_
  refine ha s h σ μ H _ hs hr (Fit.imp (Fit.bind hf) fun d1 μ1 h1 H1 _ e1 r1 z v1 q1 => ?_)
  refine hb s h1 σ μ1 H1 _ (hs.mono hr e1) r1 (Fit.imp (Fit.bind z) fun d2 μ2 h2 H2 _ e2 r2 z2 v2 q2 => ?_)
  obtain ⟨k, ek, z3⟩ := (Fit.bind z2).of
  exact ⟨d1, d2, μ2, h2, k, q1.mono r1 e2, q2, r2, ek, qv_bl r2 (z3.now r2)⟩
theorem st_cmp (c : CtxOk G C S X W) {a b : Expr} {fa fb : Sx → Hx → Rs D} (o : Cop) (ha : SE X W a fa) (hb : SE X W b fb) (hn : noSet b = true) {pos : Pos} :
    ST X W (.Compare a [astC o] [b] pos) (fun s h => ((fa s h).bind fun x h1 => (fb s h1).bind fun y h2 => (Rs.of (cmpop o x y h2) h2).bind fun k h3 => .ok (.bl k) h3).bind fun x h1 => Rs.of (truth h1 x) h1) := by
  intro s h σ μ H Q hs hr hf
  refine of_pt (pt_cmpR (opD_cmp c.units o) pe_w pe_w (no_set hn)) ?_
  have hf := Fit.bind hf
  refine ha s h σ μ H _ hs hr (Fit.imp (Fit.bind hf) fun d1 μ1 h1 H1 _ e1 r1 z v1 q1 => ?_)
  refine hb s h1 σ μ1 H1 _ (hs.mono hr e1) r1 (Fit.imp (Fit.bind z) fun d2 μ2 h2 H2 _ e2 r2 z2 v2 q2 => ?_)
  obtain ⟨k, ek, z3⟩ := (Fit.bind z2).of
  refine ⟨d1, d2, μ2, h2, k, q1.mono r1 e2, q2, r2, ek, k, rfl, ?_⟩
  have z4 := (z3.now r2).now r2
  obtain ⟨k', ek', z5⟩ := z4.of
  cases ek'
  exact z5.now r2
theorem se_isN {a : Expr} {fa : Sx → Hx → Rs D} (ha : SE X W a fa) {pos p2 : Pos} {j : Nat} : SE X W (.Compare a [.Is] [.Constant .none j p2] pos) (fun s h => (fa s h).bind fun x h1 => .ok (.bl (decide (x = .non))) h1) := by
  intro s h σ μ H Q hs hr hf
  refine of_pe (pe_cmp (pc_isN pe_w)) ?_
  refine ha s h σ μ H _ hs hr (Fit.imp (Fit.bind hf) fun d1 μ1 h1 H1 _ e1 r1 z v1 q1 => ?_)
  have e : decide (v1 = V.non) = decide (d1 = .non) := by cases q1 <;> simp
  show Q (.bl (decide (v1 = V.non))) H1
  rw [e]
  exact qv_bl r1 z
theorem se_isnN {a : Expr} {fa : Sx → Hx → Rs D} (ha : SE X W a fa) {pos p2 : Pos} {j : Nat} : SE X W (.Compare a [.IsNot] [.Constant .none j p2] pos) (fun s h => (fa s h).bind fun x h1 => .ok (.bl (!decide (x = .non))) h1) := by
  intro s h σ μ H Q hs hr hf
  refine of_pe (pe_cmp (pc_notN pe_w)) ?_
  refine ha s h σ μ H _ hs hr (Fit.imp (Fit.bind hf) fun d1 μ1 h1 H1 _ e1 r1 z v1 q1 => ?_)
  have e : decide (v1 = V.non) = decide (d1 = .non) := by cases q1 <;> simp
  show Q (.bl (!decide (v1 = V.non))) H1
  rw [e]
  exact qv_bl r1 z
theorem tru_bl {k k' : Bool} {h : Hx} (e : truth h (.bl k) = some k') : k = k' := by simpa [truth] using e
theorem st_isN {a : Expr} {fa : Sx → Hx → Rs D} (ha : SE X W a fa) {pos p2 : Pos} {j : Nat} : ST X W (.Compare a [.Is] [.Constant .none j p2] pos) (fun s h => ((fa s h).bind fun x h1 => .ok (.bl (decide (x = .non))) h1).bind fun x h1 => Rs.of (truth h1 x) h1) := by
  intro s h σ μ H Q hs hr hf
  refine of_pt (pt_cmp (pc_isN pe_w)) ?_
  refine ha s h σ μ H _ hs hr (Fit.imp (Fit.bind (Fit.bind hf)) fun d1 μ1 h1 H1 _ e1 r1 z v1 q1 => ?_)
  have e : decide (v1 = V.non) = decide (d1 = .non) := by cases q1 <;> simp
  obtain ⟨k, ek, z2⟩ := (z.now r1).of
  refine ⟨k, ?_, z2.now r1⟩
  rw [e, tru_bl ek]
theorem st_isnN {a : Expr} {fa : Sx → Hx → Rs D} (ha : SE X W a fa) {pos p2 : Pos} {j : Nat} : ST X W (.Compare a [.IsNot] [.Constant .none j p2] pos) (fun s h => ((fa s h).bind fun x h1 => .ok (.bl (!decide (x = .non))) h1).bind fun x h1 => Rs.of (truth h1 x) h1) := by
  intro s h σ μ H Q hs hr hf
  refine of_pt (pt_cmp (pc_notN pe_w)) ?_
  refine ha s h σ μ H _ hs hr (Fit.imp (Fit.bind (Fit.bind hf)) fun d1 μ1 h1 H1 _ e1 r1 z v1 q1 => ?_)
  have e : decide (v1 = V.non) = decide (d1 = .non) := by cases q1 <;> simp
  obtain ⟨k, ek, z2⟩ := (z.now r1).of
  refine ⟨k, ?_, z2.now r1⟩
  rw [e, tru_bl ek]
theorem se_chain (c : CtxOk G C S X W) {a b e : Expr} {fa fb fc : Sx → Hx → Rs D} (o p : Cop) (ha : SE X W a fa) (hb : SE X W b fb) (he : SE X W e fc) (hn : noSet e = true) {pos : Pos} :
    SE X W (.Compare a [astC o, astC p] [b, e] pos) (fun s h => (fa s h).bind fun x h1 => (fb s h1).bind fun y h2 => (Rs.of (cmpop o x y h2) h2).bind fun k h3 =>
      if k then (fc s h3).bind fun z h4 => (Rs.of (cmpop p y z h4) h4).bind fun k2 h5 => .ok (.bl k2) h5 else .ok (.bl false) h3) := by
  intro s h σ μ H Q hs hr hf
  refine of_pe (pe_chain (opD_cmp c.units o) (opD_cmp c.units p) pe_w pe_w pe_w (no_setL hn)) ?_
  refine ha s h σ μ H _ hs hr (Fit.imp (Fit.bind hf) fun d1 μ1 h1 H1 _ e1 r1 z v1 q1 => ?_)
  refine hb s h1 σ μ1 H1 _ (hs.mono hr e1) r1 (Fit.imp (Fit.bind z) fun d2 μ2 h2 H2 _ e2 r2 z2 v2 q2 => ?_)
  obtain ⟨k, ek, z3⟩ := (Fit.bind z2).of
  refine ⟨d1, d2, μ2, h2, k, q1.mono r1 e2, q2, r2, ek, k, rfl, ?_⟩
  have z4 := z3.now r2
  cases k with
  | false => exact qv_bl r2 z4
  | true =>
    refine he s h2 σ μ2 H2 _ ((hs.mono hr e1).mono r1 e2) r2 (Fit.imp (Fit.bind z4) fun d3 μ3 h3 H3 _ e3 r3 z5 v3 q3 => ?_)
    obtain ⟨k2, ek2, z6⟩ := (Fit.bind z5).of
    exact ⟨d2, d3, μ3, h3, k2, q2.mono r2 e3, q3, r3, ek2, qv_bl r3 (z6.now r3)⟩
theorem st_chain (c : CtxOk G C S X W) {a b e : Expr} {fa fb fc : Sx → Hx → Rs D} (o p : Cop) (ha : SE X W a fa) (hb : SE X W b fb) (he : SE X W e fc) (hn : noSet e = true) {pos : Pos} :
    ST X W (.Compare a [astC o, astC p] [b, e] pos) (fun s h => ((fa s h).bind fun x h1 => (fb s h1).bind fun y h2 => (Rs.of (cmpop o x y h2) h2).bind fun k h3 =>
      if k then (fc s h3).bind fun z h4 => (Rs.of (cmpop p y z h4) h4).bind fun k2 h5 => .ok (.bl k2) h5 else .ok (.bl false) h3).bind fun x h1 => Rs.of (truth h1 x) h1) := by
  intro s h σ μ H Q hs hr hf
  refine of_pt (pt_chain (opD_cmp c.units o) (opD_cmp c.units p) pe_w pe_w pe_w (no_setL hn)) ?_
  refine ha s h σ μ H _ hs hr (Fit.imp (Fit.bind (Fit.bind hf)) fun d1 μ1 h1 H1 _ e1 r1 z v1 q1 => ?_)
  refine hb s h1 σ μ1 H1 _ (hs.mono hr e1) r1 (Fit.imp (Fit.bind z) fun d2 μ2 h2 H2 _ e2 r2 z2 v2 q2 => ?_)
  obtain ⟨k, ek, z3⟩ := (Fit.bind z2).of
  refine ⟨d1, d2, μ2, h2, k, q1.mono r1 e2, q2, r2, ek, k, rfl, ?_⟩
  have z4 := z3.now r2
  cases k with
  | false =>
    obtain ⟨k', ek', z5⟩ := (z4.now r2).of
    cases ek'
    exact ⟨_, rfl, z5.now r2⟩
  | true =>
    refine he s h2 σ μ2 H2 _ ((hs.mono hr e1).mono r1 e2) r2 (Fit.imp (Fit.bind z4) fun d3 μ3 h3 H3 _ e3 r3 z5 v3 q3 => ?_)
    obtain ⟨k2, ek2, z6⟩ := (Fit.bind z5).of
    refine ⟨d2, d3, μ3, h3, k2, q2.mono r2 e3, q3, r3, ek2, k2, rfl, ?_⟩
    obtain ⟨k', ek', z7⟩ := ((z6.now r3).now r3).of
    cases ek'
    exact z7.now r3
/-- a test by truth -/
theorem st_tru {e : Expr} {f : Sx → Hx → Rs D} (ha : SE X W e f) (hb : byTruth e = true) : ST X W e (fun s h => (f s h).bind fun x h1 => Rs.of (truth h1 x) h1) := by
  intro s h σ μ H Q hs hr hf
  refine of_pt (pt_truth pe_w (by_truth hb)) ?_
  refine ha s h σ μ H _ hs hr (Fit.imp (Fit.bind hf) fun d1 μ1 h1 H1 _ e1 r1 z v1 q1 => ?_)
  obtain ⟨k, ek, z2⟩ := z.of
  exact ⟨k, truD r1 q1 ek, z2.now r1⟩
theorem st_not {a : Expr} {fa : Sx → Hx → Rs Bool} (ha : ST X W a fa) {pos : Pos} : ST X W (.UnaryOp .Not a pos) (fun s h => (fa s h).bind fun k h1 => .ok (!k) h1) := by
  intro s h σ μ H Q hs hr hf
  refine of_pt (pt_not pt_w) ?_
  exact ha s h σ μ H _ hs hr (Fit.imp (Fit.bind hf) fun d1 μ1 h1 H1 _ e1 r1 z => z.now r1)
theorem se_ife {c a b : Expr} {fc : Sx → Hx → Rs Bool} {fa fb : Sx → Hx → Rs D} (hc : ST X W c fc) (ha : SE X W a fa) (hb : SE X W b fb) {pos : Pos} : SE X W (.IfExp c a b pos) (fun s h => (fc s h).bind fun k h1 => if k then fa s h1 else fb s h1) := by
  intro s h σ μ H Q hs hr hf
  refine of_pe (pe_ifExp pt_w pe_w pe_w) ?_
  refine hc s h σ μ H _ hs hr (Fit.imp (Fit.bind hf) fun k μ1 h1 H1 _ e1 r1 z => ?_)
  cases k with
  | true => exact ha s h1 σ μ1 H1 Q (hs.mono hr e1) r1 z
  | false => exact hb s h1 σ μ1 H1 Q (hs.mono hr e1) r1 z
theorem st_ife {c a b : Expr} {fc fa fb : Sx → Hx → Rs Bool} (hc : ST X W c fc) (ha : ST X W a fa) (hb : ST X W b fb) {pos : Pos} : ST X W (.IfExp c a b pos) (fun s h => (fc s h).bind fun k h1 => if k then fa s h1 else fb s h1) := by
  intro s h σ μ H Q hs hr hf pins s0 I
  show wpAny _ _ (do if ← isTrue c X.env (eval c X.env) then isTrue a X.env (eval a X.env) else isTrue b X.env (eval b X.env)) _ _ _
  refine wpAny_bind (hc s h σ μ H (fun k H1 => ∃ μ1 h1, Ext μ H μ1 H1 ∧ HR X.K μ1 H1 h1 ∧ Fit X.K (if k then fa s h1 else fb s h1) μ1 H1 (fun b _ _ H' => Q b H') (WE W σ)) hs hr (Fit.imp (Fit.bind hf) fun k μ1 h1 H1 _ e1 r1 z => ⟨μ1, h1, e1, r1, z⟩) pins s0 I |> fun w => thn w ?_)
  rintro k s1 ⟨H1, I1, μ1, h1, e1, r1, z⟩
  cases k with
  | true => exact ha s h1 σ μ1 H1 Q (hs.mono hr e1) r1 z pins s1 I1
  | false => exact hb s h1 σ μ1 H1 Q (hs.mono hr e1) r1 z pins s1 I1
/-! ### and, or -/
theorem se_and1 {op : BoolOp} {a : Expr} {f : Sx → Hx → Rs D} (ha : SE X W a f) {pos : Pos} : SE X W (.BoolOp op [a] pos) f := fun s h σ μ H Q hs hr hf =>
  of_pe (pe_one pe_w) (ha s h σ μ H Q hs hr hf)
theorem se_and {a b : Expr} {rest : List Expr} {fa fb : Sx → Hx → Rs D} {pos : Pos} (ha : SE X W a fa) (hb : SE X W (.BoolOp .And (b :: rest) pos) fb) :
    SE X W (.BoolOp .And (a :: b :: rest) pos) (fun s h => (fa s h).bind fun x h1 => (Rs.of (truth h1 x) h1).bind fun k h2 => if k then fb s h2 else .ok x h2) := by
  intro s h σ μ H Q hs hr hf
  refine of_pe (pe_andT pe_w pe_w) ?_
  refine ha s h σ μ H _ hs hr (Fit.imp (Fit.bind hf) fun d1 μ1 h1 H1 _ e1 r1 z v1 q1 => ?_)
  obtain ⟨k, ek, z2⟩ := (Fit.bind z).of
  have z3 := z2.now r1
  refine ⟨k, truD r1 q1 ek, ?_⟩
  cases k with
  | true => exact hb s h1 σ μ1 H1 Q (hs.mono hr e1) r1 z3
  | false => exact qv_is r1 z3 q1
theorem se_or {a b : Expr} {rest : List Expr} {fa fb : Sx → Hx → Rs D} {pos : Pos} (ha : SE X W a fa) (hb : SE X W (.BoolOp .Or (b :: rest) pos) fb) :
    SE X W (.BoolOp .Or (a :: b :: rest) pos) (fun s h => (fa s h).bind fun x h1 => (Rs.of (truth h1 x) h1).bind fun k h2 => if k then .ok x h2 else fb s h2) := by
  intro s h σ μ H Q hs hr hf
  refine of_pe (pe_orT pe_w pe_w) ?_
  refine ha s h σ μ H _ hs hr (Fit.imp (Fit.bind hf) fun d1 μ1 h1 H1 _ e1 r1 z v1 q1 => ?_)
  obtain ⟨k, ek, z2⟩ := (Fit.bind z).of
  have z3 := z2.now r1
  refine ⟨k, truD r1 q1 ek, ?_⟩
  cases k with
  | false => exact hb s h1 σ μ1 H1 Q (hs.mono hr e1) r1 z3
  | true => exact qv_is r1 z3 q1
/-- a test, whatever its whole is -/
def SW (X : Cx) (W : WX) (e : Expr) (f : Sx → Hx → Rs Bool) : Prop := ∀ s h σ μ H (Q : Bool → Hp → Prop), SRl X.K μ H s σ → HR X.K μ H h → Fit X.K (f s h) μ H (fun b _ _ H' => Q b H') (WE W σ) → wW X e σ H Q
theorem SW.st {e : Expr} {f : Sx → Hx → Rs Bool} (h : SW X W e f) : ST X W e f := fun s hp σ μ H Q hs hr hf pins s0 I => h s hp σ μ H Q hs hr hf _ pins s0 I
theorem sw_and1 {a : Expr} {f : Sx → Hx → Rs Bool} (ha : ST X W a f) {pos : Pos} : SW X W (.BoolOp .And [a] pos) f := fun s h σ μ H Q hs hr hf =>
  of_pw (pw_and1 pt_w) (ha s h σ μ H Q hs hr hf)
theorem sw_or1 {a : Expr} {f : Sx → Hx → Rs Bool} (ha : ST X W a f) {pos : Pos} : SW X W (.BoolOp .Or [a] pos) f := fun s h σ μ H Q hs hr hf =>
  of_pw (pw_or1 pt_w) (ha s h σ μ H Q hs hr hf)
theorem sw_and {a b : Expr} {rest : List Expr} {fa fb : Sx → Hx → Rs Bool} {pos : Pos} (ha : ST X W a fa) (hb : SW X W (.BoolOp .And (b :: rest) pos) fb) :
    SW X W (.BoolOp .And (a :: b :: rest) pos) (fun s h => (fa s h).bind fun k h1 => if k then fb s h1 else .ok false h1) := by
  intro s h σ μ H Q hs hr hf
  refine of_pw (pw_and pt_w pw_w) ?_
  refine ha s h σ μ H _ hs hr (Fit.imp (Fit.bind hf) fun k μ1 h1 H1 _ e1 r1 z => ?_)
  cases k with
  | true => exact hb s h1 σ μ1 H1 Q (hs.mono hr e1) r1 z
  | false => exact z.now r1
theorem sw_or {a b : Expr} {rest : List Expr} {fa fb : Sx → Hx → Rs Bool} {pos : Pos} (ha : ST X W a fa) (hb : SW X W (.BoolOp .Or (b :: rest) pos) fb) :
    SW X W (.BoolOp .Or (a :: b :: rest) pos) (fun s h => (fa s h).bind fun k h1 => if k then .ok true h1 else fb s h1) := by
  intro s h σ μ H Q hs hr hf
  refine of_pw (pw_or pt_w pw_w) ?_
  refine ha s h σ μ H _ hs hr (Fit.imp (Fit.bind hf) fun k μ1 h1 H1 _ e1 r1 z => ?_)
  cases k with
  | false => exact hb s h1 σ μ1 H1 Q (hs.mono hr e1) r1 z
  | true => exact z.now r1
end
end Ev
end

section
set_option autoImplicit false
set_option linter.all false
set_option Elab.async false
set_option maxRecDepth 100000
set_option maxHeartbeats 4000000
/-! Ev9: displays, subscripts, calls, walks, comprehensions. -/
namespace Ev
open PySem PySem.Spec PyProof.Rows L2
section
variable {G : Cfg} {C : Call} {S : SS} {X : Cx} {W : WX}
theorem sa_nil : SA X W [] (fun _ h => .ok [] h) := fun s h σ μ H Q hs hr hf => of_pa pa_nil (hf.now hr _ .nil)
theorem sa_cons {e : Expr} {es : List Expr} {f : Sx → Hx → Rs D} {fs : Sx → Hx → Rs (List D)} (ha : SE X W e f) (hb : SA X W es fs) (hn : noStar e = true) :
    SA X W (e :: es) (fun s h => (f s h).bind fun x h1 => (fs s h1).bind fun xs h2 => .ok (x :: xs) h2) := by
  intro s h σ μ H Q hs hr hf
  refine of_pa (pa_cons pe_w pa_w (no_star hn)) ?_
  refine ha s h σ μ H _ hs hr (Fit.imp (Fit.bind hf) fun d1 μ1 h1 H1 _ e1 r1 z v1 q1 => ?_)
  refine hb s h1 σ μ1 H1 _ (hs.mono hr e1) r1 (Fit.imp (Fit.bind z) fun ds μ2 h2 H2 _ e2 r2 z2 vs q2 => ?_)
  exact z2.now r2 _ (.cons (q1.mono r1 e2) q2)
theorem se_tup {es : List Expr} {f : Sx → Hx → Rs (List D)} (ha : SA X W es f) {k : Nat} {pos : Pos} : SE X W (.Tuple es k pos) (fun s h => (f s h).bind fun xs h1 => if xs.length ≤ LIM then .ok (.tup xs) h1 else .no) := by
  intro s h σ μ H Q hs hr hf
  refine of_pe (pe_tup pa_w) ?_
  refine ha s h σ μ H _ hs hr (Fit.imp (Fit.bind hf) fun ds μ1 h1 H1 _ e1 r1 z vs q1 => ?_)
  split at z
  · rename_i hl
    exact ⟨by rw [← q1.length]; exact hl, qv_tup r1 z q1⟩
  · exact z.elim
theorem se_lst {es : List Expr} {f : Sx → Hx → Rs (List D)} (ha : SA X W es f) {pos : Pos} : SE X W (.List es pos) (fun s h => (f s h).bind fun xs h1 => if xs.length ≤ LIM then new (.lst xs) h1 else .no) := by
  intro s h σ μ H Q hs hr hf
  refine of_pe (pe_lst pa_w) ?_
  refine ha s h σ μ H _ hs hr (Fit.imp (Fit.bind hf) fun ds μ1 h1 H1 _ e1 r1 z vs q1 => ?_)
  split at z
  · rename_i hl
    exact ⟨by rw [← q1.length]; exact hl, qv_lst r1 z q1⟩
  · exact z.elim
theorem se_ix (c : CtxOk G C S X W) {a b : Expr} {fa fb : Sx → Hx → Rs D} (ha : SE X W a fa) (hb : SE X W b fb) (hn : noSlice b = true) {pos : Pos} :
    SE X W (.Subscript a b pos) (fun s h => (fa s h).bind fun x h1 => (fb s h1).bind fun y h2 => Rs.of (getIx x y h2) h2) := by
  intro s h σ μ H Q hs hr hf
  refine of_pe (pe_ix (ixD c.units) pe_w pe_w (no_slice hn)) ?_
  refine ha s h σ μ H _ hs hr (Fit.imp (Fit.bind hf) fun d1 μ1 h1 H1 _ e1 r1 z v1 q1 => ?_)
  refine hb s h1 σ μ1 H1 _ (hs.mono hr e1) r1 (Fit.imp (Fit.bind z) fun d2 μ2 h2 H2 _ e2 r2 z2 v2 q2 => ?_)
  obtain ⟨d, ed, z3⟩ := z2.of
  exact ⟨d1, d2, μ2, h2, d, q1.mono r1 e2, q2, r2, ed, z3.now r2⟩
theorem so_none : SO X W none (fun _ h => .ok none h) := fun s h σ μ H Q hs hr hf => of_po po_none (hf.now hr)
theorem so_some {e : Expr} {f : Sx → Hx → Rs D} (ha : SE X W e f) : SO X W (some e) (fun s h => (f s h).bind fun x h1 => match x with
    | .int i => .ok (some i) h1
    | _ => .no) := by
  intro s h σ μ H Q hs hr hf
  refine of_po (po_some pe_w) ?_
  refine ha s h σ μ H _ hs hr (Fit.imp (Fit.bind hf) fun d1 μ1 h1 H1 _ e1 r1 z v1 q1 => ?_)
  split at z
  · cases q1
    exact ⟨_, rfl, z.now r1⟩
  · exact z.elim
theorem se_sl {a : Expr} {lo hi : Option Expr} {fa : Sx → Hx → Rs D} {fl fh : Sx → Hx → Rs (Option Int)} (ha : SE X W a fa) (hl : SO X W lo fl) (hh : SO X W hi fh) {pos p2 : Pos} :
    SE X W (.Subscript a (.Slice lo hi none p2) pos) (fun s h => (fa s h).bind fun x h1 => (fl s h1).bind fun l h2 => (fh s h2).bind fun u h3 => slice x l u h3) := by
  intro s h σ μ H Q hs hr hf
  refine of_pe (pe_slice slD pe_w po_w po_w) ?_
  refine ha s h σ μ H _ hs hr (Fit.imp (Fit.bind hf) fun d1 μ1 h1 H1 _ e1 r1 z v1 q1 => ?_)
  refine hl s h1 σ μ1 H1 _ (hs.mono hr e1) r1 (Fit.imp (Fit.bind z) fun o μ2 h2 H2 _ e2 r2 z2 => ?_)
  refine hh s h2 σ μ2 H2 _ ((hs.mono hr e1).mono r1 e2) r2 (Fit.imp (Fit.bind z2) fun o' μ3 h3 H3 _ e3 r3 z3 => ?_)
  exact ⟨d1, μ3, h3, _, (q1.mono r1 e2).mono r2 e3, r3, z3⟩
theorem se_rev {a : Expr} {fa : Sx → Hx → Rs D} (ha : SE X W a fa) {k : Nat} {p1 p2 p3 pos : Pos} :
    SE X W (.Subscript a (.Slice none none (some (.UnaryOp .USub (.Constant (.int 1) k p1) p2)) p3) pos) (fun s h => (fa s h).bind fun x h1 => match x with
    | .ref p => (match h1[p]? with
      | some (.lst xs) => new (.lst xs.reverse) h1
      | _ => .no)
    | _ => .no) := by
  intro s h σ μ H Q hs hr hf
  refine of_pe (pe_revL pe_w) ?_
  refine ha s h σ μ H _ hs hr (Fit.imp (Fit.bind hf) fun d1 μ1 h1 H1 _ e1 r1 z v1 q1 => ?_)
  split at z
  · cases q1 with
    | ref ha =>
      split at z
      · rename_i xs hx
        obtain ⟨vs, h0, w⟩ := r1.lst ha hx
        exact ⟨_, _, rfl, SqL.of h0, qv_lst r1 z w.reverse⟩
      · exact z.elim
  · exact z.elim
theorem no_any : ∀ {es : List Expr} {pos : Pos} {env : Env}, es.all noStar = true → (backTo pos (starEach es env)).any (·.1) = false
  | [], _, _, _ => rfl
  | e :: es, pos, env, h => by
    simp only [List.all_cons, Bool.and_eq_true] at h
    rw [no_star h.1]
    show (false || (backTo pos (starEach es env)).any (·.1)) = false
    rw [no_any h.2]; rfl
/-- a def called -/
theorem se_call0 (c : CtxOk G C S X W) {f : Nat} {x : Str} (hf : G.fns[f]? = some (x, [])) (hg : globIn S.sc x = true) {p pos : Pos} : SE X W (.Call (.Name x p) [] [] pos) (fun _ h => C f [] h) := by
  intro s h σ μ H Q hs hr hz
  obtain ⟨fa, fd, k, hm, hk, room, F, B⟩ := (c.fns f x [] hf).ok
  obtain ⟨g, nd⟩ := c.gl hg
  have P : PE X (.Call (.Name x p) [] [] pos) (fun σ H Q => spD X.K 0 (C f) [] H Q (WE W σ)) := by
    refine ⟨fun pins s σ H Q I h => ?_⟩
    refine wpAny_Call_Name_kw (ld_glob I g hm ?_ nd)
    exact PySem.W.callWith_K0 I.kIn hk (run_fnSD (us := []) F room B .nil (passAt c.tk σ) I .nil h)
  exact of_pe P ⟨rfl, [], μ, h, .nil, hr, hz⟩
theorem se_call (c : CtxOk G C S X W) {f : Nat} {x : Str} {ps : List Str} {e : Expr} {es : List Expr} {fs : Sx → Hx → Rs (List D)} (ha : SA X W (e :: es) fs) (hf : G.fns[f]? = some (x, ps)) (hl : ps.length = (e :: es).length) (hg : globIn S.sc x = true) (hn : (e :: es).all noStar = true)
    (hfl : ∀ s h ds h', fs s h = .ok ds h' → ds.length = (e :: es).length) {p pos : Pos} : SE X W (.Call (.Name x p) (e :: es) [] pos) (fun s h => (fs s h).bind fun xs h1 => C f xs h1) := by
  intro s h σ μ H Q hs hr hz
  obtain ⟨fa, fd, k, hm, hk, room, F, B⟩ := (c.fns f x ps hf).ok
  obtain ⟨g, nd⟩ := c.gl hg
  simp only [List.all_cons, Bool.and_eq_true] at hn
  refine of_pe (pe_callSD F room g hm hk B .nil (passAt c.tk) pa_w nd (no_star hn.1) (no_any hn.2)) ?_
  refine ha s h σ μ H _ hs hr (Fit.imp (Fit.bind hz) fun ds μ1 h1 H1 eq e1 r1 z vs q1 => ?_)
  rw [List.append_nil]
  exact ⟨by rw [← q1.length, hl]; exact hfl s h ds h1 eq, ds, μ1, h1, q1, r1, z⟩
/-! ### built-ins -/
theorem bootB (b : Bf) : bootBuiltins (nameB b) = some (valB b) := by cases b <;> decide +kernel
theorem nameB_ne (b : Bf) : nameB b ≠ ("__name__" : Str) := by cases b <;> decide +kernel
theorem se_bf (c : CtxOk G C S X W) (b : Bf) {e : Expr} {es : List Expr} {fs : Sx → Hx → Rs (List D)} (ha : SA X W (e :: es) fs) (hf : nameB b ∈ G.frees) (hg : globIn S.sc (nameB b) = true) (hn : (e :: es).all noStar = true) {p pos : Pos} :
    SE X W (.Call (.Name (nameB b) p) (e :: es) [] pos) (fun s h => (fs s h).bind fun xs h1 => builtin b xs h1) := by
  intro s h σ μ H Q hs hr hz
  obtain ⟨g, nd⟩ := c.gl hg
  have hm := c.frees _ hf
  simp only [List.all_cons, Bool.and_eq_true] at hn
  have hh : wA X (e :: es) σ H (fun vs H1 => rB X.K b vs H1 Q) := ha s h σ μ H _ hs hr (Fit.imp (Fit.bind hz) fun ds μ1 h1 H1 eq e1 r1 z vs q1 => ⟨ds, μ1, h1, _, q1, r1, z⟩)
  have cb := callB (X := X) c.calm b
  cases hv : valB b with
  | builtin id =>
    rw [hv] at cb
    exact of_pe (pe_callB cb g hm (by rw [bootB, hv]) pa_w (nameB_ne b) nd (no_star hn.1) (no_any hn.2)) hh
  | type T =>
    rw [hv] at cb
    exact of_pe (pe_callTy cb g hm (by rw [bootB, hv]) pa_w (nameB_ne b) nd (no_star hn.1) (no_any hn.2)) hh
  | _ => cases b <;> cases hv
/-! ### methods of built-in types -/
def tyM : Bm → String
  | .append => "list" | .extend => "list" | .pop => "list" | .get => "dict" | .join => "str" | .split => "str" | .isalnum => "str" | .startswith => "str"
theorem plainM (b : Bm) : PlainAttrs (tyM b) := by
  cases b <;> first | exact PySem.F.plainAttrs_list | exact PySem.F.plainAttrs_dict | exact PySem.F.plainAttrs_str
theorem slotM (b : Bm) : Slot (tyM b) (nameM b) (idM b) := by
  cases b
  · exact PySem.F.slot_list_append
  · exact PySem.F.slot_list_extend
  · exact PySem.F.slot_list_pop
  · exact PySem.F.slot_dict_get
  · exact PySem.F.slot_str_join
  · exact PySem.F.slot_str_split
  · exact PySem.F.slot_str_isalnum
  · exact PySem.F.slot_str_startswith
theorem typeM (b : Bm) : typeOf (.builtin (idM b)) = pure (.type "method_descriptor") := by
  cases b
  · exact PySem.F.type_list_append
  · exact PySem.F.type_list_extend
  · exact PySem.F.type_list_pop
  · exact PySem.F.type_dict_get
  · exact PySem.F.type_str_join
  · exact PySem.F.type_str_split
  · exact PySem.F.type_str_isalnum
  · exact PySem.F.type_str_startswith
theorem tyM_of {K : PySem.W.Frag} {μ : List Addr} {H : Hp} {h : Hx} (r : HR K μ H h) {b : Bm} {d : D} {v : V} (q : DR K μ H d v) (e : hasM h b d = true) : tyV K (tyM b) v H := by
  cases b <;> cases q <;> simp only [hasM, Bool.false_eq_true] at e <;> first
    | rfl
    | (split at e
       · rename_i ha _ _ hx
         first
           | (obtain ⟨vs, h0, _⟩ := r.lst ha hx; exact .inl ⟨rfl, _, SqL.of h0⟩)
           | (obtain ⟨vs, h0, _⟩ := r.dic ha hx; exact .inr (.inr (.inl ⟨rfl, .inl ⟨_, h0⟩⟩)))
       · cases e)
theorem se_bm (c : CtxOk G C S X W) (b : Bm) {o e : Expr} {es : List Expr} {fo : Sx → Hx → Rs D} {fs : Sx → Hx → Rs (List D)} (ho : SE X W o fo) (ha : SA X W (e :: es) fs) (hsup : noSuper o = true) {apos cpos : Pos} (hline : (apos.endLine == cpos.line) = true) (hlt : (e :: es).length < 30) (hn : (e :: es).all noStar = true) :
    SE X W (.Call (.Attribute o (nameM b) apos) (e :: es) [] cpos) (fun s h => (fo s h).bind fun x h1 => if hasM h1 b x then (fs s h1).bind fun xs h2 => bmethod b x xs h2 else .no) := by
  intro s h σ μ H Q hs hr hz
  have hh : wE X o σ H (fun x H1 => tyV X.K (tyM b) x H1 ∧ wA X (e :: es) σ H1 fun xs H2 => rM X.K b x xs H2 Q) := by
    refine ho s h σ μ H _ hs hr (Fit.imp (Fit.bind hz) fun d1 μ1 h1 H1 _ e1 r1 z v1 q1 => ?_)
    split at z
    · rename_i hm
      refine ⟨tyM_of r1 q1 hm, ?_⟩
      exact ha s h1 σ μ1 H1 _ (hs.mono hr e1) r1 (Fit.imp (Fit.bind z) fun ds μ2 h2 H2 _ e2 r2 z2 vs q2 => ⟨d1, ds, μ2, h2, _, q1.mono r1 e2, q2, r2, z2⟩)
    · exact z.elim
  simp only [List.all_cons, Bool.and_eq_true] at hn
  refine of_pe (pe_bm (plainM b) (slotM b) (typeM b) (mtD c.units c.calm b) pe_w pa_w (no_super hsup) ?_ hline (no_star hn.1) (no_any hn.2)) hh
  have key : ∀ l : List Expr, l.all noStar = true → (backTo cpos (starEach l X.env)).all (fun x => !x.1) = true := by
    intro l
    induction l with
    | nil => intro _; rfl
    | cons a l ih =>
      intro hl
      simp only [List.all_cons, Bool.and_eq_true] at hl
      rw [no_star hl.1]
      show (true && (backTo cpos (starEach l X.env)).all (fun x => !x.1)) = true
      rw [ih hl.2]; rfl
  rw [key _ (by simp [hn])]
  have hl : (e :: es).length < 30 := hlt
  simp [backToKw, keywordEach]
  simpa using hl
theorem se_bm0 (c : CtxOk G C S X W) (b : Bm) {o : Expr} {fo : Sx → Hx → Rs D} (ho : SE X W o fo) (hsup : noSuper o = true) {apos cpos : Pos} (hline : (apos.endLine == cpos.line) = true) :
    SE X W (.Call (.Attribute o (nameM b) apos) [] [] cpos) (fun s h => (fo s h).bind fun x h1 => if hasM h1 b x then bmethod b x [] h1 else .no) := by
  intro s h σ μ H Q hs hr hz
  refine of_pe (pe_bm0 (plainM b) (slotM b) (typeM b) (mtD c.units c.calm b) pe_w (no_super hsup) hline) ?_
  refine ho s h σ μ H _ hs hr (Fit.imp (Fit.bind hz) fun d1 μ1 h1 H1 _ e1 r1 z v1 q1 => ?_)
  split at z
  · rename_i hm
    exact ⟨tyM_of r1 q1 hm, d1, [], μ1, h1, _, q1, .nil, r1, z⟩
  · exact z.elim
end
end Ev
end

section
set_option autoImplicit false
set_option linter.all false
set_option Elab.async false
set_option maxRecDepth 100000
set_option maxHeartbeats 4000000
/-! Ev10: isinstance, stores, walks, comprehensions, displays of dicts. -/
namespace Ev
open PySem PySem.Spec PyProof.Rows L2
section
variable {G : Cfg} {C : Call} {S : SS} {X : Cx} {W : WX}
/-! ### isinstance -/
def tyD (h : Hx) : D → String
  | .non => "NoneType"
  | .bl _ => "bool"
  | .int _ => "int"
  | .str _ => "str"
  | .tup _ => "tuple"
  | .fro _ => "list"
  | .ref a => match h[a]? with
    | some (.dic _ _) => "dict"
    | _ => "list"
theorem tyX_of {K : PySem.W.Frag} {μ : List Addr} {H : Hp} {h : Hx} (r : HR K μ H h) {d : D} {v : V} (q : DR K μ H d v) (hk : known h d = true) : TyX K H v (.type (tyD h d)) := by
  cases q with
  | non => exact .base .non
  | bl b => exact .base (.bl b)
  | int i => exact .base (.int i)
  | str s => exact .base (.str _)
  | tup sv w =>
    rcases sv with (sv | ⟨o, sv⟩) | ⟨o, its, n, e, hc, _⟩
    · exact .base (.tup sv)
    · exact .fTuple sv
    · exact .kTuple e hc
  | fro sv w =>
    rcases sv with ⟨o, sv⟩ | ⟨o, its, n, e, hc, _⟩
    · exact .base (.frz sv)
    · exact .kList e hc
  | ref ha =>
    simp only [tyD]
    split
    · rename_i lk kvs hx
      obtain ⟨ks, h0, _⟩ := r.dict ha hx
      rcases h0 with h0 | ⟨o, h0⟩
      · exact .base (.dK h0)
      · exact .fDict h0
    · rename_i hne
      simp only [known] at hk
      obtain ⟨o, ho⟩ := Option.isSome_iff_exists.mp hk
      cases o with
      | lst xs =>
        obtain ⟨vs, h0, _⟩ := r.lst ha ho
        exact .base (.lst h0)
      | dic lk kvs => exact absurd ho (hne lk kvs)
      | ins c fs =>
        cases r.obj _ _ _ ha ho
def tyK : Ck → String
  | .int => "int" | .bool => "bool" | .str => "str" | .list => "list" | .tuple => "tuple" | .cl _ => "int"
def plainK : Ck → Bool
  | .cl _ => false
  | _ => true
def bigOf (T : String) (k : Ck) : Bool := match k, T with
  | .int, "int" => true
  | .int, "bool" => true
  | .bool, "bool" => true
  | .str, "str" => true
  | .list, "list" => true
  | .tuple, "tuple" => true
  | _, _ => false
theorem kit_big : ∀ (T : String) (k : Ck), plainK k = true → (T = "NoneType" ∨ T = "bool" ∨ T = "int" ∨ T = "str" ∨ T = "tuple" ∨ T = "list" ∨ T = "dict") → kitB T (tyK k) = some (bigOf T k) := by
  intro T k hk h
  cases k <;> (try cases hk) <;> rcases h with rfl | rfl | rfl | rfl | rfl | rfl | rfl <;> decide +kernel
theorem tyD_in (h : Hx) (d : D) : tyD h d = "NoneType" ∨ tyD h d = "bool" ∨ tyD h d = "int" ∨ tyD h d = "str" ∨ tyD h d = "tuple" ∨ tyD h d = "list" ∨ tyD h d = "dict" := by
  cases d <;> simp [tyD]
  split <;> simp
theorem isOf_big {K : PySem.W.Frag} {μ : List Addr} {H : Hp} {h : Hx} (r : HR K μ H h) {d : D} {v : V} (q : DR K μ H d v) (hk : known h d = true) (k : Ck) (pk : plainK k = true) : isOf h (fun _ _ => false) d k = bigOf (tyD h d) k := by
  cases q with
  | ref ha =>
    simp only [known] at hk
    obtain ⟨o, ho⟩ := Option.isSome_iff_exists.mp hk
    cases o with
    | lst xs => cases k <;> simp [isOf, tyD, ho, bigOf] <;> cases pk
    | dic lk kvs => cases k <;> simp [isOf, tyD, ho, bigOf] <;> cases pk
    | ins c fs => cases r.obj _ _ _ ha ho
  | _ => cases k <;> first | rfl | cases pk
theorem kit_one {K : PySem.W.Frag} {μ : List Addr} {H : Hp} {h : Hx} (r : HR K μ H h) {d : D} {v : V} (q : DR K μ H d v) (hk : known h d = true) (k : Ck) (pk : plainK k = true) : PySem.W.kitOne K (.type (tyD h d)) (.type (tyK k)) = some (isOf h (fun _ _ => false) d k) := by
  rw [isOf_big r q hk k pk]
  exact kit_ty (kit_big _ k pk (tyD_in h d))
theorem kit_any {K : PySem.W.Frag} {μ : List Addr} {H : Hp} {h : Hx} (r : HR K μ H h) {d : D} {v : V} (q : DR K μ H d v) (hk : known h d = true) : ∀ cs : List Ck, cs.all plainK = true →
    PySem.W.kitAny K (.type (tyD h d)) (cs.map fun k => .type (tyK k)) = some (cs.any fun k => isOf h (fun _ _ => false) d k)
  | [], _ => kitAny_nil
  | k :: cs, pk => by
    simp only [List.all_cons, Bool.and_eq_true] at pk
    have ih := kit_any r q hk cs pk.2
    refine kitAny_cons (kit_one r q hk k pk.1) (fun e => ?_) (fun e => ?_)
    · rw [ih, List.any_cons, e]; rfl
    · rw [List.any_cons, e]; rfl
theorem bootK (k : Ck) (pk : plainK k = true) : bootBuiltins (nameK k) = some (.type (tyK k)) := by cases k <;> first | decide +kernel | cases pk
theorem nameK_ne (k : Ck) (pk : plainK k = true) : nameK k ≠ ("__name__" : Str) := by cases k <;> first | decide +kernel | cases pk
theorem ck_pe (c : CtxOk G C S X W) {k : Ck} {e : Expr} (h : ckOk G S k e = true) : plainK k = true ∧ PE X e (tC (.ty (tyK k))) ∧ noStar e = true := by
  unfold ckOk at h
  split at h
  · rename_i x p
    split at h
    · cases h
    · rename_i hk
      simp only [Bool.and_eq_true, decide_eq_true_eq] at h
      obtain ⟨⟨rfl, h2⟩, h3⟩ := h
      have pk : plainK k = true := by cases k <;> first | rfl | exact absurd rfl (hk _)
      obtain ⟨g, nd⟩ := c.gl h3
      exact ⟨pk, pe_bltn g (c.frees _ h2) (bootK k pk) rfl (nameK_ne k pk) nd, rfl⟩
  · cases h
theorem boot_isi : bootBuiltins "isinstance" = some (.builtin "isinstance") := by decide +kernel
theorem se_isi1 (c : CtxOk G C S X W) {e t : Expr} {f : Sx → Hx → Rs D} {k : Ck} (ha : SE X W e f) (hf : ("isinstance" : Str) ∈ G.frees) (hg : globIn S.sc "isinstance" = true) (hn : noStar e = true) (hk : ckOk G S k t = true) {p pos : Pos} :
    SE X W (.Call (.Name "isinstance" p) [e, t] [] pos) (fun s h => (f s h).bind fun x h1 => if known h1 x then .ok (.bl ([k].any fun k => isOf h1 (fun _ _ => false) x k)) h1 else .no) := by
  intro s h σ μ H Q hs hr hz
  obtain ⟨g, nd⟩ := c.gl hg
  obtain ⟨pk, pt, ns⟩ := ck_pe c hk
  refine of_pe (pe_callB call_isi g (c.frees _ hf) boot_isi (pa_cons pe_w (pa_cons pt pa_nil (no_star ns)) (no_star hn)) (by decide +kernel) nd (no_star hn) (no_any (by simp [ns]))) ?_
  refine ha s h σ μ H _ hs hr (Fit.imp (Fit.bind hz) fun d1 μ1 h1 H1 _ e1 r1 z v1 q1 => ?_)
  split at z
  · rename_i hkn
    refine ⟨v1, .ty (tyK k), _, _, _, rfl, .ty _, tyX_of r1 q1 hkn, kit_one r1 q1 hkn k pk, ?_⟩
    have := qv_bl r1 z
    simpa using this
  · exact z.elim
theorem cks_pa (c : CtxOk G C S X W) : ∀ {ks : List Ck} {es : List Expr}, cksOk G S ks es = true → ks.all plainK = true ∧ es.all noStar = true ∧ PA X es (fun _ H Q => Q (ks.map fun k => V.ty (tyK k)) H)
  | [], [], _ => ⟨rfl, rfl, pa_nil⟩
  | k :: ks, e :: es, h => by
    simp only [cksOk, Bool.and_eq_true] at h
    obtain ⟨pk, pt, ns⟩ := ck_pe c h.1
    obtain ⟨a, b, d⟩ := cks_pa c h.2
    exact ⟨by simp [pk, a], by simp [ns, b], pa_cons pt d (no_star ns)⟩
  | [], _ :: _, h => by simp [cksOk] at h
  | _ :: _, [], h => by simp [cksOk] at h
theorem cls_all : ∀ ks : List Ck, Paired ClsV (ks.map fun k => V.ty (tyK k)) (ks.map fun k => Value.type (tyK k))
  | [] => .nil
  | k :: ks => .cons (.ty _) (cls_all ks)
theorem se_isiT (c : CtxOk G C S X W) {e : Expr} {ts : List Expr} {f : Sx → Hx → Rs D} {ks : List Ck} {j : Nat} {p2 : Pos} (ha : SE X W e f) (hf : ("isinstance" : Str) ∈ G.frees) (hg : globIn S.sc "isinstance" = true) (hn : noStar e = true) (hk : cksOk G S ks ts = true) (hl : ks.length ≤ 30) {p pos : Pos} :
    SE X W (.Call (.Name "isinstance" p) [e, .Tuple ts j p2] [] pos) (fun s h => (f s h).bind fun x h1 => if known h1 x then .ok (.bl (ks.any fun k => isOf h1 (fun _ _ => false) x k)) h1 else .no) := by
  intro s h σ μ H Q hs hr hz
  obtain ⟨g, nd⟩ := c.gl hg
  obtain ⟨pk, ns, pt⟩ := cks_pa c hk
  refine of_pe (pe_callB call_isiT g (c.frees _ hf) boot_isi (pa_cons pe_w (pa_cons (pe_tup pt) pa_nil rfl) (no_star hn)) (by decide +kernel) nd (no_star hn) rfl) ?_
  refine ha s h σ μ H _ hs hr (Fit.imp (Fit.bind hz) fun d1 μ1 h1 H1 _ e1 r1 z v1 q1 => ?_)
  split at z
  · rename_i hkn
    refine ⟨by rw [List.length_map]; exact Nat.le_trans hl (by decide), fun tp htp => ?_⟩
    have x1 := Ext.side (o := .tup (ks.map fun k => V.ty (tyK k))) r1 htp
    have r2 := r1.side (o := .tup (ks.map fun k => V.ty (tyK k))) htp
    have q2 := q1.mono r1 x1
    refine ⟨v1, tp, _, _, _, _, rfl, upd_same, cls_all ks, tyX_of r2 q2 hkn, kit_any r2 q2 hkn ks pk, ?_⟩
    exact z _ _ x1 r2 _ (.bl _)
  · exact z.elim

/-! ### stores -/
theorem FitG.mono {K : PySem.W.Frag} {js : List Nat} {r : SR} {μ μ' : List Addr} {H H' : Hp} {σ : L2.St} {Q : L2.St → Hp → Prop} (x : Ext μ H μ' H') (f : FitG K js r μ H σ Q W) : FitG K js r μ' H' σ Q W := by
  cases r with
  | nx s h => exact fun m Hm t a b c d => f m Hm t (x.trans a) b c d
  | ex y s h => exact fun m Hm t cc dd a b c d e => f m Hm t cc dd (x.trans a) b c d e
  | _ => exact f
theorem sameOff_refl (js : List Nat) (σ : L2.St) : SameOff js σ σ := ⟨rfl, fun _ _ => rfl⟩
theorem SameOff.trans {js ks : List Nat} {σ σ1 σ2 : L2.St} (a : SameOff js σ σ1) (b : SameOff ks σ1 σ2) : SameOff (js ++ ks) σ σ2 :=
  ⟨b.1.trans a.1, fun j h => by
    rw [List.mem_append, not_or] at h
    rw [b.2 j h.2, a.2 j h.1]⟩
theorem sg_nm (c : CtxOk G C S X W) {i : Nat} {x : Str} {pos : Pos} (h1 : S.N[i]? = some x) (h2 : storeIn S.own x = true) (h3 : storeIn S.sc x = true) : SG X W (.Name x pos) [i] (fun d s h => .nx (s.set i (some d)) h) := by
  intro d s h v σ μ H Q hs hr hd hf
  refine of_pg (pg_name (i := i) c.nd (by rw [c.nN]; exact h1) (c.loc h3) (c.sto x h2)) ?_
  exact hf μ H _ .refl hr (hs.set i hd) ⟨by simp, fun j hj => by rw [List.getElem?_set_ne (by simp at hj; exact Ne.symm hj)]⟩
theorem sg_ix (c : CtxOk G C S X W) {a b : Expr} {fa fb : Sx → Hx → Rs D} (ha : SE X W a fa) (hb : SE X W b fb) (hn : noSlice b = true) {pos : Pos} :
    SG X W (.Subscript a b pos) [] (fun d s h => (fa s h).run s fun x h1 => (fb s h1).run s fun y h2 => match setIx x y d h2 with
      | some h3 => .nx s h3
      | none => .no) := by
  intro d s h v σ μ H Q hs hr hd hf
  refine of_pg (pg_sub pe_w pe_w (setD c.units) ?_) ?_
  · intro w
    cases b <;> first | rfl | (simp [noSlice] at hn)
  dsimp only at hf
  have k1 : Fit X.K (fa s h) μ H (fun x μ1 h1 H1 => FitG X.K [] ((fb s h1).run s fun y h2 => match setIx x y d h2 with
      | some h3 => .nx s h3
      | none => .no) μ1 H1 σ Q W) (WE W σ) := by
    cases e : fa s h with
    | ok x h1 =>
      rw [e] at hf
      exact fun μ1 H1 x1 r1 => FitG.mono x1 hf
    | ex x h1 =>
      rw [e] at hf
      exact fun μ1 H1 cc dd x1 r1 q => hf μ1 H1 σ cc dd x1 r1 (hs.mono hr x1) (sameOff_refl _ _) q
    | no => rw [e] at hf; exact hf
  refine ha s h σ μ H _ hs hr (Fit.imp k1 fun d1 μ1 h1 H1 _ e1 r1 z v1 q1 => ?_)
  have k2 : Fit X.K (fb s h1) μ1 H1 (fun y μ2 h2 H2 => ∃ h3, setIx d1 y d h2 = some h3 ∧ FitG X.K [] (.nx s h3) μ2 H2 σ Q W) (WE W σ) := by
    cases e : fb s h1 with
    | ok y h2 =>
      rw [e] at z
      intro μ2 H2 x2 r2
      simp only [Rs.run] at z
      cases e3 : setIx d1 y d h2 with
      | none => rw [e3] at z; exact z.elim
      | some h3 =>
        rw [e3] at z
        exact ⟨h3, rfl, FitG.mono x2 z⟩
    | ex x h1' =>
      rw [e] at z
      exact fun μ2 H2 cc dd x2 r2 q => z μ2 H2 σ cc dd x2 r2 ((hs.mono hr e1).mono r1 x2) (sameOff_refl _ _) q
    | no => rw [e] at z; exact z
  refine hb s h1 σ μ1 H1 _ (hs.mono hr e1) r1 (Fit.imp k2 fun d2 μ2 h2 H2 _ e2 r2 z2 v2 q2 => ?_)
  obtain ⟨h3, e3, z3⟩ := z2
  exact ⟨d1, d2, d, μ2, h2, h3, q1.mono r1 e2, q2, (hd.mono hr e1).mono r1 e2, r2, e3, fun H' x3 r3 => z3 μ2 H' σ x3 r3 (((hs.mono hr e1).mono r1 e2).mono r2 x3) (sameOff_refl _ _)⟩
theorem sgs_nil : SGs X W [] [] (fun ds s h => match ds with
    | [] => .nx s h
    | _ => .no) := by
  intro ds s h vs σ μ H Q hs hr hd hf
  cases hd with
  | nil => exact of_pgs pgs_nil ⟨rfl, hf μ H σ .refl hr hs (sameOff_refl _ _)⟩
  | cons _ _ => exact hf.elim
theorem sgs_cons {e : Expr} {es : List Expr} {js ks : List Nat} {f : D → Sx → Hx → SR} {fs : List D → Sx → Hx → SR} (ha : SG X W e js f) (hb : SGs X W es ks fs) (hn : noStar e = true) :
    SGs X W (e :: es) (js ++ ks) (fun ds s h => match ds with
      | x :: xs => (f x s h).seq fun s1 h1 => fs xs s1 h1
      | _ => .no) := by
  intro ds s h vs σ μ H Q hs hr hd hf
  cases hd with
  | nil => exact hf.elim
  | cons q1 q2 =>
    rename_i d ds v vs
    refine of_pgs (pgs_cons pg_w pgs_w ?_) ⟨_, _, rfl, ?_⟩
    · rw [no_starG hn]; rfl
    simp only at hf
    refine ha d s h v σ μ H _ hs hr q1 ?_
    cases e1 : f d s h with
    | nx s1 h1 =>
      rw [e1] at hf
      intro μ1 H1 σ1 x1 r1 hs1 so1
      refine hb ds s1 h1 vs σ1 μ1 H1 Q hs1 r1 (q2.mono hr x1) ?_
      have hf' : FitG X.K (js ++ ks) (fs ds s1 h1) μ H σ Q W := hf
      cases e2 : fs ds s1 h1 with
      | nx s2 h2 =>
        rw [e2] at hf'
        exact fun μ2 H2 σ2 x2 r2 hs2 so2 => hf' μ2 H2 σ2 (x1.trans x2) r2 hs2 (so1.trans so2)
      | ex x s' h' =>
        rw [e2] at hf'
        exact fun μ2 H2 σ2 cc dd x2 r2 hs2 so2 q => hf' μ2 H2 σ2 cc dd (x1.trans x2) r2 hs2 (so1.trans so2) q
      | _ => rw [e2] at hf'; exact hf'
    | ex x s' h' =>
      rw [e1] at hf
      exact fun μ1 H1 σ1 cc dd x1 r1 hs1 so1 q => hf μ1 H1 σ1 cc dd x1 r1 hs1 (so1.trans (ks := ks) (sameOff_refl _ _)) q
    | _ => rw [e1] at hf; exact hf.elim
theorem sg_tup (c : CtxOk G C S X W) {ts : List Expr} {js : List Nat} {fs : List D → Sx → Hx → SR} {n : Nat} (ha : SGs X W ts js fs) (hn : ts.all noStar = true) (hl : n = ts.length) {k : Nat} {pos : Pos} :
    SG X W (.Tuple ts k pos) js (fun d s h => match d with
      | .tup xs => if xs.length = n then fs xs s h else .no
      | _ => .no) := by
  intro d s h v σ μ H Q hs hr hd hf
  dsimp only at hf
  split at hf
  · rename_i xs
    split at hf
    rotate_left
    · exact hf.elim
    rename_i hxs
    cases hd with
    | tup sv w =>
      have key : ∀ l : List Expr, l.all noStar = true → (assignEach l X.env).length = l.length ∧ (assignEach l X.env).findIdx? (·.1) = none := by
        intro l
        induction l with
        | nil => intro _; exact ⟨rfl, rfl⟩
        | cons a l ih =>
          intro hl
          simp only [List.all_cons, Bool.and_eq_true] at hl
          rw [no_starG hl.1]
          obtain ⟨i1, i2⟩ := ih hl.2
          exact ⟨by simp [i1], by rw [List.findIdx?_cons]; simp [i2]⟩
      refine of_pg (pg_tup c.calm pgs_w (key ts hn).1 (key ts hn).2) ⟨_, _, rfl, sv, ?_, ha xs s h _ σ μ H Q hs hr w hf⟩
      rw [← w.length, hxs, hl]
  · exact hf.elim
end
end Ev
end

section
set_option autoImplicit false
set_option linter.all false
set_option Elab.async false
set_option maxRecDepth 100000
set_option maxHeartbeats 4000000
/-! Ev11: walks, comprehensions, displays of dicts. -/
namespace Ev
open PySem PySem.Spec PyProof.Rows L2
section
variable {K : PySem.W.Frag} {μ : List Addr} {H : Hp} {h : Hx}
theorem walk_lst (r : HR K μ H h) {a : Nat} {p : Addr} {ds : List D} (ha : μ[a]? = some p) (e : h[a]? = some (.lst ds)) : WalkR K (Itl K p) ds (.at_ a ds) μ H where
  go := fun i d μ1 H1 h1 x1 r1 so ei => by
    have e1 : h1[a]? = some (.lst ds) := by simpa [Src.ok] using so
    obtain ⟨vs, h0, w⟩ := r1.lst (x1.get ha) e1
    obtain ⟨v, ev, q⟩ := w.get ei
    refine ⟨⟨vs, v, SqL.of h0, ev⟩, fun x H' hy => ?_⟩
    obtain ⟨rfl, hx⟩ := hy
    have := hx vs (SqL.of h0)
    rw [ev] at this; cases this
    exact ⟨.refl, r1, q, fun _ _ z => z⟩
  stop := fun i μ1 H1 h1 x1 r1 so hl => by
    have e1 : h1[a]? = some (.lst ds) := by simpa [Src.ok] using so
    obtain ⟨vs, h0, w⟩ := r1.lst (x1.get ha) e1
    exact ⟨vs, SqL.of h0, by rw [← w.length]; exact hl⟩
theorem walk_fro (r : HR K μ H h) {p : Addr} {ds : List D} {vs : List V} (sv : SqF K H p vs) (w : DRs K μ H ds vs) : WalkR K (Itl K p) ds .none μ H where
  go := fun i d μ1 H1 h1 x1 r1 _ ei => by
    obtain ⟨v, ev, q⟩ := w.get ei
    have s1 := (sqF_keep r x1 sv).l
    refine ⟨⟨vs, v, s1, ev⟩, fun x H' hy => ?_⟩
    obtain ⟨rfl, hx⟩ := hy
    have := hx vs s1
    rw [ev] at this; cases this
    exact ⟨.refl, r1, q.mono r x1, fun _ _ z => z⟩
  stop := fun i μ1 H1 h1 x1 r1 _ hl => ⟨vs, (sqF_keep r x1 sv).l, by rw [← w.length]; exact hl⟩
theorem walk_tup (r : HR K μ H h) {p : Addr} {ds : List D} {vs : List V} (sv : SqT K H p vs) (w : DRs K μ H ds vs) : WalkR K (Itt K p) ds .none μ H where
  go := fun i d μ1 H1 h1 x1 r1 _ ei => by
    obtain ⟨v, ev, q⟩ := w.get ei
    have s1 := sqT_keep r x1 sv
    refine ⟨⟨vs, v, s1, ev⟩, fun x H' hy => ?_⟩
    obtain ⟨rfl, hx⟩ := hy
    have := hx vs s1
    rw [ev] at this; cases this
    exact ⟨.refl, r1, q.mono r x1, fun _ _ z => z⟩
  stop := fun i μ1 H1 h1 x1 r1 _ hl => ⟨vs, sqT_keep r x1 sv, by rw [← w.length]; exact hl⟩
theorem walk_str (r : HR K μ H h) (z : List Nat) : WalkR K (Its (strOf z)) (z.map fun c => .str [c]) .none μ H where
  go := fun i d μ1 H1 h1 x1 r1 _ ei => by
    rw [List.getElem?_map, Option.map_eq_some_iff] at ei
    obtain ⟨c, ec, rfl⟩ := ei
    have hi := (List.getElem?_eq_some_iff.mp ec).1
    refine ⟨by simpa [Its, strOf] using hi, fun x H' hy => ?_⟩
    obtain ⟨rfl, c', hc', rfl⟩ := hy
    have : c' = c := by
      simp [strOf] at hc'
      rw [ec] at hc'
      exact (Option.some.inj hc').symm
    subst this
    exact ⟨.refl, r1, .str [c'], fun _ _ z => z⟩
  stop := fun i μ1 H1 h1 x1 r1 _ hl => by
    simpa [Its, strOf] using hl
theorem walk_rng (r : HR K μ H h) (lo : Int) (n : Nat) : WalkR K (Itr lo n) (rngD lo n) .none μ H where
  go := fun i d μ1 H1 h1 x1 r1 _ ei => by
    unfold rngD at ei
    rw [List.getElem?_map, Option.map_eq_some_iff] at ei
    obtain ⟨k, ek, rfl⟩ := ei
    obtain ⟨hi, ek⟩ := List.getElem?_eq_some_iff.mp ek
    simp at hi ek
    subst ek
    refine ⟨hi, fun x H' hy => ?_⟩
    obtain ⟨rfl, rfl⟩ := hy
    exact ⟨.refl, r1, .int _, fun _ _ z => z⟩
  stop := fun i μ1 H1 h1 x1 r1 _ hl => by simpa [Itr, rngD] using hl
end
section
variable {G : Cfg} {C : Call} {S : SS} {X : Cx} {W : WX}
theorem si_seq {tg e : Expr} {f : Sx → Hx → Rs D} (ha : SE X W e f) : SI X W tg e (fun s h => (f s h).bind fun x h1 => Rs.of (walkOf h1 x) h1) := by
  intro s h σ μ H R hs hr hf pins s0 I
  cases ef : f s h with
  | no => dsimp only at hf; rw [ef] at hf; exact hf.elim
  | ex x h1 =>
    dsimp only at hf
    rw [ef] at hf
    have hh : wE X e σ H (fun _ _ => False) := ha s h σ μ H _ hs hr (by rw [ef]; exact hf)
    exact thn (hh pins s0 I) fun u s1 ⟨v, H1, _, _, q⟩ => q.elim
  | ok d h1 =>
    dsimp only at hf
    rw [ef] at hf
    obtain ⟨w, ew, z⟩ := (show Fit X.K (Rs.of (walkOf h1 d) h1) μ H _ _ from hf).of
    have base : ∀ (P : V → Hp → Prop), (∀ μ1 H1 v, Ext μ H μ1 H1 → HR X.K μ1 H1 h1 → DR X.K μ1 H1 d v → P v H1) → wE X e σ H P := fun P hP => ha s h σ μ H _ hs hr (by rw [ef]; exact fun μ1 H1 x1 r1 v q => hP μ1 H1 v x1 r1 q)
    unfold walkOf at ew
    split at ew
    · cases ew
      refine (pi_tup pe_w).run pins s0 σ H R I ?_
      refine base _ fun μ1 H1 v x1 r1 q => ?_
      cases q with
      | tup sv w => exact ⟨_, rfl, ⟨_, sv⟩, z μ1 H1 x1 r1 _ (walk_tup r1 sv w)⟩
    · cases ew
      refine (pi_list pe_w).run pins s0 σ H R I ?_
      refine base _ fun μ1 H1 v x1 r1 q => ?_
      cases q with
      | fro sv w => exact ⟨_, rfl, ⟨_, sv.l⟩, z μ1 H1 x1 r1 _ (walk_fro r1 sv w)⟩
    · split at ew
      · cases ew
        refine (pi_str pe_w).run pins s0 σ H R I ?_
        refine base _ fun μ1 H1 v x1 r1 q => ?_
        cases q with
        | str => exact ⟨_, rfl, z μ1 H1 x1 r1 _ (walk_str r1 _)⟩
      · cases ew
    · split at ew
      · rename_i a xs hx
        cases ew
        refine (pi_list pe_w).run pins s0 σ H R I ?_
        refine base _ fun μ1 H1 v x1 r1 q => ?_
        cases q with
        | ref ha' =>
          obtain ⟨vs, h0, w⟩ := r1.lst ha' hx
          exact ⟨_, rfl, ⟨_, SqL.of h0⟩, z μ1 H1 x1 r1 _ (walk_lst r1 ha' hx)⟩
      · cases ew
    · cases ew
theorem si_rng1 (c : CtxOk G C S X W) {tg a : Expr} {f : Sx → Hx → Rs D} (ha : SE X W a f) (hf : ("range" : Str) ∈ G.frees) (hg : globIn S.sc "range" = true) (hn : noStar a = true) {p pos : Pos} :
    SI X W tg (.Call (.Name "range" p) [a] [] pos) (fun s h => (f s h).bind fun x h1 => match x with
      | .int i => if rngOk i then .ok (rngD 0 i.toNat, .none) h1 else .no
      | _ => .no) := by
  intro s h σ μ H R hs hr hz
  obtain ⟨g, nd⟩ := c.gl hg
  refine of_pi (pi_range1 g (c.frees _ hf) (pa_cons pe_w pa_nil (no_star hn)) (no_star hn)) ?_
  refine ha s h σ μ H _ hs hr (Fit.imp (Fit.bind hz) fun d1 μ1 h1 H1 _ e1 r1 z v1 q1 => ?_)
  split at z
  · split at z
    · rename_i hi
      cases q1
      simp only [rngOk, Bool.and_eq_true, decide_eq_true_eq] at hi
      exact ⟨_, rfl, hi.1, hi.2, z μ1 H1 .refl r1 _ (walk_rng r1 0 _)⟩
    · exact z.elim
  · exact z.elim
theorem si_rng2 (c : CtxOk G C S X W) {tg a b : Expr} {fa fb : Sx → Hx → Rs D} (ha : SE X W a fa) (hb : SE X W b fb) (hf : ("range" : Str) ∈ G.frees) (hg : globIn S.sc "range" = true) (hn : noStar a = true) (hn2 : noStar b = true) {p pos : Pos} :
    SI X W tg (.Call (.Name "range" p) [a, b] [] pos) (fun s h => (fa s h).bind fun x h1 => (fb s h1).bind fun y h2 => match x, y with
      | .int i, .int j => if rngOk i && rngOk j then .ok (rngD i (j - i).toNat, .none) h2 else .no
      | _, _ => .no) := by
  intro s h σ μ H R hs hr hz
  obtain ⟨g, nd⟩ := c.gl hg
  refine of_pi (pi_range2 g (c.frees _ hf) (pa_cons pe_w (pa_cons pe_w pa_nil (no_star hn2)) (no_star hn)) (by rw [no_star hn, no_star hn2]; rfl) (no_star hn2)) ?_
  refine ha s h σ μ H _ hs hr (Fit.imp (Fit.bind hz) fun d1 μ1 h1 H1 _ e1 r1 z v1 q1 => ?_)
  refine hb s h1 σ μ1 H1 _ (hs.mono hr e1) r1 (Fit.imp (Fit.bind z) fun d2 μ2 h2 H2 _ e2 r2 z2 v2 q2 => ?_)
  split at z2
  · split at z2
    · rename_i hij
      cases q1; cases q2
      simp only [rngOk, Bool.and_eq_true, decide_eq_true_eq] at hij
      exact ⟨_, _, rfl, ⟨hij.1.1, hij.1.2, hij.2.1, hij.2.2⟩, z2 μ2 H2 .refl r2 _ (walk_rng r2 _ _)⟩
    · exact z2.elim
  · exact z2.elim

/-! ### comprehensions -/
theorem wipe_at {σ : L2.St} {i : Nat} : ∀ {vs : List Nat}, i ∈ vs → (L2.wipe σ vs)[i]? = (σ[i]?).map fun _ => none
  | v :: vs, h => by
    show ((L2.wipe σ vs).set v none)[i]? = _
    by_cases e : i = v
    · subst e
      by_cases hl : i < σ.length
      · rw [List.getElem?_set_self (by rw [wipe_length]; exact hl), List.getElem?_eq_getElem hl]; rfl
      · rw [List.getElem?_eq_none (by simp [wipe_length]; omega), List.getElem?_eq_none (by omega)]; rfl
    · rw [List.getElem?_set_ne (Ne.symm e)]
      rcases List.mem_cons.mp h with h | h
      · exact absurd h e
      · exact wipe_at h
theorem wipe_same {σ σ2 : L2.St} {js vs : List Nat} (h : SameOff js (L2.wipe σ vs) σ2) (hj : ∀ j ∈ js, j ∈ vs) : L2.wipe σ2 vs = L2.wipe σ vs := by
  have hl : σ2.length = σ.length := by rw [h.1, wipe_length]
  refine List.ext_getElem? fun i => ?_
  by_cases hi : i ∈ vs
  · rw [wipe_at hi, wipe_at hi]
    by_cases hlt : i < σ.length
    · rw [List.getElem?_eq_getElem hlt, List.getElem?_eq_getElem (by rw [hl]; exact hlt)]; rfl
    · rw [List.getElem?_eq_none (by omega), List.getElem?_eq_none (by omega)]
  · rw [wipe_out hi, wipe_out hi, h.2 i (fun q => hi (hj i q)), wipe_out hi]
end
section
variable {K : PySem.W.Frag} {μ μ' : List Addr} {H : Hp} {h : Hx}
mutual
theorem DR.more (e : ∀ (a : Nat) p, μ[a]? = some p → μ'[a]? = some p) : ∀ {d : D} {v : V}, DR K μ H d v → DR K μ' H d v
  | _, _, .non => .non
  | _, _, .bl b => .bl b
  | _, _, .int i => .int i
  | _, _, .str s => .str s
  | _, _, .tup s q => .tup s (DRs.more e q)
  | _, _, .fro s q => .fro s (DRs.more e q)
  | _, _, .ref q => .ref (e _ _ q)
theorem DRs.more (e : ∀ (a : Nat) p, μ[a]? = some p → μ'[a]? = some p) : ∀ {ds : List D} {vs : List V}, DRs K μ H ds vs → DRs K μ' H ds vs
  | _, _, .nil => .nil
  | _, _, .cons a b => .cons (DR.more e a) (DRs.more e b)
end
theorem OR.more (e : ∀ (a : Nat) p, μ[a]? = some p → μ'[a]? = some p) {o : MO} {p : Addr} (q : OR K μ H o p) : OR K μ' H o p := by
  cases q with
  | lst z w => exact .lst z (w.more e)
  | dic z w => exact .dic z (Paired.mapP w fun _ _ y => ⟨y.1, y.2.more e⟩)
  | loc z w => exact .loc z (Paired.mapP w fun _ _ y => ⟨y.1, y.2.more e⟩)
theorem pre_get (p : Addr) : ∀ (a : Nat) q, μ[a]? = some q → (μ ++ [p])[a]? = some q := fun a q e => by
  rw [List.getElem?_append_left (List.getElem?_eq_some_iff.mp e).1]; exact e
/-- what stands in H already is taken in -/
theorem adopt (r : HR K μ H h) {p : Addr} {m : MO} (np : p ∉ μ) (q : OR K (μ ++ [p]) H m p) : HR K (μ ++ [p]) H (h ++ [m]) := by
  refine ⟨by simp [r.len], ?_, fun a b u e1 e2 => ?_⟩
  · rw [List.nodup_append]
    refine ⟨r.nd, by simp, fun x hx y hy => ?_⟩
    simp at hy; subst hy
    intro z; subst z; exact np hx
  · by_cases ha : a < μ.length
    · rw [List.getElem?_append_left ha] at e1
      rw [List.getElem?_append_left (by rw [← r.len]; exact ha)] at e2
      exact (r.obj a b u e1 e2).more (pre_get p)
    · rw [List.getElem?_append_right (by omega)] at e1
      rw [List.getElem?_append_right (by rw [← r.len]; omega)] at e2
      have e3 : a - μ.length = 0 := by
        have := (List.getElem?_eq_some_iff.mp e1).1
        simp at this
        omega
      rw [e3] at e1
      rw [← r.len, e3] at e2
      simp at e1 e2
      subst e1; subst e2
      exact q
theorem Ext.lnew {μ0 : List Addr} {H0 : Hp} (x : Ext μ0 H0 μ H) {p : Addr} (hp : H0 p = none) : Ext μ0 H0 (μ ++ [p]) H where
  pre := x.pre.trans (List.prefix_append _ _)
  keep := x.keep
  new := fun q h1 h2 => by
    rcases List.mem_append.mp h1 with h1 | h1
    · exact x.new q h1 h2
    · simp at h1; subst h1; exact hp
theorem Ext.put {μ0 : List Addr} {H0 : Hp} (x : Ext μ0 H0 μ H) {p : Addr} (hp : H0 p = none) (o : HO) : Ext μ0 H0 μ (upd H p o) where
  pre := x.pre
  keep := fun q u n e => by rw [upd_ne (ne_of_none e hp)]; exact x.keep q u n e
  new := x.new
mutual
theorem DR.gen {H' : Hp} (ht : ∀ p xs, SqT K H p xs → SqT K H' p xs) (hf : ∀ p xs, SqF K H p xs → SqF K H' p xs) : ∀ {d : D} {v : V}, DR K μ H d v → DR K μ H' d v
  | _, _, .non => .non
  | _, _, .bl b => .bl b
  | _, _, .int i => .int i
  | _, _, .str s => .str s
  | _, _, .tup s q => .tup (ht _ _ s) (DRs.gen ht hf q)
  | _, _, .fro s q => .fro (hf _ _ s) (DRs.gen ht hf q)
  | _, _, .ref q => .ref q
theorem DRs.gen {H' : Hp} (ht : ∀ p xs, SqT K H p xs → SqT K H' p xs) (hf : ∀ p xs, SqF K H p xs → SqF K H' p xs) : ∀ {ds : List D} {vs : List V}, DRs K μ H ds vs → DRs K μ H' ds vs
  | _, _, .nil => .nil
  | _, _, .cons a b => .cons (DR.gen ht hf a) (DRs.gen ht hf b)
end
theorem sqT_put {p : Addr} {o : HO} {vs : List V} (hv : H p = some (.lst vs)) : ∀ q xs, SqT K H q xs → SqT K (upd H p o) q xs := fun q xs s => by
  rcases s with (s | ⟨ob, s⟩) | s
  · exact .inl (.inl (by rw [upd_ne (ne_of s hv (by intro z; cases z))]; exact s))
  · exact .inl (.inr ⟨ob, by rw [upd_ne (ne_of s hv (by intro z; cases z))]; exact s⟩)
  · exact .inr s
theorem sqF_put {p : Addr} {o : HO} {vs : List V} (hv : H p = some (.lst vs)) : ∀ q xs, SqF K H q xs → SqF K (upd H p o) q xs := fun q xs s => by
  rcases s with ⟨ob, s⟩ | s
  · exact .inl ⟨ob, by rw [upd_ne (ne_of s hv (by intro z; cases z))]; exact s⟩
  · exact .inr s
/-- a list that is none of the plain heap's is written -/
theorem HR.aside (r : HR K μ H h) {p : Addr} {o : HO} {vs : List V} (np : p ∉ μ) (hv : H p = some (.lst vs)) : HR K μ (upd H p o) h :=
  ⟨r.len, r.nd, fun a q u e1 e2 => by
    have ne : q ≠ p := by rintro rfl; exact np (List.mem_of_getElem? e1)
    have e : ∀ w, H q = some w → upd H p o q = some w := fun w z => by rw [upd_ne ne]; exact z
    cases r.obj a q u e1 e2 with
    | lst z w => exact .lst (e _ z) (w.gen (sqT_put hv) (sqF_put hv))
    | dic z w => exact .dic (e _ z) (Paired.mapP w fun _ _ y => ⟨y.1, y.2.gen (sqT_put hv) (sqF_put hv)⟩)
    | loc z w => exact .loc (e _ z) (Paired.mapP w fun _ _ y => ⟨y.1, y.2.gen (sqT_put hv) (sqF_put hv)⟩)⟩
end
section
variable {G : Cfg} {C : Call} {S : SS} {X : Cx} {W : WX}
theorem lc_noex {turn : D → Hx → Rs (Option D)} {src : Src} {x : Exc} {h' : Hx} : ∀ (xs acc : List D) (h : Hx), lcLoop turn src xs acc h ≠ .ex x h'
  | [], acc, h => by
    simp only [lcLoop]
    split <;> intro e <;> cases e
  | y :: ys, acc, h => by
    simp only [lcLoop]
    split
    · split
      · split
        · exact lc_noex ys _ _
        · (intro e; cases e)
      · exact lc_noex ys _ _
      · (intro e; cases e)
    · (intro e; cases e)
def gLc (X : Cx) (scope : Scope) (tg : Expr) : TG := fun v σ H Q => ∀ s0 H0 Ca cl fp, wG (X.blk s0 H0 scope (compEnvC scope cl Ca X.env) fp) tg v σ H Q
def tsLc (X : Cx) (scope : Scope) (ifs : List Expr) : TT := fun σ H Q => ∀ s0 H0 Ca cl fp, wTs (X.blk s0 H0 scope (compEnvC scope cl Ca X.env) fp) ifs σ H Q
def eLc (X : Cx) (scope : Scope) (elt : Expr) : TE := fun σ H Q => ∀ s0 H0 Ca cl fp, wE (X.blk s0 H0 scope (compEnvC scope cl Ca X.env) fp) elt σ H Q
/-- a comprehension's own reading -/
theorem tlc_ok (c : CtxOk G C S X W) {elt tg iter : Expr} {ifs : List Expr} {scope : Scope} {own js : List Nat} {fi : Sx → Hx → Rs (List D × Src)} {fg : D → Sx → Hx → SR} {ft : Sx → Hx → Rs Bool} {fe : Sx → Hx → Rs D}
    (hblk : blkC S.N S.sc scope (ownOf S own) = true) (hown : (ownOf S own).map (·.2) = own) (hi : SI X W tg iter fi) (hset : noSet iter = true) (hjs : ∀ j ∈ js, j ∈ own)
    (hg : ∀ X', CtxOk G C (relSS S scope) X' (fun _ _ _ _ => False) → X'.K = X.K → SG X' (fun _ _ _ _ => False) tg js fg) (ht : ∀ X', CtxOk G C (relSS S scope) X' (fun _ _ _ _ => False) → X'.K = X.K → STs X' (fun _ _ _ _ => False) ifs ft)
    (he : ∀ X', CtxOk G C (relSS S scope) X' (fun _ _ _ _ => False) → X'.K = X.K → SE X' (fun _ _ _ _ => False) elt fe) :
    ∀ s h σ μ H Q, SRl X.K μ H s σ → HR X.K μ H h → Fit X.K ((fi s h).bind fun w h1 =>
      (lcLoop (fun x h2 => match fg x (wipeD s own) h2 with
        | .nx s3 h3 => (ft s3 h3).bind fun k h4 => if k then (fe s3 h4).bind fun y h5 => .ok (some y) h5 else .ok none h4
        | _ => .no) w.2 w.1 [] h1).bind fun acc h2 => new (.lst acc) h2) μ H (QV X.K Q) (WE W σ) → tLc (wI X tg iter) (gLc X scope tg) (tsLc X scope ifs) (eLc X scope elt) own σ H Q := by
  intro s h σ μ H Q hs hr hf
  let B : Shared → Hp → Addr → List (Str × Addr) → List Addr → Cx := fun s H Ca cl fp => X.blk s H scope (compEnvC scope cl Ca X.env) fp
  have cb : ∀ s H Ca cl fp, CtxOk G C (relSS S scope) (B s H Ca cl fp) (fun _ _ _ _ => False) := fun s H Ca cl fp => c.blk s H scope Ca cl fp
  show wI X tg iter σ H _
  refine hi s h σ μ H _ hs hr (Fit.imp (Fit.bind hf) fun w μ1 h1 H1 _ x1 r1 z J wr => ?_)
  intro Da hD
  have hs1 := hs.mono hr x1
  -- the loop comes to its end
  generalize hturn : (fun (x : D) (h2 : Hx) => (match fg x (wipeD s own) h2 with
        | .nx s3 h3 => (ft s3 h3).bind fun k h4 => if k then (fe s3 h4).bind fun y h5 => .ok (some y) h5 else .ok none h4
        | _ => .no : Rs (Option D))) = turn at z
  cases el : lcLoop turn w.2 w.1 [] h1 with
  | no => rw [el] at z; exact z.elim
  | ex x h2 => exact absurd el (lc_noex _ _ _)
  | ok accF hF =>
    rw [el] at z
    have zF : ∀ μ' H', Ext μ1 H1 μ' H' → HR X.K μ' H' (hF ++ [.lst accF]) → ∀ v, DR X.K μ' H' (.ref hF.length) v → Q v H' := z
    refine ⟨fun i m H => ∃ μ2 h2 acc vacc, Ext μ1 H1 μ2 H ∧ HR X.K μ2 H h2 ∧ Da ∉ μ2 ∧ H Da = some (.lst vacc) ∧ DRs X.K μ2 H acc vacc ∧ i ≤ w.1.length ∧ m = w.1.length - i ∧ lcLoop turn w.2 (w.1.drop i) acc h2 = .ok accF hF, ⟨_, μ1, h1, [], [], ?_, ?_, ?_, upd_same, .nil, Nat.zero_le _, rfl, el⟩, ?_⟩
    · exact Ext.side r1 hD
    · exact r1.side hD
    · exact r1.notin hD
    · rintro i m H2 ⟨μ2, h2, acc, vacc, x2, r2, nD, eD, wD, hi, rfl, el2⟩
      by_cases hlt : i < w.1.length
      · right
        rw [List.drop_eq_getElem_cons hlt] at el2
        simp only [lcLoop] at el2
        split at el2
        · rename_i hsrc
          obtain ⟨hgo, hy⟩ := wr.go i _ μ2 H2 h2 x2 r2 hsrc (List.getElem?_eq_getElem hlt)
          refine ⟨hgo, fun H' => ∃ μ3 h3 acc vacc, Ext μ1 H1 μ3 H' ∧ HR X.K μ3 H' h3 ∧ Da ∉ μ3 ∧ H' Da = some (.lst vacc) ∧ DRs X.K μ3 H' acc vacc ∧ lcLoop turn w.2 (w.1.drop (i + 1)) acc h3 = .ok accF hF, ?_, fun x H3 hyl => ?_⟩
          · rintro H' ⟨μ3, h3, acc3, vacc3, a1, a2, a3, a4, a5, a6⟩
            exact ⟨w.1.length - (i + 1), by omega, μ3, h3, acc3, vacc3, a1, a2, a3, a4, a5, by omega, rfl, a6⟩
          · obtain ⟨x3, r3, q3, keep3⟩ := hy x H3 hyl
            have sW := ((hs1.mono r1 x2).mono r2 x3).wipe own
            have eD3 := keep3 _ _ eD
            have wD3 := wD.mono r2 x3
            intro s0 H0 Ca cl fp
            refine hg _ (cb s0 H0 Ca cl fp) rfl _ (wipeD s own) h2 x _ μ2 H3 _ sW r3 q3 ?_
            have et : turn w.1[i] h2 = (match fg w.1[i] (wipeD s own) h2 with
              | .nx s3 h3 => (ft s3 h3).bind fun k h4 => if k then (fe s3 h4).bind fun y h5 => .ok (some y) h5 else .ok none h4
              | _ => .no : Rs (Option D)) := by rw [← hturn]
            rw [et] at el2
            cases eg : fg w.1[i] (wipeD s own) h2 with
            | nx s3 h3 =>
              rw [eg] at el2
              dsimp only at el2
              intro μ4 H4 σ4 x4 r4 hs4 so4
              refine ⟨wipe_same so4 hjs, ?_⟩
              intro s0' H0' Ca' cl' fp'
              refine ht _ (cb s0' H0' Ca' cl' fp') rfl s3 h3 σ4 μ4 H4 _ hs4 r4 ?_
              cases ek : ft s3 h3 with
              | no => rw [ek] at el2; cases el2
              | ex x5 h5 => rw [ek] at el2; cases el2
              | ok k h4 =>
                rw [ek] at el2
                intro μ5 H5 x5 r5
                have xx := (x3.trans x4).trans x5
                have nD5 : Da ∉ μ5 := fun q => by
                  have z1 := xx.new Da q nD
                  rw [eD] at z1; cases z1
                have eD5 := xx.keep Da _ nD eD
                have wD5 := (wD3.mono r3 x4).mono r4 x5
                cases k with
                | false =>
                  rw [if_neg (by simp)]
                  exact ⟨μ5, h4, acc, vacc, x2.trans xx, r5, nD5, eD5, wD5, el2⟩
                | true =>
                  rw [if_pos rfl]
                  intro s0'' H0'' Ca'' cl'' fp''
                  refine he _ (cb s0'' H0'' Ca'' cl'' fp'') rfl s3 h4 σ4 μ5 H5 _ (hs4.mono r4 x5) r5 ?_
                  simp only [Rs.bind, if_true] at el2
                  cases ey : fe s3 h4 with
                  | no => rw [ey] at el2; cases el2
                  | ex x6 h6 => rw [ey] at el2; cases el2
                  | ok y h6 =>
                    rw [ey] at el2
                    intro μ6 H6 x6 r6 vy qy
                    have xy := xx.trans x6
                    have nD6 : Da ∉ μ6 := fun q => by
                      have z1 := xy.new Da q nD
                      rw [eD] at z1; cases z1
                    have eD6 := xy.keep Da _ nD eD
                    have wD6 := wD5.mono r5 x6
                    simp only [] at el2
                    split at el2
                    · rename_i hlen
                      refine ⟨vacc, eD6, by rw [← wD6.length]; exact hlen, μ6, h6, acc ++ [y], vacc ++ [vy], (x2.trans xy).put hD _, r6.aside nD6 eD6, nD6, upd_same, (wD6.append (.one qy)).gen (sqT_put eD6) (sqF_put eD6), el2⟩
                    · cases el2
            | _ => rw [eg] at el2; cases el2
        · cases el2
      · left
        have hi' : i = w.1.length := by omega
        rw [hi', List.drop_length] at el2
        simp only [lcLoop] at el2
        split at el2
        · rename_i hsrc
          cases el2
          refine ⟨wr.stop i μ2 H2 _ x2 r2 hsrc (by omega), zF (μ2 ++ [Da]) H2 (x2.lnew hD) (adopt r2 nD (.lst eD (wD.more (pre_get Da)))) _ (.ref ?_)⟩
          rw [← r2.len]; simp
        · cases el2
/-- [e for tg in iter if ..] -/
theorem se_lc (c : CtxOk G C S X W) {elt tg iter : Expr} {ifs : List Expr} {scope : Scope} {own js : List Nat} {fi : Sx → Hx → Rs (List D × Src)} {fg : D → Sx → Hx → SR} {ft : Sx → Hx → Rs Bool} {fe : Sx → Hx → Rs D} {pos : Pos}
    (hblk : blkC S.N S.sc scope (ownOf S own) = true) (hown : (ownOf S own).map (·.2) = own) (hi : SI X W tg iter fi) (hset : noSet iter = true) (hjs : ∀ j ∈ js, j ∈ own)
    (hg : ∀ X', CtxOk G C (relSS S scope) X' (fun _ _ _ _ => False) → X'.K = X.K → SG X' (fun _ _ _ _ => False) tg js fg) (ht : ∀ X', CtxOk G C (relSS S scope) X' (fun _ _ _ _ => False) → X'.K = X.K → STs X' (fun _ _ _ _ => False) ifs ft)
    (he : ∀ X', CtxOk G C (relSS S scope) X' (fun _ _ _ _ => False) → X'.K = X.K → SE X' (fun _ _ _ _ => False) elt fe) :
    SE X W (.ListComp elt [⟨tg, iter, ifs, 0⟩] scope pos) (fun s h => (fi s h).bind fun w h1 =>
      (lcLoop (fun x h2 => match fg x (wipeD s own) h2 with
        | .nx s3 h3 => (ft s3 h3).bind fun k h4 => if k then (fe s3 h4).bind fun y h5 => .ok (some y) h5 else .ok none h4
        | _ => .no) w.2 w.1 [] h1).bind fun acc h2 => new (.lst acc) h2) := by
  intro s h σ μ H Q hs hr hf
  have ok : BlkOk X.N X.env.scope scope (ownOf S own) := by rw [c.nN, c.sc]; exact blkOk_by hblk
  have P := pe_lc (pos := pos) (wi := wI X tg iter) (g := gLc X scope tg) (tt := tsLc X scope ifs) (te := eLc X scope elt) c.calm c.nd pi_w ok (fun s0 H0 Ca cl fp => ⟨fun pins s _ _ _ u _ I r h => h s0 H0 Ca cl fp pins s u I r⟩)
    (fun s0 H0 Ca cl fp => ⟨fun pins s _ _ _ I h => h s0 H0 Ca cl fp pins s I⟩) (fun s0 H0 Ca cl fp => ⟨fun pins s _ _ _ I h => h s0 H0 Ca cl fp pins s I⟩) (no_setI hset)
  rw [hown] at P
  exact of_pe P (tlc_ok c hblk hown hi hset hjs hg ht he s h σ μ H Q hs hr hf)
/-- name = [..] on one line -/
theorem ps_lc (c : CtxOk G C S X W) {elt tg iter : Expr} {ifs : List Expr} {scope : Scope} {own js : List Nat} {fi : Sx → Hx → Rs (List D × Src)} {fg : D → Sx → Hx → SR} {ft : Sx → Hx → Rs Bool} {fe : Sx → Hx → Rs D} {pos : Pos}
    (hblk : blkC S.N S.sc scope (ownOf S own) = true) (hown : (ownOf S own).map (·.2) = own) (hi : SI X W tg iter fi) (hset : noSet iter = true) (hjs : ∀ j ∈ js, j ∈ own)
    (hg : ∀ X', CtxOk G C (relSS S scope) X' (fun _ _ _ _ => False) → X'.K = X.K → SG X' (fun _ _ _ _ => False) tg js fg) (ht : ∀ X', CtxOk G C (relSS S scope) X' (fun _ _ _ _ => False) → X'.K = X.K → STs X' (fun _ _ _ _ => False) ifs ft)
    (he : ∀ X', CtxOk G C (relSS S scope) X' (fun _ _ _ _ => False) → X'.K = X.K → SE X' (fun _ _ _ _ => False) elt fe) {i : Nat} {y : Str} {py spos : Pos} (hy : X.N[i]? = some y) (hyl : X.env.scope.names.lookup y = some .local) (hk : X.env.scope.kind = .function) (hl : (py.line == pos.line) = true)
    (hn : (scope.names.any fun (n, k) => n == y && (k == .local || k == .cell)) = false) : PS X (.Assign [.Name y py] (.ListComp elt [⟨tg, iter, ifs, 0⟩] scope pos) spos) (tAsg (tLc (wI X tg iter) (gLc X scope tg) (tsLc X scope ifs) (eLc X scope elt) own) (gName i)) := by
  have ok : BlkOk X.N X.env.scope scope (ownOf S own) := by rw [c.nN, c.sc]; exact blkOk_by hblk
  have P := ps_setLc (pos := pos) (spos := spos) (py := py) (wi := wI X tg iter) (g := gLc X scope tg) (tt := tsLc X scope ifs) (te := eLc X scope elt) c.calm c.nd hy hyl (sw_true hk hyl hl hn) pi_w ok (fun s0 H0 Ca cl fp => ⟨fun pins s _ _ _ u _ I r h => h s0 H0 Ca cl fp pins s u I r⟩)
    (fun s0 H0 Ca cl fp => ⟨fun pins s _ _ _ I h => h s0 H0 Ca cl fp pins s I⟩) (fun s0 H0 Ca cl fp => ⟨fun pins s _ _ _ I h => h s0 H0 Ca cl fp pins s I⟩) (no_setI hset)
  rw [hown] at P
  exact P
end
end Ev
end

section
set_option autoImplicit false
set_option linter.all false
set_option Elab.async false
set_option maxRecDepth 100000
set_option maxHeartbeats 4000000
/-! Ev12: displays of dicts; all forms together. -/
namespace Ev
open PySem PySem.Spec PyProof.Rows L2
abbrev DDs (K : PySem.W.Frag) (μ : List Addr) (H : Hp) : List (D × D) → List (V × V) → Prop := Paired fun p q => DR K μ H p.1 q.1 ∧ DR K μ H p.2 q.2
section
variable {G : Cfg} {C : Call} {S : SS} {X : Cx} {W : WX}
structure SPs (X : Cx) (W : WX) (ks : List (Option Expr)) (vs : List Expr) (f : Sx → Hx → Rs (List (D × D))) : Prop where
  ok : ∃ trs, (∀ pos, PPs X pos ks vs trs) ∧ ks.all (·.isSome) = true ∧ ks.length = vs.length ∧ trs.length = ks.length ∧ ∀ s h σ μ H (Q : List (V × V) → Hp → Prop), SRl X.K μ H s σ → HR X.K μ H h →
    Fit X.K (f s h) μ H (fun kvs μ' _ H' => ∀ ps, DDs X.K μ' H' kvs ps → Q ps H') (WE W σ) → tPairs trs σ H Q
theorem sps_nil : SPs X W [] [] (fun _ h => .ok [] h) := ⟨[], fun _ => pps_nil, rfl, rfl, rfl, fun s h σ μ H Q hs hr hf => hf.now hr _ .nil⟩
theorem sps_cons {k v : Expr} {ks : List (Option Expr)} {vs : List Expr} {fk fv : Sx → Hx → Rs D} {fs : Sx → Hx → Rs (List (D × D))} (hk : SE X W k fk) (hv : SE X W v fv) (hp : SPs X W ks vs fs) :
    SPs X W (some k :: ks) (v :: vs) (fun s h => (fk s h).bind fun x h1 => (fv s h1).bind fun y h2 => (fs s h2).bind fun r h3 => .ok ((x, y) :: r) h3) := by
  obtain ⟨trs, a, b, c1, d, q⟩ := hp.ok
  refine ⟨(wE X k, wE X v) :: trs, fun pos => pps_cons pe_w pe_w (a pos), by simpa using b, by simp [c1], by simp [d], fun s h σ μ H Q hs hr hf => ?_⟩
  refine hk s h σ μ H _ hs hr (Fit.imp (Fit.bind hf) fun d1 μ1 h1 H1 _ e1 r1 z v1 q1 => ?_)
  refine hv s h1 σ μ1 H1 _ (hs.mono hr e1) r1 (Fit.imp (Fit.bind z) fun d2 μ2 h2 H2 _ e2 r2 z2 v2 q2 => ?_)
  refine q s h2 σ μ2 H2 _ ((hs.mono hr e1).mono r1 e2) r2 (Fit.imp (Fit.bind z2) fun kvs μ3 h3 H3 _ e3 r3 z3 ps q3 => ?_)
  exact z3.now r3 _ (.cons ⟨(q1.mono r1 e2).mono r2 e3, q2.mono r2 e3⟩ q3)
theorem se_dct0 {pos : Pos} : SE X W (.Dict [] [] pos) (fun _ h => new (.dic false []) h) := fun s h σ μ H Q hs hr hf =>
  of_pe pe_dnewK fun p hp => qv_new hr hf hp (.dic upd_same .nil)
theorem keys_of {K : PySem.W.Frag} {μ : List Addr} {H : Hp} : ∀ {kvs : List (D × D)} {ps : List (V × V)}, DDs K μ H kvs ps → kvs.all (fun kv => isKey kv.1) = true → ∃ ks : List (Key × V), ps = ks.map (fun kv => (kV kv.1, kv.2)) ∧ KVR K μ H kvs ks
  | _, _, .nil, _ => ⟨[], rfl, .nil⟩
  | (x, y) :: _, (u, w) :: _, .cons a b, h => by
    simp only [List.all_cons, Bool.and_eq_true] at h
    obtain ⟨k, kr, e⟩ := key_R a.1 h.1
    obtain ⟨ks, e2, t⟩ := keys_of b h.2
    refine ⟨(k, w) :: ks, ?_, .cons ⟨kr, a.2⟩ t⟩
    have : u = kV k := e
    rw [List.map_cons, e2, this]
theorem mergeR {K : PySem.W.Frag} {μ : List Addr} {H : Hp} : ∀ {more : List (D × D)} {ms : List (Key × V)} {kvs : List (D × D)} {ks : List (Key × V)}, KVR K μ H more ms → KVR K μ H kvs ks →
    KVR K μ H (more.foldl (fun a kv => dPut a kv.1 kv.2) kvs) (mergeK ks ms)
  | _, _, _, _, .nil, t => t
  | _, _, _, _, .cons a b, t => by
    simp only [List.foldl_cons, mergeK]
    exact mergeR b (putR a.1 a.2 t)
theorem KVR.more {K : PySem.W.Frag} {μ μ' : List Addr} {H : Hp} (e : ∀ (a : Nat) p, μ[a]? = some p → μ'[a]? = some p) {a : List (D × D)} {b : List (Key × V)} (t : KVR K μ H a b) : KVR K μ' H a b := Paired.mapP t fun _ _ y => ⟨y.1, y.2.more e⟩
theorem sqT_putD {K : PySem.W.Frag} {H : Hp} {p : Addr} {o : HO} {vs : List (Key × V)} (hv : H p = some (.dK vs)) : ∀ q xs, SqT K H q xs → SqT K (upd H p o) q xs := fun q xs s => by
  rcases s with (s | ⟨ob, s⟩) | s
  · exact .inl (.inl (by rw [upd_ne (ne_of s hv (by intro z; cases z))]; exact s))
  · exact .inl (.inr ⟨ob, by rw [upd_ne (ne_of s hv (by intro z; cases z))]; exact s⟩)
  · exact .inr s
theorem sqF_putD {K : PySem.W.Frag} {H : Hp} {p : Addr} {o : HO} {vs : List (Key × V)} (hv : H p = some (.dK vs)) : ∀ q xs, SqF K H q xs → SqF K (upd H p o) q xs := fun q xs s => by
  rcases s with ⟨ob, s⟩ | s
  · exact .inl ⟨ob, by rw [upd_ne (ne_of s hv (by intro z; cases z))]; exact s⟩
  · exact .inr s
theorem HR.asideD {K : PySem.W.Frag} {μ : List Addr} {H : Hp} {h : Hx} (r : HR K μ H h) {p : Addr} {o : HO} {vs : List (Key × V)} (np : p ∉ μ) (hv : H p = some (.dK vs)) : HR K μ (upd H p o) h :=
  ⟨r.len, r.nd, fun a q u e1 e2 => by
    have ne : q ≠ p := by rintro rfl; exact np (List.mem_of_getElem? e1)
    have e : ∀ w, H q = some w → upd H p o q = some w := fun w z => by rw [upd_ne ne]; exact z
    cases r.obj a q u e1 e2 with
    | lst z w => exact .lst (e _ z) (w.gen (sqT_putD hv) (sqF_putD hv))
    | dic z w => exact .dic (e _ z) (Paired.mapP w fun _ _ y => ⟨y.1, y.2.gen (sqT_putD hv) (sqF_putD hv)⟩)
    | loc z w => exact .loc (e _ z) (Paired.mapP w fun _ _ y => ⟨y.1, y.2.gen (sqT_putD hv) (sqF_putD hv)⟩)⟩
theorem se_dct {k : Option Expr} {ks : List (Option Expr)} {vs : List Expr} {fs : Sx → Hx → Rs (List (D × D))} (hp : SPs X W (k :: ks) vs fs) (h15 : (k :: ks).length ≤ 15) {pos : Pos} : SE X W (.Dict (k :: ks) vs pos)
    (fun s h => (fs s h).bind fun kvs h1 => if kvs.all (fun kv => isKey kv.1) && decide (kvs.length ≤ 15) then new (.dic false (kvs.foldl (fun a kv => dPut a kv.1 kv.2) [])) h1 else .no) := by
  obtain ⟨trs, a, b, c1, d, q⟩ := hp.ok
  intro s h σ μ H Q hs hr hf
  refine of_pe (pe_disp (a pos) b c1 (by simp) h15) fun p hp' => ?_
  have x0 := Ext.side (o := .dK []) hr hp'
  have r0 := hr.side (o := .dK []) hp'
  refine q s h σ μ _ _ (hs.mono hr x0) r0 ?_
  dsimp only at hf
  cases e : fs s h with
  | no => rw [e] at hf; exact hf.elim
  | ex x h1 =>
    rw [e] at hf
    exact fun μ1 H1 cc dd x1 r1 y => hf μ1 H1 cc dd (x0.trans x1) r1 y
  | ok kvs h1 =>
    rw [e] at hf
    intro μ1 H1 x1 r1 ps w
    have np : p ∉ μ1 := fun m => by
      have := x1.new p m (hr.notin hp')
      rw [upd_same] at this; cases this
    have ep : H1 p = some (.dK []) := x1.keep p _ (hr.notin hp') upd_same
    refine ⟨ep, ?_⟩
    simp only [Rs.bind] at hf
    split at hf
    · rename_i hk
      simp only [Bool.and_eq_true, decide_eq_true_eq] at hk
      obtain ⟨kk, e2, t⟩ := keys_of w hk.1
      refine ⟨kk, e2, by rw [← KVR.length t]; exact hk.2, ?_⟩
      have t2 : KVR X.K (μ1 ++ [p]) (upd H1 p (.dK (mergeK [] kk))) (kvs.foldl (fun a kv => dPut a kv.1 kv.2) []) (mergeK [] kk) := by
        have t3 : KVR X.K μ1 (upd H1 p (.dK (mergeK [] kk))) kvs kk := Paired.mapP t fun _ _ y => ⟨y.1, y.2.gen (sqT_putD ep) (sqF_putD ep)⟩
        exact mergeR (KVR.more (pre_get p) t3) .nil
      refine hf (μ1 ++ [p]) _ ?_ (adopt (r1.asideD np ep) np (.dic upd_same t2)) _ (.ref ?_)
      · exact ((x0.trans x1).put hp' _).lnew hp'
      · rw [← r1.len]; simp
    · exact hf.elim
end
end Ev
end

section
set_option autoImplicit false
set_option linter.all false
set_option Elab.async false
set_option maxRecDepth 100000
set_option maxHeartbeats 8000000
/-! Ev13: a text that is let by the checker means what its term says. -/
namespace Ev
open PySem PySem.Spec PyProof.Rows L2
def isBoolE : Expr → Bool
  | .BoolOp _ _ _ => true
  | _ => false
section
variable (G : Cfg) (C : Call)
def M1 (S : SS) (t : T) (e : Expr) : Prop := chkE G S t e = true → ∀ X W, CtxOk G C S X W → SE X W e (evE C t) ∧ ST X W e (evT C t) ∧ (isBoolE e = true → SW X W e (evT C t))
def M2 (S : SS) (ts : Ts) (es : List Expr) : Prop := chkTs G S ts es = true → ∀ X W, CtxOk G C S X W → STs X W es (evTs C ts)
def M3 (S : SS) (t : Tg) (e : Expr) : Prop := chkG G S t e = true → ∀ X W, CtxOk G C S X W → SG X W e (slotsG t) (evG C t)
def M4 (S : SS) (ts : Tgs) (es : List Expr) : Prop := chkGs G S ts es = true → (∀ X W, CtxOk G C S X W → SGs X W es (slotsGs ts) (evGs C ts)) ∧ es.all noStar = true ∧ ts.len = es.length
def M5 (S : SS) (t : It) (e : Expr) : Prop := chkI G S t e = true → ∀ X W, CtxOk G C S X W → ∀ tg, SI X W tg e (evI C t)
def M6 (S : SS) (t : To) (e : Option Expr) : Prop := chkO G S t e = true → ∀ X W, CtxOk G C S X W → SO X W e (evO C t)
def M7 (S : SS) (t : Tps) (ks : List (Option Expr)) (vs : List Expr) : Prop := chkPs G S t ks vs = true → ∀ X W, CtxOk G C S X W → SPs X W ks vs (evPs C t)
def M8 (S : SS) (ts : Ts) (es : List Expr) : Prop := chkEs G S ts es = true → (∀ X W, CtxOk G C S X W → SA X W es (evEs C ts)) ∧ es.all noStar = true ∧ ∀ s h ds h', evEs C ts s h = .ok ds h' → ds.length = es.length
end
section
variable {G : Cfg} {C : Call} {S : SS} {X : Cx} {W : WX}
/-- an expression tested by its truth -/
theorem m1_tru {t : T} {e : Expr} (h : SE X W e (evE C t)) (b : byTruth e = true) (q : evT C t = fun s h => (evE C t s h).bind fun x h1 => Rs.of (truth h1 x) h1) (nb : isBoolE e = false) :
    SE X W e (evE C t) ∧ ST X W e (evT C t) ∧ (isBoolE e = true → SW X W e (evT C t)) :=
  ⟨h, by rw [q]; exact st_tru h b, fun z => by rw [nb] at z; cases z⟩
theorem se_of {e : Expr} {t : T} {f : Sx → Hx → Rs D} (h : SE X W e f) (q : evE C t = f) : SE X W e (evE C t) := by rw [q]; exact h
theorem st_of {e : Expr} {t : T} {f : Sx → Hx → Rs Bool} (h : ST X W e f) (q : evT C t = f) : ST X W e (evT C t) := by rw [q]; exact h
theorem sw_of {e : Expr} {t : T} {f : Sx → Hx → Rs Bool} (h : SW X W e f) (q : evT C t = f) : SW X W e (evT C t) := by rw [q]; exact h
theorem sts_nil : STs X W [] (fun _ h => .ok true h) := fun s h σ μ H Q hs hr hf => of_pts pts_nil (hf.now hr)
theorem sts_one {e : Expr} {f : Sx → Hx → Rs Bool} (ha : ST X W e f) : STs X W [e] (fun s h => (f s h).bind fun k h1 => if k then .ok true h1 else .ok false h1) := by
  intro s h σ μ H Q hs hr hf
  refine of_pts (pts_one pt_w) (ha s h σ μ H _ hs hr (Fit.imp (Fit.bind hf) fun k μ1 h1 H1 _ e1 r1 z => ?_))
  cases k with
  | true => exact z.now r1
  | false => exact z.now r1
theorem dr_non (K : PySem.W.Frag) (μ : List Addr) (H : Hp) : DR K μ H .non .non := .non
end
theorem sndAll (G : Cfg) (C : Call) : (∀ S t e, M1 G C S t e) ∧ (∀ S t e, M2 G C S t e) ∧ (∀ S t e, M3 G C S t e) ∧ (∀ S t e, M4 G C S t e) ∧ (∀ S t e, M5 G C S t e) ∧ (∀ S t e, M6 G C S t e) ∧ (∀ S t k v, M7 G C S t k v) ∧ (∀ S t e, M8 G C S t e) := by
  apply chkE.mutual_induct (M1 G C) (M2 G C) (M3 G C) (M4 G C) (M5 G C) (M6 G C) (M7 G C) (M8 G C)
  · intro S k pos h X W c
    exact m1_tru (se_of (se_c pe_non (dr_non _)) (by funext s h; simp only [evE] <;> rfl)) rfl (by funext s h; simp only [evT]) rfl
  · intro S b b' k pos h X W c
    simp only [chkE, chkEs, chkTs, chkPs, chkO, chkG, chkGs, chkI, Bool.and_eq_true, decide_eq_true_eq, beq_iff_eq] at h; subst h
    exact m1_tru (se_of (se_c pe_bl fun _ _ => .bl b) (by funext s h; simp only [evE] <;> rfl)) rfl (by funext s h; simp only [evT]) rfl
  · intro S i j k pos h X W c
    simp only [chkE, chkEs, chkTs, chkPs, chkO, chkG, chkGs, chkI, Bool.and_eq_true, decide_eq_true_eq, beq_iff_eq] at h; subst h
    exact m1_tru (se_of (se_c pe_int fun _ _ => .int i) (by funext s h; simp only [evE] <;> rfl)) rfl (by funext s h; simp only [evT]) rfl
  · intro S s x k pos h X W c
    simp only [chkE, chkEs, chkTs, chkPs, chkO, chkG, chkGs, chkI, Bool.and_eq_true, decide_eq_true_eq, beq_iff_eq] at h; subst h
    exact m1_tru (se_of (se_c pe_str fun _ _ => .str s) (by funext s h; simp only [evE] <;> rfl)) rfl (by funext s h; simp only [evT]) rfl
  · intro S d x pos h X W c
    simp only [chkE, chkEs, chkTs, chkPs, chkO, chkG, chkGs, chkI, Bool.and_eq_true, decide_eq_true_eq, beq_iff_eq] at h
    exact m1_tru (se_of (se_cst c h.1 h.2) (by funext s h; simp only [evE] <;> rfl)) rfl (by funext s h; simp only [evT]) rfl
  · intro S i x pos h X W c
    simp only [chkE, chkEs, chkTs, chkPs, chkO, chkG, chkGs, chkI, Bool.and_eq_true, decide_eq_true_eq, beq_iff_eq] at h
    exact m1_tru (se_of (se_var c h) (by funext s h; simp only [evE] <;> rfl)) rfl (by funext s h; simp only [evT]) rfl
  · intro S o a b l op r pos ia ib h X W c
    simp only [chkE, chkEs, chkTs, chkPs, chkO, chkG, chkGs, chkI, Bool.and_eq_true, decide_eq_true_eq, beq_iff_eq] at h; obtain ⟨⟨rfl, h1⟩, h2⟩ := h
    exact m1_tru (se_of (se_bin o (ia h1 X W c).1 (ib h2 X W c).1) (by funext s h; simp only [evE] <;> rfl)) rfl (by funext s h; simp only [evT]) rfl
  · intro S a x pos ia h X W c
    simp only [chkE, chkEs, chkTs, chkPs, chkO, chkG, chkGs, chkI, Bool.and_eq_true, decide_eq_true_eq, beq_iff_eq] at h
    exact m1_tru (se_of (se_neg (ia h X W c).1) (by funext s h; simp only [evE] <;> rfl)) rfl (by funext s h; simp only [evT]) rfl
  · intro S a x pos ia h X W c
    simp only [chkE, chkEs, chkTs, chkPs, chkO, chkG, chkGs, chkI, Bool.and_eq_true, decide_eq_true_eq, beq_iff_eq] at h
    exact ⟨se_of (se_not (ia h X W c).1) (by funext s h; simp only [evE] <;> rfl), st_of (st_not (ia h X W c).2.1) (by funext s h; simp only [evT]), fun z => by cases z⟩
  · intro S o a b l op r pos ia ib h X W c
    simp only [chkE, chkEs, chkTs, chkPs, chkO, chkG, chkGs, chkI, Bool.and_eq_true, decide_eq_true_eq, beq_iff_eq] at h; obtain ⟨⟨⟨rfl, h1⟩, h2⟩, h3⟩ := h
    exact ⟨se_of (se_cmp c o (ia h1 X W c).1 (ib h2 X W c).1 h3) (by funext s h; simp only [evE] <;> rfl), st_of (st_cmp c o (ia h1 X W c).1 (ib h2 X W c).1 h3) (by funext s h; simp only [evT, evE]), fun z => by cases z⟩
  · intro S a l k pos pos1 ia h X W c
    simp only [chkE, chkEs, chkTs, chkPs, chkO, chkG, chkGs, chkI, Bool.and_eq_true, decide_eq_true_eq, beq_iff_eq] at h
    exact ⟨se_of (se_isN (ia h X W c).1) (by funext s h; simp only [evE] <;> rfl), st_of (st_isN (ia h X W c).1) (by funext s h; simp only [evT, evE]), fun z => by cases z⟩
  · intro S a l k pos pos1 ia h X W c
    simp only [chkE, chkEs, chkTs, chkPs, chkO, chkG, chkGs, chkI, Bool.and_eq_true, decide_eq_true_eq, beq_iff_eq] at h
    exact ⟨se_of (se_isnN (ia h X W c).1) (by funext s h; simp only [evE] <;> rfl), st_of (st_isnN (ia h X W c).1) (by funext s h; simp only [evT, evE]), fun z => by cases z⟩
  · intro S o p a b c' l o1 o2 r1 r2 pos ia ib ic h X W c
    simp only [chkE, chkEs, chkTs, chkPs, chkO, chkG, chkGs, chkI, Bool.and_eq_true, decide_eq_true_eq, beq_iff_eq] at h; obtain ⟨⟨⟨⟨⟨⟨rfl, rfl⟩, h1⟩, h2⟩, h3⟩, h4⟩, h5⟩ := h
    exact ⟨se_of (se_chain c o p (ia h1 X W c).1 (ib h2 X W c).1 (ic h3 X W c).1 h5) (by funext s h; simp only [evE] <;> rfl), st_of (st_chain c o p (ia h1 X W c).1 (ib h2 X W c).1 (ic h3 X W c).1 h5) (by funext s h; simp only [evT, evE]), fun z => by cases z⟩
  · intro S a b x y rest p ia ib ir h X W c
    simp only [chkE, chkEs, chkTs, chkPs, chkO, chkG, chkGs, chkI, Bool.and_eq_true, decide_eq_true_eq, beq_iff_eq] at h
    have sa := ia h.1 X W c
    cases rest with
    | nil =>
      have sb := ib h.2 X W c
      have w : SW X W (.BoolOp .And [x, y] p) (evT C (a.and_ b)) := sw_of (sw_and sa.2.1 (sw_and1 sb.2.1)) (by funext s h; simp only [evT])
      exact ⟨se_of (se_and sa.1 (se_and1 sb.1)) (by funext s h; simp only [evE] <;> rfl), w.st, fun _ => w⟩
    | cons z zs =>
      have sb := ir h.2 X W c
      have w : SW X W (.BoolOp .And (x :: y :: z :: zs) p) (evT C (a.and_ b)) := sw_of (sw_and sa.2.1 (sb.2.2 rfl)) (by funext s h; simp only [evT])
      exact ⟨se_of (se_and sa.1 sb.1) (by funext s h; simp only [evE] <;> rfl), w.st, fun _ => w⟩
  · intro S a b x y rest p ia ib ir h X W c
    simp only [chkE, chkEs, chkTs, chkPs, chkO, chkG, chkGs, chkI, Bool.and_eq_true, decide_eq_true_eq, beq_iff_eq] at h
    have sa := ia h.1 X W c
    cases rest with
    | nil =>
      have sb := ib h.2 X W c
      have w : SW X W (.BoolOp .Or [x, y] p) (evT C (a.or_ b)) := sw_of (sw_or sa.2.1 (sw_or1 sb.2.1)) (by funext s h; simp only [evT])
      exact ⟨se_of (se_or sa.1 (se_and1 sb.1)) (by funext s h; simp only [evE] <;> rfl), w.st, fun _ => w⟩
    | cons z zs =>
      have sb := ir h.2 X W c
      have w : SW X W (.BoolOp .Or (x :: y :: z :: zs) p) (evT C (a.or_ b)) := sw_of (sw_or sa.2.1 (sb.2.2 rfl)) (by funext s h; simp only [evT])
      exact ⟨se_of (se_or sa.1 sb.1) (by funext s h; simp only [evE] <;> rfl), w.st, fun _ => w⟩
  · intro S c' a b x y z pos ic ia ib h X W c
    simp only [chkE, chkEs, chkTs, chkPs, chkO, chkG, chkGs, chkI, Bool.and_eq_true, decide_eq_true_eq, beq_iff_eq] at h
    have sc := ic h.1.1 X W c
    have sa := ia h.1.2 X W c
    have sb := ib h.2 X W c
    exact ⟨se_of (se_ife sc.2.1 sa.1 sb.1) (by funext s h; simp only [evE] <;> rfl), st_of (st_ife sc.2.1 sa.2.1 sb.2.1) (by funext s h; simp only [evT]), fun z => by cases z⟩
  · intro S es xs k pos ia h X W c
    simp only [chkE, chkEs, chkTs, chkPs, chkO, chkG, chkGs, chkI, Bool.and_eq_true, decide_eq_true_eq, beq_iff_eq] at h
    exact m1_tru (se_of (se_tup ((ia h).1 X W c)) (by funext s h; simp only [evE] <;> rfl)) rfl (by funext s h; simp only [evT]) rfl
  · intro S es xs pos ia h X W c
    simp only [chkE, chkEs, chkTs, chkPs, chkO, chkG, chkGs, chkI, Bool.and_eq_true, decide_eq_true_eq, beq_iff_eq] at h
    exact m1_tru (se_of (se_lst ((ia h).1 X W c)) (by funext s h; simp only [evE] <;> rfl)) rfl (by funext s h; simp only [evT]) rfl
  · intro S ps ks vs pos ia h X W c
    simp only [chkE, chkEs, chkTs, chkPs, chkO, chkG, chkGs, chkI, Bool.and_eq_true, decide_eq_true_eq, beq_iff_eq] at h
    cases ks with
    | nil =>
      cases ps with
      | nil =>
        cases vs with
        | nil => exact m1_tru (se_of se_dct0 (by funext s h; simp [evE, evPs, Rs.bind])) rfl (by funext s h; simp only [evT]) rfl
        | cons _ _ => simp [chkPs] at h
      | cons _ _ _ => simp [chkPs] at h
    | cons k ks => exact m1_tru (se_of (se_dct (ia h.1 X W c) h.2) (by funext s h; simp only [evE] <;> rfl)) rfl (by funext s h; simp only [evT]) rfl
  · intro S a b x y pos ia ib h X W c
    simp only [chkE, chkEs, chkTs, chkPs, chkO, chkG, chkGs, chkI, Bool.and_eq_true, decide_eq_true_eq, beq_iff_eq] at h
    exact m1_tru (se_of (se_ix c (ia h.1.1 X W c).1 (ib h.1.2 X W c).1 h.2) (by funext s h; simp only [evE] <;> rfl)) rfl (by funext s h; simp only [evT]) rfl
  · intro S a lo hi x l hh pos pos1 ia il ih h X W c
    simp only [chkE, chkEs, chkTs, chkPs, chkO, chkG, chkGs, chkI, Bool.and_eq_true, decide_eq_true_eq, beq_iff_eq] at h
    exact m1_tru (se_of (se_sl (ia h.1.1 X W c).1 (il h.1.2 X W c) (ih h.2 X W c)) (by funext s h; simp only [evE] <;> rfl)) rfl (by funext s h; simp only [evT]) rfl
  · intro S a x k p1 p2 p3 p4 ia h X W c
    simp only [chkE, chkEs, chkTs, chkPs, chkO, chkG, chkGs, chkI, Bool.and_eq_true, decide_eq_true_eq, beq_iff_eq] at h
    exact m1_tru (se_of (se_rev (ia h X W c).1) (by funext s h; simp only [evE] <;> rfl)) rfl (by funext s h; simp only [evT]) rfl
  · intro S f es x pos xs pos1 ia h X W c
    simp only [chkE, chkEs, chkTs, chkPs, chkO, chkG, chkGs, chkI, Bool.and_eq_true, decide_eq_true_eq, beq_iff_eq] at h
    obtain ⟨h1, h2⟩ := h
    obtain ⟨s1, s2, s3⟩ := ia h2
    split at h1
    · rename_i y ps hf
      simp only [Bool.and_eq_true, decide_eq_true_eq] at h1
      obtain ⟨⟨rfl, hl⟩, hg⟩ := h1
      refine m1_tru ?_ rfl (by funext s h; simp only [evT]) rfl
      cases xs with
      | nil =>
        cases es with
        | cons _ _ => simp [chkEs] at h2
        | nil =>
          have e : ps = [] := List.length_eq_zero_iff.mp hl
          subst e
          exact se_of (se_call0 c hf hg) (by funext s h; simp [evE, evEs, Rs.bind])
      | cons e es' => exact se_of (se_call c (s1 X W c) hf hl hg s2 s3) (by funext s h; simp only [evE] <;> rfl)
    · cases h1
  · intro S b es x pos e xs pos1 ia h X W c
    simp only [chkE, chkEs, chkTs, chkPs, chkO, chkG, chkGs, chkI, Bool.and_eq_true, decide_eq_true_eq, beq_iff_eq] at h
    obtain ⟨⟨⟨rfl, h1⟩, h2⟩, h3⟩ := h
    exact m1_tru (se_of (se_bf c b ((ia h3).1 X W c) h1 h2 (ia h3).2.1) (by funext s h; simp only [evE] <;> rfl)) rfl (by funext s h; simp only [evT]) rfl
  · intro S b a es o m ap xs cp ia ie h X W c
    simp only [chkE, chkEs, chkTs, chkPs, chkO, chkG, chkGs, chkI, Bool.and_eq_true, decide_eq_true_eq, beq_iff_eq] at h
    obtain ⟨⟨⟨⟨⟨rfl, h1⟩, h2⟩, h3⟩, h4⟩, h5⟩ := h
    refine m1_tru ?_ rfl (by funext s h; simp only [evT]) rfl
    cases xs with
    | nil =>
      cases es with
      | cons _ _ => simp [chkEs] at h5
      | nil => exact se_of (se_bm0 c b (ia h1 X W c).1 h2 (by rw [h3]; exact beq_self_eq_true _)) (by funext s h; simp [evE, evEs, Rs.bind])
    | cons e xs => exact se_of (se_bm c b (ia h1 X W c).1 ((ie h5).1 X W c) h2 (by rw [h3]; exact beq_self_eq_true _) h4 (ie h5).2.1) (by funext s h; simp only [evE] <;> rfl)
  · intro S a cs x pos e c' pos1 ia h X W c
    simp only [chkE, chkEs, chkTs, chkPs, chkO, chkG, chkGs, chkI, Bool.and_eq_true, decide_eq_true_eq, beq_iff_eq] at h
    obtain ⟨⟨⟨⟨⟨rfl, h1⟩, h2⟩, h3⟩, h4⟩, h5⟩ := h
    refine m1_tru ?_ rfl (by funext s h; simp only [evT]) rfl
    split at h5
    · exact se_of (se_isi1 c (ia h3 X W c).1 h1 h2 h4 h5) (by funext s h; simp only [evE] <;> rfl)
    · simp only [Bool.and_eq_true, decide_eq_true_eq] at h5
      exact se_of (se_isiT c (ia h3 X W c).1 h1 h2 h4 h5.1 h5.2) (by funext s h; simp only [evE] <;> rfl)
    · cases h5
  · intro S own tg it ifs e elt tg' iter ifs' scope pos ii ig it' ie h X W c
    simp only [chkE, chkEs, chkTs, chkPs, chkO, chkG, chkGs, chkI, Bool.and_eq_true, decide_eq_true_eq, beq_iff_eq] at h
    obtain ⟨⟨⟨⟨⟨⟨⟨h1, h2⟩, h3⟩, h4⟩, h5⟩, h6⟩, h7⟩, h8⟩ := h
    exact m1_tru (se_of (se_lc c h1 h2 (ii h3 X W c _) h4 (fun j hj => by simpa using List.all_eq_true.mp h6 j hj) (fun X' c' _ => ig h5 X' _ c') (fun X' c' _ => it' h7 X' _ c') (fun X' c' _ => (ie h8 X' _ c').1)) (by funext s h; simp only [evE] <;> rfl)) rfl (by funext s h; simp only [evT]) rfl
  · intros
    intro h
    simp_all [chkE]
  · intro S h X W c
    have e : evTs C .nil = fun _ h => .ok true h := by funext s h; simp only [evTs]
    rw [e]
    exact sts_nil
  · intro S t e ia h X W c
    simp only [chkTs] at h
    have e : evTs C (.cons t .nil) = fun s h => (evT C t s h).bind fun k h1 => if k then .ok true h1 else .ok false h1 := by funext s h; simp only [evTs]
    rw [e]
    exact sts_one (ia h X W c).2.1
  · intros
    intro h
    simp_all [chkTs]
  · intro S h
    exact ⟨fun X W c => by
      have e : evEs C .nil = fun _ h => .ok [] h := by funext s h; simp only [evEs]
      rw [e]; exact sa_nil, rfl, fun s h ds h' e => by simp only [evEs] at e; cases e; rfl⟩
  · intro S t ts e es ia ib h
    simp only [chkEs, Bool.and_eq_true] at h
    obtain ⟨b1, b2, b3⟩ := ib h.2
    refine ⟨fun X W c => ?_, by simp [h.1.2, b2], fun s hp ds h' q => ?_⟩
    · have e : evEs C (.cons t ts) = fun s h => (evE C t s h).bind fun x h1 => (evEs C ts s h1).bind fun xs h2 => .ok (x :: xs) h2 := by funext s h; simp only [evEs]
      rw [e]
      exact sa_cons (ia h.1.1 X W c).1 (b1 X W c) h.1.2
    · simp only [evEs] at q
      cases e1 : evE C t s hp with
      | ok x h1 =>
        rw [e1] at q
        simp only [Rs.bind] at q
        cases e2 : evEs C ts s h1 with
        | ok xs h2 =>
          rw [e2] at q
          cases q
          simp [b3 _ _ _ _ e2]
        | ex _ _ => rw [e2] at q; cases q
        | no => rw [e2] at q; cases q
      | ex _ _ => rw [e1] at q; cases q
      | no => rw [e1] at q; cases q
  · intros
    intro h
    simp_all [chkEs]
  · intro S h X W c
    have e : evPs C .nil = fun _ h => .ok [] h := by funext s h; simp only [evPs]
    rw [e]; exact sps_nil
  · intro S k v ps x ks y vs ia ib ic h X W c
    simp only [chkPs, Bool.and_eq_true] at h
    have e : evPs C (.cons k v ps) = fun s h => (evE C k s h).bind fun x h1 => (evE C v s h1).bind fun y h2 => (evPs C ps s h2).bind fun r h3 => .ok ((x, y) :: r) h3 := by funext s h; simp only [evPs]
    rw [e]
    exact sps_cons (ia h.1.1 X W c).1 (ib h.1.2 X W c).1 (ic h.2 X W c)
  · intros
    intro h
    simp_all [chkPs]
  · intro S h X W c
    have e : evO C .none = fun _ h => .ok none h := by funext s h; simp only [evO]
    rw [e]; exact so_none
  · intro S t e ia h X W c
    simp only [chkO] at h
    have e : evO C (.some t) = fun s h => (evE C t s h).bind fun x h1 => match x with
      | .int i => .ok (some i) h1
      | _ => .no := by funext s h; simp only [evO] <;> rfl
    rw [e]; exact so_some (ia h X W c).1
  · intros
    intro h
    simp_all [chkO]
  · intro S i x pos h X W c
    simp only [chkG, Bool.and_eq_true, decide_eq_true_eq] at h
    have e : evG C (.nm i) = fun d s h => .nx (s.set i (some d)) h := by funext d s h; simp only [evG]
    rw [e]; exact sg_nm c h.1.1 h.1.2 h.2
  · intro S a b x y pos ia ib h X W c
    simp only [chkG, Bool.and_eq_true] at h
    have e : evG C (.ix a b) = fun d s h => (evE C a s h).run s fun x h1 => (evE C b s h1).run s fun y h2 => match setIx x y d h2 with
      | some h3 => .nx s h3
      | none => .no := by funext d s h; simp only [evG] <;> rfl
    rw [e]; exact sg_ix c (ia h.1.1 X W c).1 (ib h.1.2 X W c).1 h.2
  · intro S ts xs k pos ia h X W c
    simp only [chkG] at h
    obtain ⟨a1, a2, a3⟩ := ia h
    have e : evG C (.tup ts) = fun d s h => match d with
      | .tup xs => if xs.length = ts.len then evGs C ts xs s h else .no
      | _ => .no := by
      funext d s h
      cases d <;> simp only [evG]
    rw [e]; exact sg_tup c (a1 X W c) a2 a3
  · intros
    intro h
    simp_all [chkG]
  · intro S h
    refine ⟨fun X W c => ?_, rfl, rfl⟩
    · have e : evGs C .nil = fun ds s h => match ds with
        | [] => .nx s h
        | _ => .no := by
        funext ds s h
        cases ds <;> simp only [evGs]
      rw [e]; exact sgs_nil
  · intro S t ts e es ia ib h
    simp only [chkGs, Bool.and_eq_true] at h
    obtain ⟨b1, b2, b3⟩ := ib h.2
    refine ⟨fun X W c => ?_, by simp [h.1.2, b2], by simp [Tgs.len, b3]⟩
    · have e : evGs C (.cons t ts) = fun ds s h => match ds with
        | x :: xs => (evG C t x s h).seq fun s1 h1 => evGs C ts xs s1 h1
        | _ => .no := by
        funext ds s h
        cases ds <;> simp only [evGs]
      rw [e]; exact sgs_cons (ia h.1.1 X W c) (b1 X W c) h.1.2
  · intros
    intro h
    simp_all [chkGs]
  · intro S a e ia h X W c tg
    simp only [chkI] at h
    have e' : evI C (.seq a) = fun s h => (evE C a s h).bind fun x h1 => Rs.of (walkOf h1 x) h1 := by funext s h; simp only [evI]
    rw [e']; exact si_seq (ia h X W c).1
  · intro S a x pos e pos1 ia h X W c tg
    simp only [chkI, Bool.and_eq_true, decide_eq_true_eq] at h
    obtain ⟨⟨⟨⟨rfl, h1⟩, h2⟩, h3⟩, h4⟩ := h
    have e' : evI C (.rng1 a) = fun s h => (evE C a s h).bind fun x h1 => match x with
      | .int i => if rngOk i then .ok (rngD 0 i.toNat, .none) h1 else .no
      | _ => .no := by funext s h; simp only [evI] <;> rfl
    rw [e']; exact si_rng1 c (ia h3 X W c).1 h1 h2 h4
  · intro S a b x pos e f pos1 ia ib h X W c tg
    simp only [chkI, Bool.and_eq_true, decide_eq_true_eq] at h
    obtain ⟨⟨⟨⟨⟨⟨rfl, h1⟩, h2⟩, h3⟩, h4⟩, h5⟩, h6⟩ := h
    have e' : evI C (.rng2 a b) = fun s h => (evE C a s h).bind fun x h1 => (evE C b s h1).bind fun y h2 => match x, y with
      | .int i, .int j => if rngOk i && rngOk j then .ok (rngD i (j - i).toNat, .none) h2 else .no
      | _, _ => .no := by funext s h; simp only [evI] <;> rfl
    rw [e']; exact si_rng2 c (ia h3 X W c).1 (ib h4 X W c).1 h1 h2 h5 h6
  · intros
    intro h
    simp_all [chkI]
end Ev
end

section
set_option autoImplicit false
/-! Ev14: statements, defs, calls: the plain reading. -/
namespace Ev
mutual
inductive S1 where
  | expr (e : T)
  | asg (tg : Tg) (e : T)
  | par (js : List Nat) (es : Ts)
  | aug (i : Nat) (o : Bop) (e : T)
  | ret (e : T)
  | retN
  | iff (c : T) (a b : Sl)
  | whl (c : T) (a : Sl)
  | for_ (tg : Tg) (it : It) (a : Sl)
  | pass | brk | cont
inductive Sl where
  | nil | cons (s : S1) (r : Sl)
end
def augD : Bop → Int → D → Option D
  | .add, a, .int b => some (.int (a + b))
  | .sub, a, .int b => some (.int (a - b))
  | _, _, _ => none
def whlLoop (c : Sx → Hx → Rs Bool) (b : Sx → Hx → SR) : Nat → Sx → Hx → SR
  | 0, _, _ => .no
  | n + 1, s, h => (c s h).run s fun k h1 => if k then (match b s h1 with
    | .nx s2 h2 => whlLoop c b n s2 h2
    | .ct s2 h2 => whlLoop c b n s2 h2
    | .bk s2 h2 => .nx s2 h2
    | .rt d h2 => .rt d h2
    | .ex x s2 h2 => .ex x s2 h2
    | .no => .no) else .nx s h1
def forLoop (g : D → Sx → Hx → SR) (b : Sx → Hx → SR) (src : Src) : List D → Sx → Hx → SR
  | [], s, h => if src.ok h then .nx s h else .no
  | x :: xs, s, h => if src.ok h then (match g x s h with
    | .nx s1 h1 => (match b s1 h1 with
      | .nx s2 h2 => forLoop g b src xs s2 h2
      | .ct s2 h2 => forLoop g b src xs s2 h2
      | .bk s2 h2 => .nx s2 h2
      | .rt d h2 => .rt d h2
      | .ex x s2 h2 => .ex x s2 h2
      | .no => .no)
    | .ex x s1 h1 => .ex x s1 h1
    | _ => .no) else .no
/-- a store's answer -/
def SR.st : SR → SR
  | .nx s h => .nx s h
  | .ex x s h => .ex x s h
  | _ => .no
def setAll : List Nat → List D → Sx → Option Sx
  | [], [], s => some s
  | j :: js, d :: ds, s => setAll js ds (s.set j (some d))
  | _, _, _ => none
section
variable (C : Call) (F : Nat)
mutual
def evS : S1 → Sx → Hx → SR
  | .expr e, s, h => (evE C e s h).run s fun _ h1 => .nx s h1
  | .asg tg e, s, h => (evE C e s h).run s fun d h1 => (evG C tg d s h1).st
  | .par js es, s, h => (evEs C es s h).run s fun ds h1 => match setAll js ds s with
    | some s1 => .nx s1 h1
    | none => .no
  | .aug i o e, s, h => match s[i]? with
    | some (some (.int a)) => (evE C e s h).run s fun d h1 => (match augD o a d with
      | some v => .nx (s.set i (some v)) h1
      | none => .no)
    | _ => .no
  | .ret e, s, h => (evE C e s h).run s fun d h1 => .rt d h1
  | .retN, _, h => .rt .non h
  | .iff c a b, s, h => (evT C c s h).run s fun k h1 => if k then evSl a s h1 else evSl b s h1
  | .whl c a, s, h => whlLoop (evT C c) (evSl a) F s h
  | .for_ tg it a, s, h => (evI C it s h).run s fun w h1 => forLoop (evG C tg) (evSl a) w.2 w.1 s h1
  | .pass, s, h => .nx s h
  | .brk, s, h => .bk s h
  | .cont, s, h => .ct s h
def evSl : Sl → Sx → Hx → SR
  | .nil, s, h => .nx s h
  | .cons a r, s, h => match evS a s h with
    | .nx s1 h1 => evSl r s1 h1
    | .rt d h1 => .rt d h1
    | .bk s1 h1 => .bk s1 h1
    | .ct s1 h1 => .ct s1 h1
    | .ex x s1 h1 => .ex x s1 h1
    | .no => .no
end
end
/-- a def: its parameters, its slots, its body -/
structure Fn where
  n : Nat
  m : Nat
  body : Sl
def evFn (C : Call) (F : Nat) (f : Fn) (ds : List D) (h : Hx) : Rs D := if ds.length = f.n then (match evSl C F f.body (ds.map some ++ List.replicate (f.m - f.n) none) h with
  | .nx _ h1 => .ok .non h1
  | .rt d h1 => .ok d h1
  | .ex x _ h1 => .ex x h1
  | _ => .no) else .no
def evCall (P : List Fn) (F : Nat) : Nat → Call
  | 0 => fun _ _ _ => .no
  | k + 1 => fun f ds h => match P[f]? with
    | some fn => evFn (evCall P F k) F fn ds h
    | none => .no
end Ev
end

section
set_option autoImplicit false
set_option linter.all false
set_option Elab.async false
set_option maxRecDepth 100000
set_option maxHeartbeats 8000000
/-! Ev15: statements: which text stands for which statement, and that it means so. -/
namespace Ev
open PySem PySem.Spec PyProof.Rows L2
def noComp : Expr → Bool
  | .ListComp _ _ _ _ => false
  | .SetComp _ _ _ _ => false
  | .DictComp _ _ _ _ _ => false
  | _ => true
def asgOk : Expr → Expr → Bool
  | .Tuple ts _ _, .Tuple vs _ _ => (!(ts.length == 2 || ts.length == 3) || vs.length != ts.length) || vs.all (foldedForSure 8)
  | .List _ _, .Tuple _ _ _ => false
  | _, _ => true
def locIn (sc : Scope) (x : Str) : Bool := decide (sc.names.lookup x = some .local)
section
variable (G : Cfg)
def lcAsg (S : SS) : Tg → T → Expr → Expr → Bool
  | .nm i, .lc own tg it ifs e, .Name y py, .ListComp elt [⟨tg', iter, ifs', 0⟩] scope cpos => decide (S.N[i]? = some y) && locIn S.sc y && (py.line == cpos.line) &&
    !(scope.names.any fun (n, k) => n == y && (k == .local || k == .cell)) && chkE G S (.lc own tg it ifs e) (.ListComp elt [⟨tg', iter, ifs', 0⟩] scope cpos)
  | _, _, _, _ => false
def compAsg (S : SS) : Expr → Expr → Bool
  | .Name y _, .ListComp _ _ _ _ => !locIn S.sc y
  | .Subscript _ _ _, .ListComp _ _ _ _ => true
  | .Tuple _ _ _, .ListComp _ _ _ _ => true
  | _, v => noComp v
def chkAsg (S : SS) (tg : Tg) (e : T) (t v : Expr) : Bool := lcAsg G S tg e t v || (chkG G S tg t && chkE G S e v && noStar t && compAsg S t v && asgOk t v)
mutual
def chkS (S : SS) : S1 → Stmt → Bool
  | .expr e, .Expr v _ => chkE G S e v && noComp v
  | .asg tg e, .Assign [t] v _ => chkAsg G S tg e t v
  | .par [i, j] es, .Assign [.Tuple [.Name x px, .Name y py] _ _] (.Tuple [a, b] _ _) _ => decide (S.N[i]? = some x) && decide (S.N[j]? = some y) && decide (i ≠ j) && locIn S.sc x && locIn S.sc y && (px.line == py.line) && !(x == y) &&
    !([a, b].all (foldedForSure 8)) && !([a, b].all (constantsAlone 8)) && chkEs G S es [a, b]
  | .par [i, j, l] es, .Assign [.Tuple [.Name x px, .Name y py, .Name z pz] _ _] (.Tuple [a, b, c] _ _) _ => decide (S.N[i]? = some x) && decide (S.N[j]? = some y) && decide (S.N[l]? = some z) && decide (i ≠ j) && decide (i ≠ l) && decide (j ≠ l) &&
    locIn S.sc x && locIn S.sc y && locIn S.sc z && (px.line == py.line) && (px.line == pz.line) && !(x == y) && !(x == z) && !(y == z) &&
    !([a, b, c].all (foldedForSure 8)) && !([a, b, c].all (constantsAlone 8)) && chkEs G S es [a, b, c]
  | .aug i o e, .AugAssign (.Name x _) op v _ => decide (S.N[i]? = some x) && storeIn S.own x && storeIn S.sc x && decide (op = astB o) && (match o with
    | .add => true
    | .sub => true
    | _ => false) && chkE G S e v
  | .ret e, .Return (some v) _ => chkE G S e v
  | .retN, .Return none _ => true
  | .iff c a b, .If t x y _ => chkE G S c t && chkSl S a x && chkSl S b y
  | .whl c a, .While t x [] _ => chkE G S c t && chkSl S a x
  | .for_ tg it a, .For t iter x [] _ => chkG G S tg t && chkI G S it iter && noSet iter && chkSl S a x
  | .pass, .Pass _ => true
  | .brk, .Break _ => true
  | .cont, .Continue _ => true
  | _, _ => false
def chkSl (S : SS) : Sl → List Stmt → Bool
  | .nil, [] => true
  | .cons a r, st :: sts => chkS S a st && chkSl S r sts
  | _, _ => false
end
end

section
variable (X : Cx)
def wS15 (st : Stmt) : TS := fun D σ H => ∀ pins s, Inv X pins σ H s → wpAny (model X.prog X.w) X.A (exec st X.env) (SP X pins D) X.xe s
def wSs (st : List Stmt) : TS := fun D σ H => ∀ pins s, Inv X pins σ H s → wpAny (model X.prog X.w) X.A (execs st X.env) (SP X pins D) X.xe s
end
def FitS (K : PySem.W.Frag) (r : SR) (μ : List Addr) (H : Hp) (D : Ends) (W : WX) : Prop := match r with
  | .nx s' h' => ∀ μ' H' σ', Ext μ H μ' H' → HR K μ' H' h' → SRl K μ' H' s' σ' → D.nx σ' H'
  | .rt d h' => ∀ μ' H' v, Ext μ H μ' H' → HR K μ' H' h' → DR K μ' H' d v → D.rt v H'
  | .bk s' h' => ∀ μ' H' σ', Ext μ H μ' H' → HR K μ' H' h' → SRl K μ' H' s' σ' → D.bk σ' H'
  | .ct s' h' => ∀ μ' H' σ', Ext μ H μ' H' → HR K μ' H' h' → SRl K μ' H' s' σ' → D.ct σ' H'
  | .ex x s' h' => ∀ μ' H' σ' c dd, Ext μ H μ' H' → HR K μ' H' h' → SRl K μ' H' s' σ' → XR μ' H' x c dd → W c dd σ' H'
  | .no => False
theorem FitS.mono {K : PySem.W.Frag} {r : SR} {μ μ' : List Addr} {H H' : Hp} {D : Ends} {W : WX} (x : Ext μ H μ' H') (f : FitS K r μ H D W) : FitS K r μ' H' D W := by
  cases r with
  | nx s h => exact fun m Hm t a b c => f m Hm t (x.trans a) b c
  | rt d h => exact fun m Hm t a b c => f m Hm t (x.trans a) b c
  | bk s h => exact fun m Hm t a b c => f m Hm t (x.trans a) b c
  | ct s h => exact fun m Hm t a b c => f m Hm t (x.trans a) b c
  | ex y s h => exact fun m Hm t cc dd a b c d => f m Hm t cc dd (x.trans a) b c d
  | no => exact f
/-- a statement's first expression -/
theorem FitS.run {α : Type} {K : PySem.W.Frag} {m : Rs α} {f : α → Hx → SR} {μ : List Addr} {H : Hp} {s : Sx} {h : Hx} {σ : L2.St} {D : Ends} {W : WX} (hs : SRl K μ H s σ) (hr : HR K μ H h) (z : FitS K (m.run s f) μ H D W) :
    Fit K m μ H (fun a μ1 h1 H1 => FitS K (f a h1) μ1 H1 D W) (WE W σ) := by
  cases m with
  | ok a h1 => exact fun μ1 H1 x r => FitS.mono x z
  | ex x h1 => exact fun μ1 H1 cc dd x1 r1 q => z μ1 H1 σ cc dd x1 r1 (hs.mono hr x1) q
  | no => exact z
/-- what more a context of statements has -/
structure CtxS (G : Cfg) (C : Call) (S : SS) (X : Cx) (W : WX) : Prop extends CtxOk G C S X W where
  pass : PassesOwn (model X.prog X.w) X.A X.env X.xe
  knd : X.env.scope.kind = .function
section
variable {X : Cx}
theorem ps_w {st : Stmt} : PS X st (wS15 X st) := ⟨fun pins s _ _ _ I h => h pins s I⟩
theorem pss_w {st : List Stmt} : PSs X st (wSs X st) := ⟨fun pins s _ _ _ I h => h pins s I⟩
theorem of_ps {st : Stmt} {t : TS} (p : PS X st t) {D : Ends} {σ : L2.St} {H : Hp} (h : t D σ H) : wS15 X st D σ H := fun pins s I => p.run pins s σ H D I h
theorem of_pss {st : List Stmt} {t : TS} (p : PSs X st t) {D : Ends} {σ : L2.St} {H : Hp} (h : t D σ H) : wSs X st D σ H := fun pins s I => p.run pins s σ H D I h
end
def SSt (X : Cx) (W : WX) (st : Stmt) (f : Sx → Hx → SR) : Prop := ∀ s h σ μ H D, SRl X.K μ H s σ → HR X.K μ H h → FitS X.K (f s h) μ H D W → wS15 X st D σ H
def SSs (X : Cx) (W : WX) (st : List Stmt) (f : Sx → Hx → SR) : Prop := ∀ s h σ μ H D, SRl X.K μ H s σ → HR X.K μ H h → FitS X.K (f s h) μ H D W → wSs X st D σ H
section
variable {G : Cfg} {C : Call} {S : SS} {X : Cx} {W : WX}
theorem no_sw {e : Expr} {tg : Option Expr} {l : Nat} {env : Env} (h : noComp e = true) : swapsWith e tg l env = pure false := by
  cases e <;> first | rfl | (simp [noComp] at h)
theorem ss_expr {e : Expr} {f : Sx → Hx → Rs D} (ha : SE X W e f) (hn : noComp e = true) {pos : Pos} : SSt X W (.Expr e pos) (fun s h => (f s h).run s fun _ h1 => .nx s h1) := by
  intro s h σ μ H D hs hr hf
  refine of_ps (ps_expr pe_w (no_sw hn)) ?_
  exact ha s h σ μ H _ hs hr (Fit.imp (FitS.run hs hr hf) fun d μ1 h1 H1 _ x1 r1 z v q => z μ1 H1 σ .refl r1 (hs.mono hr x1))
theorem ss_ret {e : Expr} {f : Sx → Hx → Rs D} (ha : SE X W e f) {pos : Pos} : SSt X W (.Return (some e) pos) (fun s h => (f s h).run s fun d h1 => .rt d h1) := by
  intro s h σ μ H D hs hr hf
  refine of_ps (ps_ret pe_w) ?_
  exact ha s h σ μ H _ hs hr (Fit.imp (FitS.run hs hr hf) fun d μ1 h1 H1 _ x1 r1 z v q => z μ1 H1 v .refl r1 q)
theorem ss_retN {pos : Pos} : SSt X W (.Return none pos) (fun _ h => .rt .non h) := fun s h σ μ H D hs hr hf => of_ps ps_retN (hf μ H .non .refl hr .non)
theorem ss_pass {pos : Pos} : SSt X W (.Pass pos) (fun s h => .nx s h) := fun s h σ μ H D hs hr hf => of_ps ps_pass (hf μ H σ .refl hr hs)
theorem ss_brk {pos : Pos} : SSt X W (.Break pos) (fun s h => .bk s h) := fun s h σ μ H D hs hr hf => of_ps ps_break (hf μ H σ .refl hr hs)
theorem ss_cont {pos : Pos} : SSt X W (.Continue pos) (fun s h => .ct s h) := fun s h σ μ H D hs hr hf => of_ps ps_continue (hf μ H σ .refl hr hs)
theorem ss_if {c : Expr} {a b : List Stmt} {fc : Sx → Hx → Rs Bool} {fa fb : Sx → Hx → SR} (hc : ST X W c fc) (ha : SSs X W a fa) (hb : SSs X W b fb) {pos : Pos} : SSt X W (.If c a b pos) (fun s h => (fc s h).run s fun k h1 => if k then fa s h1 else fb s h1) := by
  intro s h σ μ H D hs hr hf
  refine of_ps (ps_if pt_w pss_w pss_w) ?_
  refine hc s h σ μ H _ hs hr (Fit.imp (FitS.run hs hr hf) fun k μ1 h1 H1 _ x1 r1 z => ?_)
  cases k with
  | true => exact ha s h1 σ μ1 H1 D (hs.mono hr x1) r1 z
  | false => exact hb s h1 σ μ1 H1 D (hs.mono hr x1) r1 z
theorem no_starA {e : Expr} {env : Env} (h : noStar e = true) : (assignEach [e] env).map (·.2) = [assign e env] := by rw [no_starG h]; rfl
theorem asg_ok {t v : Expr} {env : Env} (h : asgOk t v = true) : swappedStores [t] v env = pure none := by
  unfold asgOk at h
  split at h
  · rename_i ts k1 p1 vs k2 p2
    unfold swappedStores
    simp only [Bool.or_eq_true, pure_bind] at h ⊢
    rcases h with h | h
    · rw [if_pos (.inl h)]
    · split
      · rfl
      · split
        · rfl
        · split
          · rfl
          · first | rfl | rw [if_pos h]
  · cases h
  · rename_i h1 h2
    unfold swappedStores
    split
    · rename_i ts vs hm
      split at hm
      · rename_i hq
        exact (h1 _ _ _ _ _ _ (List.cons.inj hq).1 rfl).elim
      · rename_i hq
        exact (h2 _ _ _ _ _ (List.cons.inj hq).1 rfl).elim
      · cases hm
    · rfl
theorem comp_asg (c : CtxOk G C S X W) {t e : Expr} {l : Nat} (h : compAsg S t e = true) : swapsWithSole [t] e l X.env = pure false := by
  unfold compAsg at h
  split at h
  · rename_i y p _ _ _ _
    have hk : (X.env.kindOf y == some NameKind.local) = false := by
      have e : X.env.kindOf y = S.sc.names.lookup y := by rw [← c.sc]; rfl
      rw [e]
      simpa [locIn] using h
    unfold swapsWithSole swapsWith
    simp [hk]
  · rfl
  · rfl
  · exact no_sw h
theorem ss_asg (c : CtxOk G C S X W) {t e : Expr} {js : List Nat} {fe : Sx → Hx → Rs D} {fg : D → Sx → Hx → SR} (he : SE X W e fe) (hg : SG X W t js fg) (h1 : noStar t = true) (h2 : compAsg S t e = true) (h3 : asgOk t e = true) {pos : Pos} :
    SSt X W (.Assign [t] e pos) (fun s h => (fe s h).run s fun d h1 => (fg d s h1).st) := by
  intro s h σ μ H D hs hr hf
  refine of_ps (ps_asg pe_w pg_w (comp_asg c h2) (asg_ok h3) (no_starA h1)) ?_
  refine he s h σ μ H _ hs hr (Fit.imp (FitS.run hs hr hf) fun d μ1 h1 H1 _ x1 r1 z v q => ?_)
  refine hg d s h1 v σ μ1 H1 _ (hs.mono hr x1) r1 q ?_
  cases e : fg d s h1 with
  | nx s2 h2 => rw [e] at z; exact fun μ2 H2 σ2 x2 r2 hs2 _ => z μ2 H2 σ2 x2 r2 hs2
  | ex x s2 h2 => rw [e] at z; exact fun μ2 H2 σ2 cc dd x2 r2 hs2 _ q => z μ2 H2 σ2 cc dd x2 r2 hs2 q
  | _ => rw [e] at z; exact z.elim
theorem ss_seq0 : SSs X W [] (fun s h => .nx s h) := fun s h σ μ H D hs hr hf => of_pss pss_nil (hf μ H σ .refl hr hs)
theorem ss_seq {a : Stmt} {r : List Stmt} {fa fr : Sx → Hx → SR} (ha : SSt X W a fa) (hb : SSs X W r fr) : SSs X W (a :: r) (fun s h => match fa s h with
    | .nx s1 h1 => fr s1 h1
    | .rt d h1 => .rt d h1
    | .bk s1 h1 => .bk s1 h1
    | .ct s1 h1 => .ct s1 h1
    | .ex x s1 h1 => .ex x s1 h1
    | .no => .no) := by
  intro s h σ μ H D hs hr hf
  refine of_pss (pss_cons ps_w pss_w) ?_
  refine ha s h σ μ H _ hs hr ?_
  dsimp only at hf
  cases e : fa s h with
  | nx s1 h1 =>
    rw [e] at hf
    exact fun μ1 H1 σ1 x1 r1 hs1 => hb s1 h1 σ1 μ1 H1 D hs1 r1 (FitS.mono x1 hf)
  | rt d h1 => rw [e] at hf; exact hf
  | bk s1 h1 => rw [e] at hf; exact hf
  | ct s1 h1 => rw [e] at hf; exact hf
  | ex x s1 h1 => rw [e] at hf; exact hf
  | no => rw [e] at hf; exact hf

theorem ss_aug (c : CtxOk G C S X W) {i : Nat} {x : Str} {e : Expr} {o : Bop} {fe : Sx → Hx → Rs D} (he : SE X W e fe) (hi : S.N[i]? = some x) (ho : storeIn S.own x = true) (hx : storeIn S.sc x = true) (hop : (match o with
    | .add => true
    | .sub => true
    | _ => false) = true) {p pos : Pos} : SSt X W (.AugAssign (.Name x p) (astB o) e pos) (fun s h => match s[i]? with
    | some (some (.int a)) => (fe s h).run s fun d h1 => (match augD o a d with
      | some v => .nx (s.set i (some v)) h1
      | none => .no)
    | _ => .no) := by
  intro s h σ μ H D hs hr hf
  dsimp only at hf
  split at hf
  · rename_i a ha
    obtain ⟨v, ev, q0⟩ := hs.2 i _ ha
    cases q0
    have key : ∀ (op : Operator) (f : Int → Int → Int), PIp X op (ipI f) → (∀ d v, augD o a d = some v → ∃ b, d = .int b ∧ v = .int (f a b)) → wS15 X (.AugAssign (.Name x p) op e pos) D σ H := fun op f hp hk => by
      refine of_ps (ps_aug (i := i) c.nd (by rw [c.nN]; exact hi) (c.loc hx) pe_w hp (c.sto x ho)) ⟨_, ev, ?_⟩
      refine he s h σ μ H _ hs hr (Fit.imp (FitS.run hs hr hf) fun d μ1 h1 H1 _ x1 r1 z v q => ?_)
      split at z
      · rename_i w ew
        obtain ⟨b, rfl, rfl⟩ := hk d w ew
        cases q
        exact ⟨a, b, rfl, rfl, z μ1 H1 _ .refl r1 ((hs.mono hr x1).set i (.int _))⟩
      · exact z.elim
    cases o <;> first | (cases hop) | skip
    · refine key _ _ ip_add fun d v e => ?_
      cases d <;> simp [augD] at e
      exact ⟨_, rfl, e.symm⟩
    · refine key _ _ ip_sub fun d v e => ?_
      cases d <;> simp [augD] at e
      exact ⟨_, rfl, e.symm⟩
  · exact hf.elim
theorem ss_whl (c : CtxS G C S X W) {t : Expr} {b : List Stmt} {ft : Sx → Hx → Rs Bool} {fb : Sx → Hx → SR} (ht : ST X W t ft) (hb : SSs X W b fb) (F : Nat) {pos : Pos} : SSt X W (.While t b [] pos) (whlLoop ft fb F) := by
  intro s h σ μ H D hs hr hf
  refine of_ps (ps_while c.pass pt_w pss_w) ?_
  refine ⟨fun n σ H => ∃ s h μ, SRl X.K μ H s σ ∧ HR X.K μ H h ∧ FitS X.K (whlLoop ft fb n s h) μ H D W, ⟨F, s, h, μ, hs, hr, hf⟩, ?_⟩
  rintro n σ1 H1 ⟨s1, h1, μ1, hs1, hr1, hf1⟩
  cases n with
  | zero => exact hf1.elim
  | succ n =>
    simp only [whlLoop] at hf1
    refine ht s1 h1 σ1 μ1 H1 _ hs1 hr1 (Fit.imp (FitS.run hs1 hr1 hf1) fun k μ2 h2 H2 _ x2 r2 z => ?_)
    have hs2 := hs1.mono hr1 x2
    cases k with
    | false => exact z μ2 H2 σ1 .refl r2 hs2
    | true =>
      simp only [if_true] at z ⊢
      refine ⟨fun σ H => ∃ s h μ, SRl X.K μ H s σ ∧ HR X.K μ H h ∧ FitS X.K (whlLoop ft fb n s h) μ H D W, fun σ' H' w => ⟨n, Nat.lt_succ_self n, w⟩, ?_⟩
      refine hb s1 h2 σ1 μ2 H2 _ hs2 r2 ?_
      cases e : fb s1 h2 with
      | nx s3 h3 => rw [e] at z; exact fun μ3 H3 σ3 x3 r3 hs3 => ⟨s3, h3, μ3, hs3, r3, FitS.mono x3 z⟩
      | ct s3 h3 => rw [e] at z; exact fun μ3 H3 σ3 x3 r3 hs3 => ⟨s3, h3, μ3, hs3, r3, FitS.mono x3 z⟩
      | bk s3 h3 => rw [e] at z; exact z
      | rt d h3 => rw [e] at z; exact z
      | ex x s3 h3 => rw [e] at z; exact z
      | no => rw [e] at z; exact z
theorem ss_for (c : CtxS G C S X W) {t iter : Expr} {b : List Stmt} {js : List Nat} {fi : Sx → Hx → Rs (List D × Src)} {fg : D → Sx → Hx → SR} {fb : Sx → Hx → SR} (hi : SI X W t iter fi) (hg : SG X W t js fg) (hset : noSet iter = true) (hb : SSs X W b fb) {pos : Pos} :
    SSt X W (.For t iter b [] pos) (fun s h => (fi s h).run s fun w h1 => forLoop fg fb w.2 w.1 s h1) := by
  intro s h σ μ H D hs hr hf
  refine of_ps (ps_for c.pass c.calm pi_w pg_w pss_w (no_setI hset)) ?_
  show wI X t iter σ H _
  refine hi s h σ μ H _ hs hr (Fit.imp (FitS.run hs hr hf) fun w μ1 h1 H1 _ x1 r1 z J wr => ?_)
  refine ⟨fun i m σ H => ∃ s h μ, Ext μ1 H1 μ H ∧ SRl X.K μ H s σ ∧ HR X.K μ H h ∧ i ≤ w.1.length ∧ m = w.1.length - i ∧ FitS X.K (forLoop fg fb w.2 (w.1.drop i) s h) μ H D W, ⟨_, s, h1, μ1, .refl, hs.mono hr x1, r1, Nat.zero_le _, rfl, z⟩, ?_⟩
  rintro i m σ2 H2 ⟨s2, h2, μ2, x2, hs2, r2, hi, rfl, z2⟩
  by_cases hlt : i < w.1.length
  · right
    rw [List.drop_eq_getElem_cons hlt] at z2
    simp only [forLoop] at z2
    split at z2
    · rename_i hsrc
      obtain ⟨hgo, hy⟩ := wr.go i _ μ2 H2 h2 x2 r2 hsrc (List.getElem?_eq_getElem hlt)
      refine ⟨hgo, fun σ H => ∃ s h μ, Ext μ1 H1 μ H ∧ SRl X.K μ H s σ ∧ HR X.K μ H h ∧ FitS X.K (forLoop fg fb w.2 (w.1.drop (i + 1)) s h) μ H D W, ?_, fun x H3 hyl => ?_⟩
      · rintro σ' H' ⟨s', h', μ', a1, a2, a3, a4⟩
        exact ⟨w.1.length - (i + 1), by omega, s', h', μ', a1, a2, a3, by omega, rfl, a4⟩
      · obtain ⟨x3, r3, q3, _⟩ := hy x H3 hyl
        have hs3 := hs2.mono r2 x3
        refine hg _ s2 h2 x σ2 μ2 H3 _ hs3 r3 q3 ?_
        cases eg : fg w.1[i] s2 h2 with
        | nx s4 h4 =>
          rw [eg] at z2
          intro μ4 H4 σ4 x4 r4 hs4 _
          refine hb s4 h4 σ4 μ4 H4 _ hs4 r4 ?_
          have xx := x3.trans x4
          dsimp only at z2
          cases eb : fb s4 h4 with
          | nx s5 h5 => rw [eb] at z2; exact fun μ5 H5 σ5 x5 r5 hs5 => ⟨s5, h5, μ5, x2.trans (xx.trans x5), hs5, r5, FitS.mono (xx.trans x5) z2⟩
          | ct s5 h5 => rw [eb] at z2; exact fun μ5 H5 σ5 x5 r5 hs5 => ⟨s5, h5, μ5, x2.trans (xx.trans x5), hs5, r5, FitS.mono (xx.trans x5) z2⟩
          | bk s5 h5 => rw [eb] at z2; exact fun μ5 H5 σ5 x5 r5 hs5 => z2 μ5 H5 σ5 (xx.trans x5) r5 hs5
          | rt d h5 => rw [eb] at z2; exact fun μ5 H5 v x5 r5 q5 => z2 μ5 H5 v (xx.trans x5) r5 q5
          | ex y s5 h5 => rw [eb] at z2; exact fun μ5 H5 σ5 cc dd x5 r5 hs5 q => z2 μ5 H5 σ5 cc dd (xx.trans x5) r5 hs5 q
          | no => rw [eb] at z2; exact z2.elim
        | ex y s4 h4 =>
          rw [eg] at z2
          exact fun μ4 H4 σ4 cc dd x4 r4 hs4 _ q => z2 μ4 H4 σ4 cc dd (x3.trans x4) r4 hs4 q
        | _ => rw [eg] at z2; exact z2.elim
    · exact z2.elim
  · left
    have hi' : i = w.1.length := by omega
    rw [hi', List.drop_length] at z2
    simp only [forLoop] at z2
    split at z2
    · rename_i hsrc
      exact ⟨wr.stop i μ2 H2 _ x2 r2 hsrc (by omega), z2 μ2 H2 σ2 .refl r2 hs2⟩
    · exact z2.elim

def starE : Expr → Bool
  | .Starred .. => true
  | _ => false
theorem no_starE {e : Expr} (h : noStar e = true) : starE e = false := by
  cases e <;> first | rfl | (simp [noStar] at h)
theorem swap2 {x y : Str} {px py pt pt2 : Pos} {kt k2 : Nat} {a b : Expr} {env : Env} (hk : env.scope.kind = .function) (hx : env.scope.names.lookup x = some .local) (hy : env.scope.names.lookup y = some .local) (hl : (px.line == py.line) = true) (hne : (x == y) = false)
    (ha : noStar a = true) (hb : noStar b = true) (hf : [a, b].all (foldedForSure 8) = false) (hc : [a, b].all (constantsAlone 8) = false) :
    swappedStores [.Tuple [.Name x px, .Name y py] kt pt] (.Tuple [a, b] k2 pt2) env = pure (some [x, y]) := by
  have hbk : env.blockKind = .function := by unfold Env.blockKind; rw [hk]; rfl
  have kx : env.kindOf x = some .local := hx
  have ky : env.kindOf y = some .local := hy
  have hne' : ¬ x = y := by simpa using hne
  have hl' : py.line = px.line := by simpa using (beq_iff_eq.mp hl).symm
  have e1 := no_starE ha
  have e2 := no_starE hb
  unfold starE at e1 e2
  unfold swappedStores
  simp only [List.length_cons, List.length_nil, hbk]
  rw [if_neg (by decide), if_neg (by simp; exact ⟨e1, e2⟩)]
  have hne2 : (y == x) = false := by simpa using fun e : y = x => hne' e.symm
  have hd : [x, y].eraseDups.length = 2 := by simp [List.eraseDups, List.eraseDupsBy, List.eraseDupsBy.loop, hne2]
  simp [kx, ky, Expr.pos, hl', hf, hc, hd]
theorem swap3 {x y z : Str} {px py pz pt pt2 : Pos} {kt k2 : Nat} {a b c : Expr} {env : Env} (hk : env.scope.kind = .function) (hx : env.scope.names.lookup x = some .local) (hy : env.scope.names.lookup y = some .local) (hz : env.scope.names.lookup z = some .local)
    (hl : (px.line == py.line) = true) (hl2 : (px.line == pz.line) = true) (hxy : (x == y) = false) (hxz : (x == z) = false) (hyz : (y == z) = false)
    (ha : noStar a = true) (hb : noStar b = true) (hcs : noStar c = true) (hf : [a, b, c].all (foldedForSure 8) = false) (hc : [a, b, c].all (constantsAlone 8) = false) :
    swappedStores [.Tuple [.Name x px, .Name y py, .Name z pz] kt pt] (.Tuple [a, b, c] k2 pt2) env = pure (some [x, y, z]) := by
  have hbk : env.blockKind = .function := by unfold Env.blockKind; rw [hk]; rfl
  have kx : env.kindOf x = some .local := hx
  have ky : env.kindOf y = some .local := hy
  have kz : env.kindOf z = some .local := hz
  have flip : ∀ {u v : Str}, (u == v) = false → (v == u) = false := fun {u v} h => by
    have h' : ¬ u = v := by simpa using h
    simpa using fun e : v = u => h' e.symm
  have hl' : py.line = px.line := by simpa using (beq_iff_eq.mp hl).symm
  have hl2' : pz.line = px.line := by simpa using (beq_iff_eq.mp hl2).symm
  have e1 := no_starE ha
  have e2 := no_starE hb
  have e3 := no_starE hcs
  unfold starE at e1 e2 e3
  unfold swappedStores
  simp only [List.length_cons, List.length_nil, hbk]
  rw [if_neg (by decide), if_neg (by simp; exact ⟨e1, e2, e3⟩)]
  have hd : [x, y, z].eraseDups.length = 3 := by simp [List.eraseDups, List.eraseDupsBy, List.eraseDupsBy.loop, flip hxy, flip hxz, flip hyz]
  simp [kx, ky, kz, Expr.pos, hl', hl2', hf, hc, hd]
theorem loc_in (c : CtxOk G C S X W) {x : Str} (h : locIn S.sc x = true) : X.env.scope.names.lookup x = some .local := by
  rw [c.sc]; simpa [locIn] using h
theorem ss_par2 (c : CtxS G C S X W) {i j : Nat} {x y : Str} {px py pt pt2 pos : Pos} {kt k2 : Nat} {a b : Expr} {fs : Sx → Hx → Rs (List D)} (ha : SA X W [a, b] fs) (hi : S.N[i]? = some x) (hj : S.N[j]? = some y) (hij : i ≠ j) (hx : locIn S.sc x = true) (hy : locIn S.sc y = true)
    (hl : (px.line == py.line) = true) (hne : (x == y) = false) (sa : noStar a = true) (sb : noStar b = true) (hf : [a, b].all (foldedForSure 8) = false) (hc : [a, b].all (constantsAlone 8) = false) :
    SSt X W (.Assign [.Tuple [.Name x px, .Name y py] kt pt] (.Tuple [a, b] k2 pt2) pos) (fun s h => (fs s h).run s fun ds h1 => match setAll [i, j] ds s with
    | some s1 => .nx s1 h1
    | none => .no) := by
  intro s h σ μ H D hs hr hz
  have lx := loc_in c.toCtxOk hx
  have ly := loc_in c.toCtxOk hy
  refine of_ps (ps_par c.calm c.nd (by rw [c.nN]; exact hi) (by rw [c.nN]; exact hj) hij lx ly pa_w (swap2 c.knd lx ly hl hne sa sb hf hc)) ?_
  refine ha s h σ μ H _ hs hr (Fit.imp (FitS.run hs hr hz) fun ds μ1 h1 H1 _ x1 r1 z vs q => ?_)
  have hs1 := hs.mono hr x1
  match ds, vs, q with
  | [d1, d2], [v1, v2], .cons q1 (.cons q2 .nil) => exact ⟨v1, v2, rfl, z μ1 H1 _ .refl r1 ((hs1.set i q1).set j q2)⟩
  | [], _, _ => exact z.elim
  | [_], _, _ => exact z.elim
  | _ :: _ :: _ :: _, _, _ => exact z.elim
theorem ss_par3 (c : CtxS G C S X W) {i j l : Nat} {x y w : Str} {px py pz pt pt2 pos : Pos} {kt k2 : Nat} {a b e : Expr} {fs : Sx → Hx → Rs (List D)} (ha : SA X W [a, b, e] fs) (hi : S.N[i]? = some x) (hj : S.N[j]? = some y) (hk : S.N[l]? = some w) (hij : i ≠ j) (hil : i ≠ l) (hjl : j ≠ l)
    (hx : locIn S.sc x = true) (hy : locIn S.sc y = true) (hw : locIn S.sc w = true)
    (hl : (px.line == py.line) = true) (hl2 : (px.line == pz.line) = true) (hxy : (x == y) = false) (hxw : (x == w) = false) (hyw : (y == w) = false) (sa : noStar a = true) (sb : noStar b = true) (se : noStar e = true) (hf : [a, b, e].all (foldedForSure 8) = false) (hc : [a, b, e].all (constantsAlone 8) = false) :
    SSt X W (.Assign [.Tuple [.Name x px, .Name y py, .Name w pz] kt pt] (.Tuple [a, b, e] k2 pt2) pos) (fun s h => (fs s h).run s fun ds h1 => match setAll [i, j, l] ds s with
    | some s1 => .nx s1 h1
    | none => .no) := by
  intro s h σ μ H D hs hr hz
  have lx := loc_in c.toCtxOk hx
  have ly := loc_in c.toCtxOk hy
  have lw := loc_in c.toCtxOk hw
  refine of_ps (ps_par3 c.calm c.nd (by rw [c.nN]; exact hi) (by rw [c.nN]; exact hj) (by rw [c.nN]; exact hk) hij hil hjl lx ly lw pa_w (swap3 c.knd lx ly lw hl hl2 hxy hxw hyw sa sb se hf hc)) ?_
  refine ha s h σ μ H _ hs hr (Fit.imp (FitS.run hs hr hz) fun ds μ1 h1 H1 _ x1 r1 z vs q => ?_)
  have hs1 := hs.mono hr x1
  match ds, vs, q with
  | [d1, d2, d3], [v1, v2, v3], .cons q1 (.cons q2 (.cons q3 .nil)) => exact ⟨v1, v2, v3, rfl, z μ1 H1 _ .refl r1 (((hs1.set i q1).set j q2).set l q3)⟩
  | [], _, _ => exact z.elim
  | [_], _, _ => exact z.elim
  | [_, _], _, _ => exact z.elim
  | _ :: _ :: _ :: _ :: _, _, _ => exact z.elim
/-- name = [..] on one line -/
theorem ss_lc (c : CtxS G C S X W) {i : Nat} {y : Str} {py spos : Pos} {elt tg iter : Expr} {ifs : List Expr} {scope : Scope} {own js : List Nat} {fi : Sx → Hx → Rs (List D × Src)} {fg : D → Sx → Hx → SR} {ft : Sx → Hx → Rs Bool} {fe : Sx → Hx → Rs D} {pos : Pos}
    (hblk : blkC S.N S.sc scope (ownOf S own) = true) (hown : (ownOf S own).map (·.2) = own) (hi : SI X W tg iter fi) (hset : noSet iter = true) (hjs : ∀ j ∈ js, j ∈ own)
    (hg : ∀ X', CtxOk G C (relSS S scope) X' (fun _ _ _ _ => False) → X'.K = X.K → SG X' (fun _ _ _ _ => False) tg js fg) (ht : ∀ X', CtxOk G C (relSS S scope) X' (fun _ _ _ _ => False) → X'.K = X.K → STs X' (fun _ _ _ _ => False) ifs ft)
    (he : ∀ X', CtxOk G C (relSS S scope) X' (fun _ _ _ _ => False) → X'.K = X.K → SE X' (fun _ _ _ _ => False) elt fe)
    (hy : S.N[i]? = some y) (hyl : locIn S.sc y = true) (hl : (py.line == pos.line) = true) (hn : (scope.names.any fun (n, k) => n == y && (k == .local || k == .cell)) = false) :
    SSt X W (.Assign [.Name y py] (.ListComp elt [⟨tg, iter, ifs, 0⟩] scope pos) spos) (fun s h => ((fi s h).bind fun w h1 =>
      (lcLoop (fun x h2 => match fg x (wipeD s own) h2 with
        | .nx s3 h3 => (ft s3 h3).bind fun k h4 => if k then (fe s3 h4).bind fun y h5 => .ok (some y) h5 else .ok none h4
        | _ => .no) w.2 w.1 [] h1).bind fun acc h2 => new (.lst acc) h2).run s fun d h1 => .nx (s.set i (some d)) h1) := by
  intro s h σ μ H D hs hr hz
  refine of_ps (ps_lc c.toCtxOk hblk hown hi hset hjs hg ht he (by rw [c.nN]; exact hy) (loc_in c.toCtxOk hyl) c.knd hl hn) ?_
  refine tlc_ok c.toCtxOk hblk hown hi hset hjs hg ht he s h σ μ H _ hs hr (Fit.imp (FitS.run hs hr hz) fun d μ1 h1 H1 _ x1 r1 z v q => ?_)
  exact z μ1 H1 _ .refl r1 ((hs.mono hr x1).set i q)
end
/-! ### all forms together -/
section
variable (G : Cfg) (C : Call) (F : Nat)
def N1 (S : SS) (a : S1) (st : Stmt) : Prop := chkS G S a st = true → ∀ X W, CtxS G C S X W → SSt X W st (evS C F a)
def N2 (S : SS) (a : Sl) (st : List Stmt) : Prop := chkSl G S a st = true → ∀ X W, CtxS G C S X W → SSs X W st (evSl C F a)
end
theorem ss_of {X : Cx} {W : WX} {st : Stmt} {f g : Sx → Hx → SR} (h : SSt X W st f) (e : g = f) : SSt X W st g := by rw [e]; exact h
theorem sndStm (G : Cfg) (C : Call) (F : Nat) (S : SS) : (∀ a st, N1 G C F S a st) ∧ (∀ a st, N2 G C F S a st) := by
  obtain ⟨aE, aTs, aG, aGs, aI, aO, aPs, aEs⟩ := sndAll G C
  apply chkS.mutual_induct (N1 G C F S) (N2 G C F S)
  · intro e v pos h X W c
    simp only [chkS, Bool.and_eq_true] at h
    exact ss_of (ss_expr (aE S _ _ h.1 X W c.toCtxOk).1 h.2) (by funext s h; simp only [evS])
  · intro tg e t v pos h X W c
    simp only [chkS, chkAsg, Bool.or_eq_true, Bool.and_eq_true] at h
    rcases h with h | h
    · unfold lcAsg at h
      split at h
      · simp only [chkE, Bool.and_eq_true, decide_eq_true_eq, Bool.not_eq_true'] at h
        obtain ⟨⟨⟨⟨hy, hyl⟩, hl⟩, hn⟩, h⟩ := h
        obtain ⟨⟨⟨⟨⟨⟨⟨h1, h2⟩, h3⟩, h4⟩, h5⟩, h6⟩, h7⟩, h8⟩ := h
        refine ss_of (ss_lc c h1 h2 (aI S _ _ h3 X W c.toCtxOk _) h4 (fun j hj => by simpa using List.all_eq_true.mp h6 j hj) (fun X' c' _ => aG _ _ _ h5 X' _ c') (fun X' c' _ => aTs _ _ _ h7 X' _ c') (fun X' c' _ => (aE _ _ _ h8 X' _ c').1) hy hyl hl hn) ?_
        funext s h
        simp only [evS, evE, evG, SR.st]
        try rfl
      · cases h
    · obtain ⟨⟨⟨⟨h1, h2⟩, h3⟩, h4⟩, h5⟩ := h
      exact ss_of (ss_asg c.toCtxOk (aE S _ _ h2 X W c.toCtxOk).1 (aG S _ _ h1 X W c.toCtxOk) h3 h4 h5) (by funext s h; simp only [evS])
  · intro i j es x px y py k pos a b k1 pos1 pos2 h X W c
    simp only [chkS, Bool.and_eq_true, decide_eq_true_eq, Bool.not_eq_true'] at h
    obtain ⟨⟨⟨⟨⟨⟨⟨⟨⟨h1, h2⟩, h3⟩, h4⟩, h5⟩, h6⟩, h7⟩, h8⟩, h9⟩, h10⟩ := h
    obtain ⟨e1, e2, _⟩ := aEs S _ _ h10
    simp only [List.all_cons, List.all_nil, Bool.and_eq_true] at e2
    exact ss_of (ss_par2 c (e1 X W c.toCtxOk) h1 h2 h3 h4 h5 h6 h7 e2.1 e2.2.1 h8 h9) (by funext s h; simp only [evS] <;> rfl)
  · intro i j l es x px y py z pz k pos a b c' k1 pos1 pos2 h X W c
    simp only [chkS, Bool.and_eq_true, decide_eq_true_eq, Bool.not_eq_true'] at h
    obtain ⟨⟨⟨⟨⟨⟨⟨⟨⟨⟨⟨⟨⟨⟨⟨⟨h1, h2⟩, h3⟩, h4⟩, h5⟩, h6⟩, h7⟩, h8⟩, h9⟩, h10⟩, h11⟩, h12⟩, h13⟩, h14⟩, h15⟩, h16⟩, h17⟩ := h
    obtain ⟨e1, e2, _⟩ := aEs S _ _ h17
    simp only [List.all_cons, List.all_nil, Bool.and_eq_true] at e2
    exact ss_of (ss_par3 c (e1 X W c.toCtxOk) h1 h2 h3 h4 h5 h6 h7 h8 h9 h10 h11 h12 h13 h14 e2.1 e2.2.1 e2.2.2.1 h15 h16) (by funext s h; simp only [evS] <;> rfl)
  · intro i o e x pos op v pos1 h X W c
    simp only [chkS, Bool.and_eq_true, decide_eq_true_eq] at h
    obtain ⟨⟨⟨⟨⟨h1, h2⟩, h3⟩, rfl⟩, h5⟩, h6⟩ := h
    exact ss_of (ss_aug c.toCtxOk (aE S _ _ h6 X W c.toCtxOk).1 h1 h2 h3 h5) (by funext s h; simp only [evS] <;> rfl)
  · intro e v pos h X W c
    simp only [chkS] at h
    exact ss_of (ss_ret (aE S _ _ h X W c.toCtxOk).1) (by funext s h; simp only [evS])
  · intro pos h X W c
    exact ss_of ss_retN (by funext s h; simp only [evS])
  · intro c' a b t x y pos ia ib h X W c
    simp only [chkS, Bool.and_eq_true] at h
    exact ss_of (ss_if (aE S _ _ h.1.1 X W c.toCtxOk).2.1 (ia h.1.2 X W c) (ib h.2 X W c)) (by funext s h; simp only [evS])
  · intro c' a t x pos ia h X W c
    simp only [chkS, Bool.and_eq_true] at h
    exact ss_of (ss_whl c (aE S _ _ h.1 X W c.toCtxOk).2.1 (ia h.2 X W c) F) (by funext s h; simp only [evS])
  · intro tg it a t iter x pos ia h X W c
    simp only [chkS, Bool.and_eq_true] at h
    exact ss_of (ss_for c (aI S _ _ h.1.1.2 X W c.toCtxOk _) (aG S _ _ h.1.1.1 X W c.toCtxOk) h.1.2 (ia h.2 X W c)) (by funext s h; simp only [evS])
  · intro pos h X W c
    exact ss_of ss_pass (by funext s h; simp only [evS])
  · intro pos h X W c
    exact ss_of ss_brk (by funext s h; simp only [evS])
  · intro pos h X W c
    exact ss_of ss_cont (by funext s h; simp only [evS])
  · intros
    intro h
    simp_all [chkS]
  · intro h X W c
    have e : evSl C F .nil = fun s h => .nx s h := by funext s h; simp only [evSl]
    rw [e]; exact ss_seq0
  · intro a r st sts ia ib h X W c
    simp only [chkSl, Bool.and_eq_true] at h
    have e : evSl C F (.cons a r) = fun s h => match evS C F a s h with
      | .nx s1 h1 => evSl C F r s1 h1
      | .rt d h1 => .rt d h1
      | .bk s1 h1 => .bk s1 h1
      | .ct s1 h1 => .ct s1 h1
      | .ex x s1 h1 => .ex x s1 h1
      | .no => .no := by funext s h; simp only [evSl] <;> rfl
    rw [e]; exact ss_seq (ia h.1 X W c) (ib h.2 X W c)
  · intros
    intro h
    simp_all [chkSl]
end Ev
end

section
set_option autoImplicit false
set_option linter.all false
set_option Elab.async false
set_option maxRecDepth 100000
set_option maxHeartbeats 8000000
/-! Ev16: a whole text: its defs keep what their terms say; a law's end. -/
namespace Ev
open PySem PySem.Spec PyProof.Rows L2
/-- a def of the text with its plain reading -/
structure Ent where
  name : Str
  qual : Str
  args : List Arg
  body : List Stmt
  scope : Scope
  N : List Str
  fn : Fn
def Ent.ps (e : Ent) : List Str := e.args.map (·.arg)
def Ent.params (e : Ent) : Arguments := ⟨[], e.args, none, [], [], none, []⟩
def nodupB : List Str → Bool
  | [] => true
  | x :: xs => !xs.contains x && nodupB xs
theorem nodupB_ok : ∀ {xs : List Str}, nodupB xs = true → xs.Nodup
  | [], _ => .nil
  | x :: xs, h => by
    simp only [nodupB, Bool.and_eq_true, Bool.not_eq_true', List.contains_eq_mem, decide_eq_false_iff_not] at h
    exact List.nodup_cons.mpr ⟨h.1, nodupB_ok h.2⟩
def parIn (sc : Scope) (x : Str) : Bool := match sc.names.lookup x with
  | some .local => true
  | some .cell => true
  | _ => false
def Ent.good (G : Cfg) (e : Ent) : Bool := decide (e.scope.kind = .function) && !e.scope.isCoroutine && !e.scope.isGenerator && nodupB e.N && decide (e.N.take e.ps.length = e.ps) && e.ps.all (parIn e.scope) && e.scope.names.all (fun y => decide (y.2 ≠ .free)) &&
  nodupB e.ps && decide (e.fn.n = e.ps.length) && decide (e.fn.m = e.N.length) && chkSl G ⟨e.scope, e.N, e.scope⟩ e.fn.body e.body
theorem lookup_zip : ∀ {ps : List Str} {us : List Value} {x : Str}, us.length = ps.length → x ∈ ps → ((ps.zip us).lookup x).isSome = true
  | p :: ps, u :: us, x, hl, hx => by
    by_cases h : x = p
    · subst h; simp [List.lookup]
    · have e : (x == p) = false := by simpa using h
      simp only [List.zip_cons_cons, List.lookup, e]
      exact lookup_zip (by simpa using hl) (by simpa [h] using hx)
theorem zip_again : ∀ {ps : List Str} {us : List Value}, us.length = ps.length → ps.Nodup → ps.filterMap (fun n => ((ps.zip us).lookup n).map (n, ·)) = ps.zip us := by
  have key : ∀ (l : List (Str × Value)) {ps : List Str} {us : List Value}, us.length = ps.length → ps.Nodup → (∀ x ∈ ps, l.lookup x = (ps.zip us).lookup x) → ps.filterMap (fun n => (l.lookup n).map (n, ·)) = ps.zip us := by
    intro l ps
    induction ps with
    | nil => intro us _ _ _; rfl
    | cons p ps ih =>
      intro us hl hn h
      cases us with
      | nil => simp at hl
      | cons u us =>
        have e := h p (List.mem_cons_self ..)
        simp [List.lookup] at e
        rw [List.filterMap_cons, e]
        simp only [Option.map_some, List.zip_cons_cons]
        congr 1
        have hn' := List.nodup_cons.mp hn
        refine ih (by simpa using hl) hn'.2 fun x hx => ?_
        rw [h x (List.mem_cons_of_mem _ hx)]
        have : (x == p) = false := by
          have : x ≠ p := by rintro rfl; exact hn'.1 hx
          simpa using this
        simp [List.lookup, this]
  intro ps us hl hn
  exact key _ hl hn fun _ _ => rfl
theorem bind_plain {x qual : Str} {as : List Arg} {body : List Stmt} {scope : Scope} {kV doc pm : Value} {an : Option Addr} {cdv ct : Value} {us : List Value} (hl : us.length = (as.map (·.arg)).length) (hn : (as.map (·.arg)).Nodup) :
    bindArgs (PySem.W.fnOf x qual ⟨[], as, none, [], [], none, []⟩ body scope .none kV doc pm an cdv ct) ⟨us, []⟩ = pure ((as.map (·.arg)).zip us) := by
  have hmiss : ((as.map (·.arg)).filter fun n => (((as.map (·.arg)).zip us).lookup n).isNone) = [] := by
    rw [List.filter_eq_nil_iff]
    intro a ha
    have := lookup_zip hl ha
    simp [Option.isSome_iff_ne_none] at this
    simpa using this
  have hz := zip_again hl hn
  have hsq : seqItems? Value.none = pure none := rfl
  unfold bindArgs
  simp only [List.map_nil, List.nil_append, List.append_nil, PySem.W.fnOf, hsq, pure_bind, hl, List.length_map]
  simp
  have e1 : (List.take (as.length - (List.drop (0 - as.length) ([] : List Value)).length) (as.map (·.arg))) = as.map (·.arg) := by
    rw [List.drop_nil, List.length_nil, Nat.sub_zero]
    exact List.take_of_length_le (by simp)
  rw [if_neg (by rw [e1, hmiss]; decide)]
  rw [List.filterMap_map] at hz
  exact congrArg pure hz
/-! ### the facts of a text -/
mutual
def cB (K : PySem.W.Frag) : D → Value → Bool
  | .non, .none => true
  | .bl b, .bool c => b == c
  | .int i, .int j _ => decide (i = j)
  | .str s, .str x _ => decide (x = strOf s)
  | .tup ds, .ref a => (match K.lookup a with
    | some ⟨.type c, _, .seq its _, _⟩ => decide (c = "tuple") && decide (its.size ≤ sizeLine) && cBs K ds its.toList
    | _ => false)
  | .fro ds, .ref a => (match K.lookup a with
    | some ⟨.type c, none, .seq its _, _⟩ => decide (c = "list") && decide (its.size ≤ sizeLine) && cBs K ds its.toList
    | _ => false)
  | _, _ => false
def cBs (K : PySem.W.Frag) : List D → List Value → Bool
  | [], [] => true
  | d :: ds, u :: us => cB K d u && cBs K ds us
  | _, _ => false
end
mutual
theorem cB_ok {K : PySem.W.Frag} : ∀ {d : D} {u : Value}, cB K d u = true → ∃ v, RelV v u ∧ ∀ μ H, DR K μ H d v
  | .non, u, h => by
    cases u <;> simp [cB] at h
    exact ⟨.non, rfl, fun _ _ => .non⟩
  | .bl b, u, h => by
    cases u <;> simp [cB] at h
    subst h
    exact ⟨.bl b, rfl, fun _ _ => .bl b⟩
  | .int i, u, h => by
    cases u <;> simp [cB] at h
    subst h
    exact ⟨.int i, ⟨_, rfl⟩, fun _ _ => .int i⟩
  | .str s, u, h => by
    cases u <;> simp [cB] at h
    subst h
    exact ⟨.str (strOf s), ⟨_, rfl⟩, fun _ _ => .str s⟩
  | .tup ds, u, h => by
    cases u <;> simp only [cB, Bool.false_eq_true] at h
    rename_i a
    split at h
    · rename_i c od its n sl e
      simp only [Bool.and_eq_true, decide_eq_true_eq] at h
      obtain ⟨⟨rfl, h1⟩, h2⟩ := h
      obtain ⟨vs, r, q⟩ := cBs_ok h2
      exact ⟨.ref a, rfl, fun μ H => .tup (.inr ⟨_, its, n, e, rfl, rfl, h1, r⟩) (q μ H)⟩
    · cases h
  | .fro ds, u, h => by
    cases u <;> simp only [cB, Bool.false_eq_true] at h
    rename_i a
    split at h
    · rename_i c its n sl e
      simp only [Bool.and_eq_true, decide_eq_true_eq] at h
      obtain ⟨⟨rfl, h1⟩, h2⟩ := h
      obtain ⟨vs, r, q⟩ := cBs_ok h2
      exact ⟨.ref a, rfl, fun μ H => .fro (.inr ⟨_, its, n, e, rfl, rfl, rfl, h1, r⟩) (q μ H)⟩
    · cases h
  | .ref a, u, h => by cases u <;> simp [cB] at h
theorem cBs_ok {K : PySem.W.Frag} : ∀ {ds : List D} {us : List Value}, cBs K ds us = true → ∃ vs, Vals vs us ∧ ∀ μ H, DRs K μ H ds vs
  | [], us, h => by
    cases us with
    | nil => exact ⟨[], .nil, fun _ _ => .nil⟩
    | cons _ _ => simp [cBs] at h
  | d :: ds, us, h => by
    cases us with
    | nil => simp [cBs] at h
    | cons u us =>
      simp only [cBs, Bool.and_eq_true] at h
      obtain ⟨v, r, q⟩ := cB_ok h.1
      obtain ⟨vs, rs, qs⟩ := cBs_ok h.2
      exact ⟨v :: vs, .cons r rs, fun μ H => .cons (q μ H) (qs μ H)⟩
end
/-- a module's constant -/
def cstB (K : PySem.W.Frag) (x : Str) (d : D) : Bool := match PySem.W.nsIn K mainGlobals x with
  | some (some u) => cB K d u
  | _ => false
theorem cst_ok {K : PySem.W.Frag} {h : Heap} {mg : Str → Option Value} (X : K.In h) (G : h.Ns mainGlobals mg) {x : Str} {d : D} (c : cstB K x d = true) : ∃ u v, mg x = some u ∧ RelV v u ∧ ∀ μ H, DR K μ H d v := by
  unfold cstB at c
  split at c
  · rename_i u e
    obtain ⟨v, r, q⟩ := cB_ok c
    exact ⟨u, v, PySem.W.mg_of X G e, r, q⟩
  · cases c
/-! ### all defs keep their promises -/
def Cfg.of (es : List Ent) (csts : List (Str × D)) (frees : List Str) : Cfg := ⟨es.map fun e => (e.name, e.ps), csts, frees⟩
structure Says (es : List Ent) (csts : List (Str × D)) (frees : List Str) (K : PySem.W.Frag) (mg : Str → Option Value) : Prop where
  defs : ∀ e ∈ es, ∃ fa fd, mg e.name = some (.ref fa) ∧ FunD K e.name e.qual e.params e.body e.scope [] [] fa fd
  csts : ∀ x d, (x, d) ∈ csts → ∃ u v, mg x = some u ∧ RelV v u ∧ ∀ μ H, DR K μ H d v
  frees : ∀ x, x ∈ frees → mg x = none
theorem parIn_ok {sc : Scope} {x : Str} (h : parIn sc x = true) : sc.names.lookup x = some .local ∨ sc.names.lookup x = some .cell := by
  unfold parIn at h
  split at h
  · rename_i q; exact .inl q
  · rename_i q; exact .inr q
  · cases h
theorem getE {α β : Type} {f : α → β} {l : List α} {i : Nat} {b : β} (h : (l.map f)[i]? = some b) : ∃ a, l[i]? = some a ∧ f a = b := by
  rw [List.getElem?_map, Option.map_eq_some_iff] at h
  exact h
theorem start_ok {K : PySem.W.Frag} {μ : List Addr} {H : Hp} {N : List Str} {ds : List D} {vs : List V} {m : Nat} (hd : DRs K μ H ds vs) (hm : m = N.length - ds.length) : SRl K μ H (ds.map some ++ List.replicate m none) (L2.start N vs) := by
  have hl := DRs.length hd
  unfold L2.start
  refine ⟨by simp [hl, hm], fun i d e => ?_⟩
  by_cases hi : i < ds.length
  · rw [List.getElem?_append_left (by simpa using hi), List.getElem?_map, Option.map_eq_some_iff] at e
    obtain ⟨d', e1, e2⟩ := e
    cases e2
    obtain ⟨v, e3, q⟩ := hd.get e1
    exact ⟨v, by rw [List.getElem?_append_left (by rw [List.length_map, ← hl]; exact hi), List.getElem?_map, e3]; rfl, q⟩
  · rw [List.getElem?_append_right (by simpa using hi), List.getElem?_replicate] at e
    split at e <;> cases e
theorem defs_ok {P : Program} {w : World} {K : PySem.W.Frag} {mg : Str → Option Value} {base : Heap} {es : List Ent} {csts : List (Str × D)} {frees : List Str} (c : Says es csts frees K mg) (good : ∀ e ∈ es, e.good (Cfg.of es csts frees) = true) (F : Nat) :
    ∀ (k f : Nat) (e : Ent), es[f]? = some e → ∀ (fa : Addr) (fd : FuncData), FunD K e.name e.qual e.params e.body e.scope [] [] fa fd →
      FnOk P w K mg base (L2.CX P w) k fa fd e.ps (spD K e.ps.length (evCall (es.map (·.fn)) F k f)) := by
  intro k
  induction k with
  | zero =>
    intro f e he fa fd fn
    refine ⟨fun vs H Q E h => h.1, fun A outer s H args us vs Q E _ _ _ _ h => ?_⟩
    obtain ⟨_, ds, μ, h0, _, _, z⟩ := h
    exact z.elim
  | succ k ih =>
    intro f e he fa fd fn
    have hm : e ∈ es := List.mem_of_getElem? he
    have gd := good e hm
    unfold Ent.good at gd
    simp only [Bool.and_eq_true, decide_eq_true_eq, Bool.not_eq_true', List.all_eq_true] at gd
    obtain ⟨⟨⟨⟨⟨⟨⟨⟨⟨⟨g1, g2⟩, g3⟩, g4⟩, g5⟩, g6⟩, g7⟩, g8⟩, g9⟩, g10⟩, g11⟩ := gd
    have S : FnScope e.N e.ps e.scope := ⟨g1, g2, g3, nodupB_ok g4, g5, (fun x hx => parIn_ok (g6 x hx)), fun y hy => by simpa using g7 y hy⟩
    refine FunD.ok fn S (fun vs H Q E h => h.1) fun cdv A outer s H vs Q E hr h => ?_
    obtain ⟨hl, ds, μ, h0, hd, hh, z⟩ := h
    have cc : CtxS (Cfg.of es csts frees) (evCall (es.map (·.fn)) F k) ⟨e.scope, e.N, e.scope⟩ (cxOf (L2.CX P w) P w K mg base e.N e.qual e.scope fa cdv A outer s H E) (fun cls d _ H => E cls d H) := {
      sc := rfl
      nN := rfl
      nd := nodupB_ok g4
      sto := fun _ _ => .inl rfl
      calm := rfl
      units := by have := hr.un; show (A.deeper _).units + 64 < cLine; omega
      tk := takes_of rfl rfl rfl rfl
      fns := fun f' x ps hf => by
        obtain ⟨e', he', q⟩ := getE (show (es.map fun e => (e.name, e.ps))[f']? = some (x, ps) from hf)
        cases q
        obtain ⟨fa', fd', hmg, fn'⟩ := c.defs e' (List.mem_of_getElem? he')
        have gd' := good e' (List.mem_of_getElem? he')
        unfold Ent.good at gd'
        simp only [Bool.and_eq_true] at gd'
        have hn : e'.ps.Nodup := nodupB_ok gd'.1.1.1.2
        exact ⟨fa', fd', k, hmg, fn'.kp, hr, ih f' e' he' fa' fd' fn', fn'.bindsN fun kV doc pm an cdv ct us hl => bind_plain hl hn⟩
      csts := c.csts
      frees := c.frees
      pass := passes_of rfl
      knd := g1 }
    refine ⟨wSs _ e.body, pss_w, ?_⟩
    refine (sndStm (Cfg.of es csts frees) (evCall (es.map (·.fn)) F k) F ⟨e.scope, e.N, e.scope⟩).2 e.fn.body e.body g11 _ _ cc (ds.map some ++ List.replicate (e.fn.m - e.fn.n) none) h0 (L2.start e.N vs) μ H _ ?_ hh ?_
    · exact start_ok hd (by rw [g10, g9, ← hl]; rw [DRs.length hd])
    · have hn : ds.length = e.fn.n := by rw [DRs.length hd, hl, g9]
      have ef : (es.map (·.fn))[f]? = some e.fn := by rw [List.getElem?_map, he]; rfl
      simp only [evCall, ef, evFn, hn, if_true] at z
      cases er : evSl (evCall (es.map (·.fn)) F k) F e.fn.body (ds.map some ++ List.replicate (e.fn.m - e.fn.n) none) h0 with
      | nx s' h' => rw [er] at z; exact fun μ' H' σ' x r _ => z μ' H' x r _ .non
      | rt d h' => rw [er] at z; exact fun μ' H' v x r q => z μ' H' x r v q
      | bk s' h' => rw [er] at z; exact z.elim
      | ct s' h' => rw [er] at z; exact z.elim
      | ex y s' h' => rw [er] at z; exact fun μ' H' σ' cc dd x r _ q => z μ' H' cc dd x r q
      | no => rw [er] at z; exact z.elim
/-! ### a law's end -/
/-- what the law's reading is to answer -/
def LawOk (es : List Ent) (F k li : Nat) : Prop := ∀ ns : List Int, ns.length ≤ 63 → ∃ h, evCall (es.map (·.fn)) F k li [.fro (ns.map .int)] [] = .ok (.bl true) h
theorem drs_ints {K : PySem.W.Frag} {μ : List Addr} {H : Hp} : ∀ ns : List Int, DRs K μ H (ns.map .int) (ns.map V.int)
  | [] => .nil
  | n :: ns => .cons (.int n) (drs_ints ns)
theorem law_sp {es : List Ent} {F k li : Nat} (ok : LawOk es F k li) {K : PySem.W.Frag} {H : Hp} {a : Addr} {ns : List Int} (hl : ns.length ≤ 63) (ho : Only H) (hs : SqL K H a (ns.map V.int)) :
    spD K 1 (evCall (es.map (·.fn)) F k li) [.ref a] H (fun v _ => v = .bl true) fun _ _ _ => False := by
  obtain ⟨h', e⟩ := ok ns hl
  have sf : SqF K H a (ns.map V.int) := by
    rcases hs with (h | h) | h
    · rcases ho a with z | ⟨o, u, z⟩
      · rw [z] at h; cases h
      · rw [z] at h; cases h
    · exact .inl h
    · exact .inr h
  refine ⟨rfl, [.fro (ns.map .int)], [], [], .cons (.fro sf (drs_ints ns)) .nil, ⟨rfl, .nil, fun a p o z => by simp at z⟩, ?_⟩
  rw [e]
  intro μ' H' x r v q
  cases q
  rfl
theorem law_end {es : List Ent} {csts : List (Str × D)} {frees : List Str} {F k li : Nat} {e : Ent} {a0 : Arg} {P : Program} {w : World} {K : PySem.W.Frag} {mg : Str → Option Value} {fa : Addr} (c : Says es csts frees K mg) (good : ∀ e ∈ es, e.good (Cfg.of es csts frees) = true)
    (he : es[li]? = some e) (hps : e.args = [a0]) (hfa : mg e.name = some (.ref fa)) (ok : LawOk es F k li) :
    ∃ (fd : FuncData) (sp : Sp), (∀ (s : Shared) (u : Value), BindsTo s fd ⟨[u], []⟩ [(a0.arg, u)]) ∧ (∀ (H : Hp) (a : Addr) (ns : List Int), ns.length ≤ 63 → Only H → SqL K H a (ns.map V.int) → sp [.ref a] H (fun v _ => v = .bl true) fun _ _ _ => False) ∧
      ∀ base : Heap, FnOk P w K mg base (L2.CX P w) k fa fd [a0.arg] sp := by
  have hm := List.mem_of_getElem? he
  obtain ⟨fa', fd, hmg, fn⟩ := c.defs e hm
  rw [hfa] at hmg
  cases hmg
  have eps : e.ps = [a0.arg] := by unfold Ent.ps; rw [hps]; rfl
  refine ⟨fd, spD K 1 (evCall (es.map (·.fn)) F k li), fun s u => ?_, fun H a ns hl ho hs => law_sp ok hl ho hs, fun base => ?_⟩
  · have hn : e.ps.Nodup := by rw [eps]; exact List.nodup_cons.mpr ⟨by simp, .nil⟩
    have b := FunD.bindsA (ps := e.ps) fn (fun kV doc pm an cdv ct us hl => bind_plain hl hn) s [u] (by rw [eps]; rfl)
    rw [eps] at b
    exact b
  · have f := defs_ok (P := P) (w := w) (base := base) c good F k li e he fa fd fn
    rw [eps] at f
    exact f
end Ev
end

section
set_option autoImplicit false
set_option linter.all false
set_option Elab.async false
set_option maxRecDepth 100000
set_option maxHeartbeats 8000000
/-! Ev17: the head's Hook for such a text. -/
namespace Ev
open PySem PySem.Spec PyProof.Rows L2
abbrev AlP : Type := He.AlD × Bool
def obsP (n : Nat) (fa : List He.Fa) (fn : List He.DefD) (ex : PySem.W.Frag → Bool) (g : Addr → Option Obj) : AlP := (He.obsD fa fn (He.frG g (He.asD g n)), ex (He.frG g (He.asD g n)))
def hookP (n : Nat) (fa : List He.Fa) (fn : List He.DefD) (ex : PySem.W.Frag → Bool) : PySem.W.Hook where
  α := AlP
  obs := fun s => obsP n fa fn ex s.heap.get?
  val := fun _ => (He.valD fn, true)
  says := fun _ h => ∃ K : PySem.W.Frag, K.In h ∧ He.SaysD fa fn K ∧ ex K = true
  of := fun _ _ e => ⟨_, He.frG_in, (Prod.mk.inj e).1, (Prod.mk.inj e).2⟩
  keeps := fun _ _ _ ⟨K, hK, c⟩ k => ⟨K, PySem.W.Frag.In.keeps hK k, c⟩
theorem obsP_eq {n : Nat} {fa : List He.Fa} {fn : List He.DefD} {ex : PySem.W.Frag → Bool} {g : Addr → Option Obj} {s : Shared} (h : ∀ a, g a = s.heap.get? a) : obsP n fa fn ex g = (hookP n fa fn ex).obs s := by
  have e : g = s.heap.get? := funext h
  rw [e] <;> rfl
def Ent.defD (e : Ent) : He.DefD := ⟨(e.name, none), e.name, e.qual, e.params, e.body, e.scope, [], []⟩
def faOf (es : List Ent) (frees : List Str) : List He.Fa := es.map (fun e => .glo e.name) ++ frees.map .free
def exOf (csts : List (Str × D)) (K : PySem.W.Frag) : Bool := csts.all fun p => cstB K p.1 p.2
theorem fact_of {fa : List He.Fa} {fn : List He.DefD} {K : PySem.W.Frag} (c : He.SaysD fa fn K) {f : He.Fa} (h : f ∈ fa) : f.ok K = true := by
  obtain ⟨i, hi, e⟩ := List.mem_iff_getElem.mp h
  exact c.fact i (f := f) (by rw [List.getElem?_eq_getElem hi, e])
theorem def_of {fa : List He.Fa} {fn : List He.DefD} {K : PySem.W.Frag} (c : He.SaysD fa fn K) {d : He.DefD} (h : d ∈ fn) : ∃ fd, FunD K d.name d.qual d.params d.body d.scope (d.dvs K) (d.kws K) (He.fAd K d.at_) fd := by
  obtain ⟨i, hi, e⟩ := List.mem_iff_getElem.mp h
  exact c.def_ i (d := d) (by rw [List.getElem?_eq_getElem hi, e])
theorem says_of {es : List Ent} {csts : List (Str × D)} {frees : List Str} {K : PySem.W.Frag} {h : Heap} {mg : Str → Option Value} (X : K.In h) (G : h.Ns mainGlobals mg) (c : He.SaysD (faOf es frees) (es.map Ent.defD) K) (x : exOf csts K = true) : Says es csts frees K mg where
  defs := fun e he => by
    obtain ⟨fd, f⟩ := def_of c (List.mem_map_of_mem (f := Ent.defD) he)
    have g := fact_of c (f := .glo e.name) (List.mem_append_left _ (List.mem_map_of_mem (f := fun e : Ent => He.Fa.glo e.name) he))
    exact ⟨_, fd, He.glo_ok X G g, f⟩
  csts := fun y d hy => by
    unfold exOf at x
    exact cst_ok X G (List.all_eq_true.mp x _ hy)
  frees := fun y hy => He.free_ok X G (fact_of c (f := .free y) (List.mem_append_right _ (List.mem_map_of_mem (f := He.Fa.free) hy)))

/-- the law of a text, over the head's Hook -/
theorem law_walk {l : PySem.W.OpenLaw} {k li : Nat} {q : Program} {loose : List Str} {XP : (Str → Option Value) → Heap → Prop} {d : DefRec} {es : List Ent} {csts : List (Str × D)} {frees : List Str} {F n : Nat} {e : Ent} {a0 : Arg}
    (hn : l.most = some 63) (hdf : d.params.defaults = []) (hr : Room k callerA) (good : ∀ e ∈ es, e.good (Cfg.of es csts frees) = true) (he : es[li]? = some e) (hps : e.args = [a0]) (hname : d.name = e.name) (ok : LawOk es F k li) :
    PySem.W.WalkO q loose XP (hookP n (faOf es frees) (es.map Ent.defD) (exOf csts)).says l.row.toRowW d [] (fun f vs => PySem.call f vs) := by
  refine Att.attach_call hn hdf fun w s₀ s₁ mg mb fa o pm cd doc a vs ns G Y ho hd hcd hmg hobj hints hlen hg => ?_
  obtain ⟨K, KX, c, x⟩ := Y
  have S := says_of KX G.T.g c x
  obtain ⟨fd, sp, hb, hsp, hF⟩ := law_end (P := l.prog) (w := w) (K := K) S good he hps (by rw [← hname]; exact hmg) ok
  refine law_call (CX := L2.CX l.prog w) KX G.T.g G.T.b G.T.builtins G.T.nolimit hg hobj hints (Nat.le_trans hlen (by decide)) hr (fun base _ _ => hF base) hb (fun H hO hS => hsp H a ns hlen hO hS) fun H e s' z => ?_
  obtain ⟨_, _, _, _, _, _, _, _, _, _, _, _, z⟩ := z
  exact z
end Ev
end

section
set_option autoImplicit false
set_option linter.all false
set_option Elab.async false
set_option maxRecDepth 100000
set_option maxHeartbeats 4000000
/-! Ev18: what holds behind a piece of the plain reading: rules for simp. -/
namespace Ev
def Wp {α : Type} (m : Rs α) (Q : α → Hx → Prop) : Prop := match m with
  | .ok a h => Q a h
  | _ => False
structure Post where
  nx : Sx → Hx → Prop
  rt : D → Hx → Prop := fun _ _ => False
  bk : Sx → Hx → Prop := fun _ _ => False
  ct : Sx → Hx → Prop := fun _ _ => False
def WS (m : SR) (P : Post) : Prop := match m with
  | .nx s h => P.nx s h
  | .rt d h => P.rt d h
  | .bk s h => P.bk s h
  | .ct s h => P.ct s h
  | _ => False
section
variable {α β : Type} {m : Rs α} {f : α → Hx → Rs β} {Q Q' : α → Hx → Prop} {R : β → Hx → Prop} {P : Post}
@[simp] theorem Wp_ok {a : α} {h : Hx} : Wp (.ok a h) Q = Q a h := rfl
@[simp] theorem Wp_no : Wp (.no : Rs α) Q = False := rfl
@[simp] theorem Wp_ex {x : Exc} {h : Hx} : Wp (.ex x h : Rs α) Q = False := rfl
@[simp] theorem Wp_bind : Wp (Rs.bind m f) R = Wp m fun a h => Wp (f a h) R := by cases m <;> rfl
@[simp] theorem WS_run {s : Sx} {g : α → Hx → SR} : WS (Rs.run m s g) P = Wp m fun a h => WS (g a h) P := by cases m <;> rfl
@[simp] theorem Wp_of {o : Option α} {h : Hx} : Wp (Rs.of o h) Q = ∃ a, o = some a ∧ Q a h := by cases o <;> simp [Wp, Rs.of]
theorem Wp.imp (h : Wp m Q) (k : ∀ a h, Q a h → Q' a h) : Wp m Q' := by
  cases m with
  | ok a h' => exact k a h' h
  | _ => exact h.elim
theorem Wp.eq (h : Wp m Q) : ∃ a h', m = .ok a h' ∧ Q a h' := by
  cases m with
  | ok a h' => exact ⟨a, h', rfl, h⟩
  | _ => exact h.elim
theorem Wp.of_eq {a : α} {h : Hx} (e : m = .ok a h) (q : Q a h) : Wp m Q := by rw [e]; exact q
@[simp] theorem Wp_ite {c : Prop} [Decidable c] {m' : Rs α} : Wp (if c then m else m') Q = if c then Wp m Q else Wp m' Q := by split <;> rfl
@[simp] theorem WS_ite {c : Prop} [Decidable c] {m m' : SR} : WS (if c then m else m') P = if c then WS m P else WS m' P := by split <;> rfl
@[simp] theorem WS_nx {s : Sx} {h : Hx} : WS (.nx s h) P = P.nx s h := rfl
@[simp] theorem WS_rt {d : D} {h : Hx} : WS (.rt d h) P = P.rt d h := rfl
@[simp] theorem WS_bk {s : Sx} {h : Hx} : WS (.bk s h) P = P.bk s h := rfl
@[simp] theorem WS_ct {s : Sx} {h : Hx} : WS (.ct s h) P = P.ct s h := rfl
@[simp] theorem WS_no : WS .no P = False := rfl
@[simp] theorem WS_ex {x : Exc} {s : Sx} {h : Hx} : WS (.ex x s h) P = False := rfl
theorem WS.imp {m : SR} {P P' : Post} (w : WS m P) (k1 : ∀ s h, P.nx s h → P'.nx s h) (k2 : ∀ d h, P.rt d h → P'.rt d h) (k3 : ∀ s h, P.bk s h → P'.bk s h) (k4 : ∀ s h, P.ct s h → P'.ct s h) : WS m P' := by
  cases m with
  | nx s h => exact k1 s h w
  | rt d h => exact k2 d h w
  | bk s h => exact k3 s h w
  | ct s h => exact k4 s h w
  | _ => exact w.elim
end
section
variable (C : Call)
def wpE (t : T) (s : Sx) (h : Hx) (Q : D → Hx → Prop) : Prop := Wp (evE C t s h) Q
def wpEs (t : Ts) (s : Sx) (h : Hx) (Q : List D → Hx → Prop) : Prop := Wp (evEs C t s h) Q
def wpT (t : T) (s : Sx) (h : Hx) (Q : Bool → Hx → Prop) : Prop := Wp (evT C t s h) Q
def wpO (t : To) (s : Sx) (h : Hx) (Q : Option Int → Hx → Prop) : Prop := Wp (evO C t s h) Q
def wpI (t : It) (s : Sx) (h : Hx) (Q : List D × Src → Hx → Prop) : Prop := Wp (evI C t s h) Q
def wpG (t : Tg) (d : D) (s : Sx) (h : Hx) (N : Sx → Hx → Prop) : Prop := match evG C t d s h with
  | .nx s h => N s h
  | _ => False
def wpGs (t : Tgs) (d : List D) (s : Sx) (h : Hx) (N : Sx → Hx → Prop) : Prop := match evGs C t d s h with
  | .nx s h => N s h
  | _ => False
/-- a call -/
def wpC (f : Nat) (ds : List D) (h : Hx) (Q : D → Hx → Prop) : Prop := Wp (C f ds h) Q
end
section
variable {C : Call} {s : Sx} {h : Hx} {Q : D → Hx → Prop} {QB : Bool → Hx → Prop}
@[simp] theorem wE_non : wpE C .non s h Q = Q .non h := by simp [wpE, evE]
@[simp] theorem wE_bl {b : Bool} : wpE C (.bl b) s h Q = Q (.bl b) h := by simp [wpE, evE]
@[simp] theorem wE_int {i : Int} : wpE C (.int i) s h Q = Q (.int i) h := by simp [wpE, evE]
@[simp] theorem wE_str {z : List Nat} : wpE C (.str z) s h Q = Q (.str z) h := by simp [wpE, evE]
@[simp] theorem wE_cst {d : D} : wpE C (.cst d) s h Q = Q d h := by simp [wpE, evE]
@[simp] theorem wE_var {i : Nat} : wpE C (.var i) s h Q = ∃ d, s[i]? = some (some d) ∧ Q d h := by
  simp only [wpE, evE]
  split
  · rename_i d e; simp [e]
  · rename_i e
    exact propext ⟨False.elim, fun ⟨d, q, _⟩ => absurd q (e d)⟩
@[simp] theorem wE_bin {o : Bop} {a b : T} : wpE C (.bin o a b) s h Q = wpE C a s h fun x h1 => wpE C b s h1 fun y h2 => Wp (binop o x y h2) Q := by simp [wpE, evE]
@[simp] theorem wE_neg {a : T} : wpE C (.neg a) s h Q = wpE C a s h fun x h1 => ∃ i, x = .int i ∧ Q (.int (-i)) h1 := by
  simp only [wpE, evE, Wp_bind]
  congr 1
  funext x h1
  cases x <;> simp
@[simp] theorem wE_not {a : T} : wpE C (.not_ a) s h Q = wpE C a s h fun x h1 => ∃ k, truth h1 x = some k ∧ Q (.bl (!k)) h1 := by simp [wpE, evE]
@[simp] theorem wE_cmp {o : Cop} {a b : T} : wpE C (.cmp o a b) s h Q = wpE C a s h fun x h1 => wpE C b s h1 fun y h2 => ∃ k, cmpop o x y h2 = some k ∧ Q (.bl k) h2 := by simp [wpE, evE]
@[simp] theorem wE_isN {a : T} : wpE C (.isN a) s h Q = wpE C a s h fun x h1 => Q (.bl (decide (x = .non))) h1 := by simp [wpE, evE]
@[simp] theorem wE_isnN {a : T} : wpE C (.isnN a) s h Q = wpE C a s h fun x h1 => Q (.bl (!decide (x = .non))) h1 := by simp [wpE, evE]
@[simp] theorem wE_and {a b : T} : wpE C (.and_ a b) s h Q = wpE C a s h fun x h1 => ∃ k, truth h1 x = some k ∧ if k = true then wpE C b s h1 Q else Q x h1 := by
  simp only [wpE, evE, Wp_bind, Wp_of, Wp_ite, Wp_ok]
@[simp] theorem wE_or {a b : T} : wpE C (.or_ a b) s h Q = wpE C a s h fun x h1 => ∃ k, truth h1 x = some k ∧ if k = true then Q x h1 else wpE C b s h1 Q := by
  simp only [wpE, evE, Wp_bind, Wp_of, Wp_ite, Wp_ok]
@[simp] theorem wE_ife {c a b : T} : wpE C (.ife c a b) s h Q = wpT C c s h fun k h1 => if k = true then wpE C a s h1 Q else wpE C b s h1 Q := by
  simp only [wpE, wpT, evE, Wp_bind, Wp_ite]
@[simp] theorem wE_tup {es : Ts} : wpE C (.tup es) s h Q = wpEs C es s h fun xs h1 => xs.length ≤ LIM ∧ Q (.tup xs) h1 := by
  simp only [wpE, wpEs, evE, Wp_bind, Wp_ite, Wp_ok, Wp_no]
  congr 1; funext xs h1; by_cases hl : xs.length ≤ LIM <;> simp [hl]
@[simp] theorem wE_lst {es : Ts} : wpE C (.lst es) s h Q = wpEs C es s h fun xs h1 => xs.length ≤ LIM ∧ Q (.ref h1.length) (h1 ++ [.lst xs]) := by
  simp only [wpE, wpEs, evE, Wp_bind, Wp_ite, Wp_no, new, Wp_ok]
  congr 1; funext xs h1; by_cases hl : xs.length ≤ LIM <;> simp [hl]
@[simp] theorem wE_ix {a b : T} : wpE C (.ix a b) s h Q = wpE C a s h fun x h1 => wpE C b s h1 fun y h2 => ∃ d, getIx x y h2 = some d ∧ Q d h2 := by simp [wpE, evE]
@[simp] theorem wE_sl {a : T} {lo hi : To} : wpE C (.sl a lo hi) s h Q = wpE C a s h fun x h1 => wpO C lo s h1 fun l h2 => wpO C hi s h2 fun u h3 => Wp (slice x l u h3) Q := by simp [wpE, wpO, evE]
@[simp] theorem wE_rev {a : T} : wpE C (.rev a) s h Q = wpE C a s h fun x h1 => ∃ p xs, x = .ref p ∧ h1[p]? = some (.lst xs) ∧ Q (.ref h1.length) (h1 ++ [.lst xs.reverse]) := by
  simp only [wpE, evE, Wp_bind]
  congr 1; funext x h1
  cases x <;> simp
  split <;> simp_all [new]
@[simp] theorem wE_call {f : Nat} {es : Ts} : wpE C (.call f es) s h Q = wpEs C es s h fun xs h1 => wpC C f xs h1 Q := by simp [wpE, wpEs, wpC, evE]
@[simp] theorem wE_bf {b : Bf} {es : Ts} : wpE C (.bf b es) s h Q = wpEs C es s h fun xs h1 => Wp (builtin b xs h1) Q := by simp [wpE, wpEs, evE]
@[simp] theorem wE_bm {b : Bm} {a : T} {es : Ts} : wpE C (.bm b a es) s h Q = wpE C a s h fun x h1 => hasM h1 b x = true ∧ wpEs C es s h1 fun xs h2 => Wp (bmethod b x xs h2) Q := by
  simp only [wpE, wpEs, evE, Wp_bind, Wp_ite, Wp_no]
  congr 1; funext x h1; split <;> simp_all
@[simp] theorem wE_isi {a : T} {cs : List Ck} : wpE C (.isi a cs) s h Q = wpE C a s h fun x h1 => known h1 x = true ∧ Q (.bl (cs.any fun k => isOf h1 (fun _ _ => false) x k)) h1 := by
  simp only [wpE, evE, Wp_bind, Wp_ite, Wp_no, Wp_ok]
  congr 1; funext x h1; split <;> simp_all
@[simp] theorem wE_dct {ps : Tps} : wpE C (.dct ps) s h Q = Wp (evPs C ps s h) fun kvs h1 => (kvs.all (fun kv => isKey kv.1) && decide (kvs.length ≤ 15)) = true ∧ Q (.ref h1.length) (h1 ++ [.dic false (kvs.foldl (fun a kv => dPut a kv.1 kv.2) [])]) := by
  simp only [wpE, evE, Wp_bind, Wp_ite, Wp_no, new, Wp_ok]
  congr 1; funext x h1; split <;> rename_i q <;> simp only [q, true_and, false_and, Bool.false_eq_true]
@[simp] theorem wPs_nil {Q : List (D × D) → Hx → Prop} : Wp (evPs C .nil s h) Q = Q [] h := by simp [evPs]
@[simp] theorem wPs_cons {k v : T} {ps : Tps} {Q : List (D × D) → Hx → Prop} : Wp (evPs C (.cons k v ps) s h) Q = wpE C k s h fun x h1 => wpE C v s h1 fun y h2 => Wp (evPs C ps s h2) fun r h3 => Q ((x, y) :: r) h3 := by simp [evPs, wpE]
@[simp] theorem wE_chain {o p : Cop} {a b c : T} : wpE C (.chain o p a b c) s h Q = wpE C a s h fun x h1 => wpE C b s h1 fun y h2 => ∃ k, cmpop o x y h2 = some k ∧ if k = true then wpE C c s h2 fun z h4 => ∃ k2, cmpop p y z h4 = some k2 ∧ Q (.bl k2) h4 else Q (.bl false) h2 := by
  simp only [wpE, evE, Wp_bind, Wp_of, Wp_ite, Wp_ok]
@[simp] theorem wEs_nil {Q : List D → Hx → Prop} : wpEs C .nil s h Q = Q [] h := by simp [wpEs, evEs]
@[simp] theorem wEs_cons {e : T} {es : Ts} {Q : List D → Hx → Prop} : wpEs C (.cons e es) s h Q = wpE C e s h fun x h1 => wpEs C es s h1 fun xs h2 => Q (x :: xs) h2 := by simp [wpEs, wpE, evEs]
@[simp] theorem wO_none {Q : Option Int → Hx → Prop} : wpO C .none s h Q = Q none h := by simp [wpO, evO]
@[simp] theorem wO_some {e : T} {Q : Option Int → Hx → Prop} : wpO C (.some e) s h Q = wpE C e s h fun x h1 => ∃ i, x = .int i ∧ Q (some i) h1 := by
  simp only [wpO, wpE, evO, Wp_bind]
  congr 1; funext x h1
  cases x <;> simp
/-! tests -/
theorem tru_ex {b : Bool} {R : Bool → Prop} : (∃ k, truth h (.bl b) = some k ∧ R k) = R b := by
  apply propext
  constructor
  · rintro ⟨k, e, r⟩
    cases e
    exact r
  · exact fun r => ⟨b, rfl, r⟩
theorem wT_tru {t : T} (e : evT C t = fun s h => (evE C t s h).bind fun x h1 => Rs.of (truth h1 x) h1) : wpT C t s h QB = wpE C t s h fun x h1 => ∃ k, truth h1 x = some k ∧ QB k h1 := by
  unfold wpT wpE
  rw [e]
  simp only [Wp_bind, Wp_of]
@[simp] theorem wT_not {a : T} : wpT C (.not_ a) s h QB = wpT C a s h fun k h1 => QB (!k) h1 := by simp [wpT, evT]
@[simp] theorem wT_and {a b : T} : wpT C (.and_ a b) s h QB = wpT C a s h fun k h1 => if k = true then wpT C b s h1 QB else QB false h1 := by simp only [wpT, evT, Wp_bind, Wp_ite, Wp_ok]
@[simp] theorem wT_or {a b : T} : wpT C (.or_ a b) s h QB = wpT C a s h fun k h1 => if k = true then QB true h1 else wpT C b s h1 QB := by simp only [wpT, evT, Wp_bind, Wp_ite, Wp_ok]
@[simp] theorem wT_ife {c a b : T} : wpT C (.ife c a b) s h QB = wpT C c s h fun k h1 => if k = true then wpT C a s h1 QB else wpT C b s h1 QB := by simp only [wpT, evT, Wp_bind, Wp_ite]
@[simp] theorem wT_cmp {o : Cop} {a b : T} : wpT C (.cmp o a b) s h QB = wpE C a s h fun x h1 => wpE C b s h1 fun y h2 => ∃ k, cmpop o x y h2 = some k ∧ QB k h2 := by
  rw [wT_tru (by funext s h; simp only [evT]), wE_cmp]; simp only [tru_ex]
@[simp] theorem wT_chain {o p : Cop} {a b c : T} : wpT C (.chain o p a b c) s h QB = wpE C a s h fun x h1 => wpE C b s h1 fun y h2 => ∃ k, cmpop o x y h2 = some k ∧ if k = true then wpE C c s h2 fun z h4 => ∃ k2, cmpop p y z h4 = some k2 ∧ QB k2 h4 else QB false h2 := by
  rw [wT_tru (by funext s h; simp only [evT]), wE_chain]
  congr 1; funext x h1; congr 1; funext y h2; congr 1; funext k
  cases k <;> simp only [tru_ex, if_true, if_false, Bool.false_eq_true]
@[simp] theorem wT_isN {a : T} : wpT C (.isN a) s h QB = wpE C a s h fun x h1 => QB (decide (x = .non)) h1 := by
  rw [wT_tru (by funext s h; simp only [evT]), wE_isN]; simp only [tru_ex]
@[simp] theorem wT_isnN {a : T} : wpT C (.isnN a) s h QB = wpE C a s h fun x h1 => QB (!decide (x = .non)) h1 := by
  rw [wT_tru (by funext s h; simp only [evT]), wE_isnN]; simp only [tru_ex]
@[simp] theorem wT_isi {a : T} {cs : List Ck} : wpT C (.isi a cs) s h QB = wpE C a s h fun x h1 => known h1 x = true ∧ QB (cs.any fun k => isOf h1 (fun _ _ => false) x k) h1 := by
  rw [wT_tru (by funext s h; simp only [evT]), wE_isi]; simp only [tru_ex]
@[simp] theorem wT_var {i : Nat} : wpT C (.var i) s h QB = wpE C (.var i) s h fun x h1 => ∃ k, truth h1 x = some k ∧ QB k h1 := wT_tru (by funext s h; simp only [evT])
@[simp] theorem wT_call {f : Nat} {es : Ts} : wpT C (.call f es) s h QB = wpE C (.call f es) s h fun x h1 => ∃ k, truth h1 x = some k ∧ QB k h1 := wT_tru (by funext s h; simp only [evT])
@[simp] theorem wT_bf {b : Bf} {es : Ts} : wpT C (.bf b es) s h QB = wpE C (.bf b es) s h fun x h1 => ∃ k, truth h1 x = some k ∧ QB k h1 := wT_tru (by funext s h; simp only [evT])
@[simp] theorem wT_bm {b : Bm} {a : T} {es : Ts} : wpT C (.bm b a es) s h QB = wpE C (.bm b a es) s h fun x h1 => ∃ k, truth h1 x = some k ∧ QB k h1 := wT_tru (by funext s h; simp only [evT])
@[simp] theorem wT_bl {b : Bool} : wpT C (.bl b) s h QB = QB b h := by rw [wT_tru (by funext s h; simp only [evT]), wE_bl, tru_ex]
/-! walks -/
@[simp] theorem wI_seq {e : T} {Q : List D × Src → Hx → Prop} : wpI C (.seq e) s h Q = wpE C e s h fun x h1 => ∃ w, walkOf h1 x = some w ∧ Q w h1 := by simp [wpI, wpE, evI]
@[simp] theorem wI_rng1 {a : T} {Q : List D × Src → Hx → Prop} : wpI C (.rng1 a) s h Q = wpE C a s h fun x h1 => ∃ i, x = .int i ∧ rngOk i = true ∧ Q (rngD 0 i.toNat, .none) h1 := by
  simp only [wpI, wpE, evI, Wp_bind]
  congr 1; funext x h1
  cases x <;> simp
  try (rename_i i; by_cases q : rngOk i = true <;> simp [q])
@[simp] theorem wI_rng2 {a b : T} {Q : List D × Src → Hx → Prop} : wpI C (.rng2 a b) s h Q = wpE C a s h fun x h1 => wpE C b s h1 fun y h2 => ∃ i j, x = .int i ∧ y = .int j ∧ (rngOk i && rngOk j) = true ∧ Q (rngD i (j - i).toNat, .none) h2 := by
  simp only [wpI, wpE, evI, Wp_bind]
  congr 1; funext x h1
  congr 1; funext y h2
  cases x <;> cases y <;> simp
  try (split <;> simp_all)
@[simp] theorem wG_nm {i : Nat} {d : D} {N : Sx → Hx → Prop} : wpG C (.nm i) d s h N = N (s.set i (some d)) h := by simp [wpG, evG]
@[simp] theorem wG_ix {a b : T} {d : D} {N : Sx → Hx → Prop} : wpG C (.ix a b) d s h N = wpE C a s h fun x h1 => wpE C b s h1 fun y h2 => ∃ h3, setIx x y d h2 = some h3 ∧ N s h3 := by
  simp only [wpG, evG, wpE]
  cases evE C a s h with
  | ok x h1 =>
    simp only [Rs.run, Wp_ok]
    cases evE C b s h1 with
    | ok y h2 =>
      simp only [Wp_ok]
      cases e : setIx x y d h2 <;> simp
    | ex _ _ => simp [Rs.run]
    | no => simp [Rs.run]
  | ex _ _ => simp [Rs.run]
  | no => simp [Rs.run]
@[simp] theorem wG_tup {ts : Tgs} {d : D} {N : Sx → Hx → Prop} : wpG C (.tup ts) d s h N = ∃ xs, d = .tup xs ∧ xs.length = ts.len ∧ wpGs C ts xs s h N := by
  unfold wpG wpGs
  cases d <;> simp [evG]
  rename_i xs
  by_cases q : xs.length = ts.len <;> simp [q]
@[simp] theorem tgs_nil : Tgs.nil.len = 0 := rfl
@[simp] theorem tgs_cons {t : Tg} {ts : Tgs} : (Tgs.cons t ts).len = ts.len + 1 := rfl
@[simp] theorem wGs_nil {N : Sx → Hx → Prop} : wpGs C .nil [] s h N = N s h := by simp [wpGs, evGs]
@[simp] theorem wGs_cons {t : Tg} {ts : Tgs} {x : D} {xs : List D} {N : Sx → Hx → Prop} : wpGs C (.cons t ts) (x :: xs) s h N = wpG C t x s h fun s1 h1 => wpGs C ts xs s1 h1 N := by
  simp only [wpG, wpGs, evGs]
  cases evG C t x s h <;> simp [SR.seq]
end
/-! statements -/
section
variable (C : Call) (F : Nat)
def wS (a : S1) (s : Sx) (h : Hx) (P : Post) : Prop := WS (evS C F a s h) P
def wSl (a : Sl) (s : Sx) (h : Hx) (P : Post) : Prop := WS (evSl C F a s h) P
end
section
variable {C : Call} {F : Nat} {s : Sx} {h : Hx} {P : Post}
@[simp] theorem wS_expr {e : T} : wS C F (.expr e) s h P = wpE C e s h fun _ h1 => P.nx s h1 := by simp [wS, wpE, evS]
@[simp] theorem wS_asg {tg : Tg} {e : T} : wS C F (.asg tg e) s h P = wpE C e s h fun d h1 => wpG C tg d s h1 P.nx := by
  simp only [wS, wpE, evS, WS_run]
  congr 1; funext d h1
  unfold wpG
  cases evG C tg d s h1 <;> simp [SR.st]
@[simp] theorem wS_par {js : List Nat} {es : Ts} : wS C F (.par js es) s h P = wpEs C es s h fun ds h1 => ∃ s1, setAll js ds s = some s1 ∧ P.nx s1 h1 := by
  simp only [wS, wpEs, evS, WS_run]
  congr 1; funext d h1
  cases setAll js d s <;> simp
@[simp] theorem wS_aug {i : Nat} {o : Bop} {e : T} : wS C F (.aug i o e) s h P = ∃ a, s[i]? = some (some (.int a)) ∧ wpE C e s h fun d h1 => ∃ v, augD o a d = some v ∧ P.nx (s.set i (some v)) h1 := by
  simp only [wS, wpE, evS]
  split
  · rename_i a ha
    simp only [WS_run, ha, Option.some.injEq, D.int.injEq, exists_eq_left']
    congr 1; funext d h1
    cases augD o a d <;> simp
  · rename_i hn
    exact propext ⟨False.elim, fun ⟨a, q, _⟩ => absurd q (hn a)⟩
@[simp] theorem wS_ret {e : T} : wS C F (.ret e) s h P = wpE C e s h P.rt := by simp only [wS, wpE, evS, WS_run, WS_rt]
@[simp] theorem wS_retN : wS C F .retN s h P = P.rt .non h := by simp [wS, evS]
@[simp] theorem wS_if {c : T} {a b : Sl} : wS C F (.iff c a b) s h P = wpT C c s h fun k h1 => if k = true then wSl C F a s h1 P else wSl C F b s h1 P := by simp only [wS, wSl, wpT, evS, WS_run, WS_ite]
@[simp] theorem wS_pass : wS C F .pass s h P = P.nx s h := by simp [wS, evS]
@[simp] theorem wS_brk : wS C F .brk s h P = P.bk s h := by simp [wS, evS]
@[simp] theorem wS_cont : wS C F .cont s h P = P.ct s h := by simp [wS, evS]
@[simp] theorem wSl_nil : wSl C F .nil s h P = P.nx s h := by simp [wSl, evSl]
@[simp] theorem wSl_cons {a : S1} {r : Sl} : wSl C F (.cons a r) s h P = wS C F a s h { P with nx := fun s1 h1 => wSl C F r s1 h1 P } := by
  simp only [wSl, wS, evSl]
  cases evS C F a s h <;> simp
/-- while: I n: at most n turns more -/
theorem whl_ok {c : T} {a : Sl} (I : Nat → Sx → Hx → Prop) (step : ∀ n s h, I n s h → wpT C c s h fun k h1 => if k = true then ∃ m, n = m + 1 ∧ wSl C F a s h1 { P with nx := I m, ct := I m, bk := P.nx } else P.nx s h1) (n : Nat) (hn : n < F) (i : I n s h) : wS C F (.whl c a) s h P := by
  unfold wS
  simp only [evS]
  have key : ∀ (f n : Nat) (s : Sx) (h : Hx), n < f → I n s h → WS (whlLoop (evT C c) (evSl C F a) f s h) P := by
    intro f
    induction f with
    | zero => intro n s h hn _; exact absurd hn (Nat.not_lt_zero _)
    | succ f ih =>
      intro n s h hn i
      have z := step n s h i
      simp only [whlLoop, WS_run]
      unfold wpT at z
      refine Wp.imp z fun k h1 q => ?_
      clear z
      cases k with
      | false => simpa using q
      | true =>
        simp only [if_true] at q ⊢
        obtain ⟨m, rfl, z⟩ := q
        unfold wSl at z
        cases e : evSl C F a s h1 with
        | nx s2 h2 => rw [e] at z; exact ih m s2 h2 (by omega) z
        | ct s2 h2 => rw [e] at z; exact ih m s2 h2 (by omega) z
        | bk s2 h2 => rw [e] at z; exact z
        | rt d h2 => rw [e] at z; exact z
        | ex x s2 h2 => rw [e] at z; exact z
        | no => rw [e] at z; exact z
  exact key F n s h hn i
/-- for: I xs: the items still to come -/
theorem for_ok {tg : Tg} {it : It} {a : Sl} {Q : List D × Src → Hx → Prop} (hi : wpI C it s h Q) (I : List D → Sx → Hx → Prop) (h0 : ∀ w h1, Q w h1 → I w.1 s h1 ∧ (∀ xs s h, I xs s h → w.2.ok h = true) ∧
    (∀ s h, I [] s h → P.nx s h) ∧ ∀ x xs s h, I (x :: xs) s h → wpG C tg x s h fun s1 h1 => wSl C F a s1 h1 { P with nx := I xs, ct := I xs, bk := P.nx }) : wS C F (.for_ tg it a) s h P := by
  unfold wS
  simp only [evS, WS_run]
  unfold wpI at hi
  refine hi.imp fun w h1 q => ?_
  obtain ⟨i0, hs, hd, step⟩ := h0 w h1 q
  have key : ∀ (xs : List D) (s : Sx) (h : Hx), I xs s h → WS (forLoop (evG C tg) (evSl C F a) w.2 xs s h) P := by
    intro xs
    induction xs with
    | nil =>
      intro s h i
      simp only [forLoop, hs _ _ _ i, if_true, WS_nx]
      exact hd s h i
    | cons x xs ih =>
      intro s h i
      simp only [forLoop, hs _ _ _ i, if_true]
      have z := step x xs s h i
      unfold wpG at z
      cases eg : evG C tg x s h with
      | nx s1 h1 =>
        rw [eg] at z
        simp only [] at z ⊢
        unfold wSl at z
        cases e : evSl C F a s1 h1 with
        | nx s2 h2 => rw [e] at z; exact ih s2 h2 z
        | ct s2 h2 => rw [e] at z; exact ih s2 h2 z
        | bk s2 h2 => rw [e] at z; exact z
        | rt d h2 => rw [e] at z; exact z
        | ex x s2 h2 => rw [e] at z; exact z
        | no => rw [e] at z; exact z
      | _ => rw [eg] at z; exact z.elim
  exact key w.1 s h1 i0
/-- a comprehension: I acc xs: what is gathered, the items still to come -/
theorem lc_ok {own : List Nat} {tg : Tg} {it : It} {ifs : Ts} {e : T} {Q : D → Hx → Prop} {QI : List D × Src → Hx → Prop} (hi : wpI C it s h QI) (I : List D → List D → Hx → Prop) (h0 : ∀ w h1, QI w h1 → I [] w.1 h1 ∧ (∀ acc xs h, I acc xs h → w.2.ok h = true) ∧
    (∀ acc h, I acc [] h → Q (.ref h.length) (h ++ [.lst acc])) ∧ ∀ acc x xs h, I acc (x :: xs) h → acc.length < LIM ∧ wpG C tg x (wipeD s own) h fun s3 h3 => Wp (evTs C ifs s3 h3) fun k h4 => if k = true then wpE C e s3 h4 fun y h5 => I (acc ++ [y]) xs h5 else I acc xs h4) :
    wpE C (.lc own tg it ifs e) s h Q := by
  unfold wpE
  simp only [evE, Wp_bind, new, Wp_ok]
  unfold wpI at hi
  refine hi.imp fun w h1 q => ?_
  obtain ⟨i0, hs, hd, step⟩ := h0 w h1 q
  have key : ∀ (xs acc : List D) (h : Hx), I acc xs h → Wp (lcLoop (fun x h2 => match evG C tg x (wipeD s own) h2 with
      | .nx s3 h3 => (evTs C ifs s3 h3).bind fun k h4 => if k then (evE C e s3 h4).bind fun y h5 => .ok (some y) h5 else .ok none h4
      | _ => .no) w.2 xs acc h) fun acc h => Q (.ref h.length) (h ++ [.lst acc]) := by
    intro xs
    induction xs with
    | nil =>
      intro acc h i
      simp only [lcLoop, hs _ _ _ i, if_true, Wp_ok]
      exact hd acc h i
    | cons x xs ih =>
      intro acc h i
      obtain ⟨hl, z⟩ := step acc x xs h i
      simp only [lcLoop, hs _ _ _ i, if_true]
      unfold wpG at z
      cases eg : evG C tg x (wipeD s own) h with
      | nx s3 h3 =>
        rw [eg] at z
        simp only [] at z ⊢
        obtain ⟨k, h4, ek, z⟩ := z.eq
        rw [ek]
        simp only [Rs.bind]
        cases k with
        | false =>
          simp only [Bool.false_eq_true, if_false] at z ⊢
          exact ih acc h4 z
        | true =>
          simp only [if_true] at z ⊢
          unfold wpE at z
          obtain ⟨y, h5, ey, z⟩ := z.eq
          rw [ey]
          simp only [hl, if_true]
          exact ih _ h5 z
      | _ => rw [eg] at z; exact z.elim
  exact key w.1 [] h1 i0
@[simp] theorem wTs_nil {Q : Bool → Hx → Prop} : Wp (evTs C .nil s h) Q = Q true h := by simp [evTs]
@[simp] theorem wTs_cons {t : T} {ts : Ts} {Q : Bool → Hx → Prop} : Wp (evTs C (.cons t ts) s h) Q = wpT C t s h fun k h1 => if k = true then Wp (evTs C ts s h1) Q else Q false h1 := by simp only [evTs, wpT, Wp_bind, Wp_ite, Wp_ok]
end
/-- a def called -/
theorem call_ok {Ps : List Fn} {F k f : Nat} {fn : Fn} {ds : List D} {h : Hx} {Q : D → Hx → Prop} (e : Ps[f]? = some fn) (hl : ds.length = fn.n) (w : wSl (evCall Ps F k) F fn.body (ds.map some ++ List.replicate (fn.m - fn.n) none) h { nx := fun _ h1 => Q .non h1, rt := Q }) :
    wpC (evCall Ps F (k + 1)) f ds h Q := by
  unfold wpC
  simp only [evCall, e, evFn, hl, if_true]
  unfold wSl at w
  cases er : evSl (evCall Ps F k) F fn.body (ds.map some ++ List.replicate (fn.m - fn.n) none) h with
  | nx s1 h1 => rw [er] at w; exact w
  | rt d h1 => rw [er] at w; exact w
  | bk s1 h1 => rw [er] at w; exact w
  | ct s1 h1 => rw [er] at w; exact w
  | ex x s1 h1 => rw [er] at w; exact w
  | no => rw [er] at w; exact w
end Ev
end

section
set_option autoImplicit false
set_option linter.all false
set_option Elab.async false
set_option maxRecDepth 100000
set_option maxHeartbeats 4000000
/-! Ev19: values: rules for simp. -/
namespace Ev
section
variable {h : Hx} {Q : D → Hx → Prop}
theorem lim_eq : LIM = 16777216 := rfl
@[simp] theorem atD_nat {α : Type} {xs : List α} {n : Nat} : atD xs (n : Int) = xs[n]? := by
  unfold atD ixOf
  by_cases hn : n < xs.length
  · have e : (0 : Int) ≤ n ∧ (n : Int) < xs.length := ⟨by omega, by omega⟩
    rw [if_pos e.1, if_pos e.2]; simp
  · rw [if_pos (by omega), if_neg (by omega)]
    simp only []
    rw [List.getElem?_eq_none (by omega)]
@[simp] theorem atD_0 {α : Type} {xs : List α} : atD xs 0 = xs[0]? := atD_nat (n := 0)
@[simp] theorem atD_1 {α : Type} {xs : List α} : atD xs 1 = xs[1]? := atD_nat (n := 1)
@[simp] theorem atD_2 {α : Type} {xs : List α} : atD xs 2 = xs[2]? := atD_nat (n := 2)
@[simp] theorem atD_3 {α : Type} {xs : List α} : atD xs 3 = xs[3]? := atD_nat (n := 3)
@[simp] theorem atD_4 {α : Type} {xs : List α} : atD xs 4 = xs[4]? := atD_nat (n := 4)
@[simp] theorem atD_5 {α : Type} {xs : List α} : atD xs 5 = xs[5]? := atD_nat (n := 5)
theorem atD_last {α : Type} {xs : List α} : atD xs (-1) = xs[xs.length - 1]? := by
  unfold atD ixOf
  by_cases hn : xs.length = 0
  · have e : xs = [] := List.length_eq_zero_iff.mp hn
    subst e; rfl
  · rw [if_neg (by decide), if_pos (by omega)]
    simp only []
    congr 1
    omega
theorem sIx_nat {n d a : Nat} : sIx n d (some (a : Int)) = min a n := by
  have e : ¬ (a : Int) < 0 := by omega
  simp only [sIx, e, if_false, Int.toNat_natCast]
theorem sIx_none {n d : Nat} : sIx n d none = d := rfl
@[simp] theorem cut_nat {α : Type} {xs : List α} {a b : Nat} : cut xs (some (a : Int)) (some (b : Int)) = (xs.drop a).take (b - a) := by
  unfold cut
  rw [sIx_nat, sIx_nat]
  by_cases ha : a ≤ xs.length
  · rw [Nat.min_eq_left ha]
    by_cases hb : b ≤ xs.length
    · rw [Nat.min_eq_left hb]
    · rw [Nat.min_eq_right (by omega), List.take_of_length_le (by simp), List.take_of_length_le (by simp; omega)]
  · rw [Nat.min_eq_right (show xs.length ≤ a by omega), List.drop_length, List.drop_eq_nil_of_le (show xs.length ≤ a by omega)]
    simp
@[simp] theorem cut_from {α : Type} {xs : List α} {a : Nat} : cut xs (some (a : Int)) none = xs.drop a := by
  unfold cut
  rw [sIx_nat, sIx_none]
  by_cases ha : a ≤ xs.length
  · rw [Nat.min_eq_left ha, List.take_of_length_le (by simp)]
  · rw [Nat.min_eq_right (by omega), List.drop_length, List.drop_eq_nil_of_le (by omega)]
    simp
@[simp] theorem cut_to {α : Type} {xs : List α} {b : Nat} : cut xs none (some (b : Int)) = xs.take b := by
  unfold cut
  rw [sIx_nat, sIx_none, Nat.sub_zero, List.drop_zero]
  by_cases ha : b ≤ xs.length
  · rw [Nat.min_eq_left ha]
  · rw [Nat.min_eq_right (by omega), List.take_length, List.take_of_length_le (by omega)]
@[simp] theorem cut_from1 {α : Type} {xs : List α} : cut xs (some 1) none = xs.drop 1 := cut_from (a := 1)
@[simp] theorem cut_to1 {α : Type} {xs : List α} : cut xs none (some 1) = xs.take 1 := cut_to (b := 1)
@[simp] theorem cut_plus {α : Type} {xs : List α} {a b : Nat} : cut xs (some (a : Int)) (some ((a : Int) + (b : Int))) = (xs.drop a).take b := by
  have := cut_nat (xs := xs) (a := a) (b := a + b)
  rw [Nat.add_sub_cancel_left] at this
  exact this
@[simp] theorem cut_plus2 {α : Type} {xs : List α} {a : Nat} : cut xs (some (a : Int)) (some ((a : Int) + 2)) = (xs.drop a).take 2 := cut_plus (b := 2)
@[simp] theorem lim_0 : (0 ≤ LIM) = True := eq_true (by decide)
@[simp] theorem lim_1 : (1 ≤ LIM) = True := eq_true (by decide)
@[simp] theorem lim_2 : (2 ≤ LIM) = True := eq_true (by decide)
@[simp] theorem lim_3 : (3 ≤ LIM) = True := eq_true (by decide)
@[simp] theorem lim_4 : (4 ≤ LIM) = True := eq_true (by decide)
@[simp] theorem lim_5 : (5 ≤ LIM) = True := eq_true (by decide)
@[simp] theorem lim_6 : (6 ≤ LIM) = True := eq_true (by decide)
@[simp] theorem lim_7 : (7 ≤ LIM) = True := eq_true (by decide)
@[simp] theorem lim_8 : (8 ≤ LIM) = True := eq_true (by decide)
@[simp] theorem lim_9 : (9 ≤ LIM) = True := eq_true (by decide)
@[simp] theorem lim_10 : (10 ≤ LIM) = True := eq_true (by decide)
@[simp] theorem lim_11 : (11 ≤ LIM) = True := eq_true (by decide)
@[simp] theorem lim_12 : (12 ≤ LIM) = True := eq_true (by decide)
@[simp] theorem lim_13 : (13 ≤ LIM) = True := eq_true (by decide)
@[simp] theorem lim_14 : (14 ≤ LIM) = True := eq_true (by decide)
@[simp] theorem lim_15 : (15 ≤ LIM) = True := eq_true (by decide)
/-! operators -/
@[simp] theorem wb_add {i j : Int} : Wp (binop .add (.int i) (.int j) h) Q = Q (.int (i + j)) h := rfl
@[simp] theorem wb_sub {i j : Int} : Wp (binop .sub (.int i) (.int j) h) Q = Q (.int (i - j)) h := rfl
@[simp] theorem wb_str {i j : List Nat} : Wp (binop .add (.str i) (.str j) h) Q = (i.length + j.length ≤ LIM ∧ Q (.str (i ++ j)) h) := by
  simp only [binop, Wp_ite, Wp_ok, Wp_no]
  by_cases q : i.length + j.length ≤ LIM <;> simp [q]
@[simp] theorem wb_tup {i j : List D} : Wp (binop .add (.tup i) (.tup j) h) Q = ((i ≠ [] ∧ i.length + j.length ≤ LIM) ∧ Q (.tup (i ++ j)) h) := by
  simp only [binop, Wp_ite, Wp_ok, Wp_no]
  split <;> rename_i q
  · exact propext ⟨fun z => ⟨q, z⟩, fun z => z.2⟩
  · exact propext ⟨fun z => z.elim, fun z => q z.1⟩
theorem wb_lst {a b : Nat} {i j : List D} (ha : h[a]? = some (.lst i)) (hb : h[b]? = some (.lst j)) : Wp (binop .add (.ref a) (.ref b) h) Q = (i.length + j.length ≤ LIM ∧ Q (.ref h.length) (h ++ [.lst (i ++ j)])) := by
  simp only [binop, ha, hb, Wp_ite, Wp_no, new, Wp_ok]
  by_cases q : i.length + j.length ≤ LIM <;> simp [q]
@[simp] theorem wb_mul {i j : Int} : Wp (binop .mul (.int i) (.int j) h) Q = (mulOk i j = true ∧ Q (.int (i * j)) h) := by
  simp only [binop, Wp_ite, Wp_ok, Wp_no]
  by_cases q : mulOk i j = true <;> simp [q]
@[simp] theorem wb_mulS {z : List Nat} {j : Int} : Wp (binop .mul (.str z) (.int j) h) Q = ((0 ≤ j ∧ j < 1000000 ∧ z.length * j.toNat ≤ LIM) ∧ Q (.str (List.replicate j.toNat z).flatten) h) := by
  simp only [binop, Wp_ite, Wp_ok, Wp_no]
  by_cases q : 0 ≤ j ∧ j < 1000000 ∧ z.length * j.toNat ≤ LIM <;> simp only [q, if_true, if_false, true_and, false_and, and_self]
@[simp] theorem wb_div {i j : Int} : Wp (binop .fdiv (.int i) (.int j) h) Q = (divOk j = true ∧ Q (.int (i / j)) h) := by
  simp only [binop, Wp_ite, Wp_ok, Wp_no]
  by_cases q : divOk j = true <;> simp [q]
@[simp] theorem wb_mod {i j : Int} : Wp (binop .mod (.int i) (.int j) h) Q = (0 < j ∧ Q (.int (i % j)) h) := by
  simp only [binop, Wp_ite, Wp_ok, Wp_no]
  by_cases q : 0 < j <;> simp [q]
@[simp] theorem wb_pow {i j : Int} : Wp (binop .pow (.int i) (.int j) h) Q = (powOk i j = true ∧ Q (.int (i ^ j.toNat)) h) := by
  simp only [binop, Wp_ite, Wp_ok, Wp_no]
  by_cases q : powOk i j = true <;> simp [q]
/-! built-ins -/
@[simp] theorem wf_lenS {z : List Nat} : Wp (builtin .len [.str z] h) Q = (z.length ≤ LIM ∧ Q (.int z.length) h) := by
  simp only [builtin, Wp_ite, Wp_ok, Wp_no]
  by_cases q : z.length ≤ LIM <;> simp [q]
@[simp] theorem wf_lenT {z : List D} : Wp (builtin .len [.tup z] h) Q = Q (.int z.length) h := rfl
@[simp] theorem wf_lenF {z : List D} : Wp (builtin .len [.fro z] h) Q = Q (.int z.length) h := rfl
theorem wf_lenL {a : Nat} {z : List D} (ha : h[a]? = some (.lst z)) : Wp (builtin .len [.ref a] h) Q = Q (.int z.length) h := by simp [builtin, ha]
@[simp] theorem wf_int {i : Int} : Wp (builtin .int [.int i] h) Q = Q (.int i) h := rfl
@[simp] theorem wf_intB {b : Bool} : Wp (builtin .int [.bl b] h) Q = Q (.int (if b then 1 else 0)) h := rfl
@[simp] theorem wf_abs {i : Int} : Wp (builtin .abs [.int i] h) Q = Q (.int (if i < 0 then -i else i)) h := rfl
@[simp] theorem wf_str {i : Int} : Wp (builtin .str [.int i] h) Q = (i.natAbs.log2 < 1920 ∧ Q (.str (strOfInt i)) h) := by
  simp only [builtin, Wp_ite, Wp_ok, Wp_no]
  by_cases q : i.natAbs.log2 < 1920 <;> simp [q]
@[simp] theorem wf_listS {z : List Nat} : Wp (builtin .list [.str z] h) Q = (z.length ≤ LIM ∧ Q (.ref h.length) (h ++ [.lst (z.map fun c => .str [c])])) := by
  simp only [builtin, Wp_ite, Wp_ok, Wp_no, new]
  by_cases q : z.length ≤ LIM <;> simp [q]
@[simp] theorem wf_listF {z : List D} : Wp (builtin .list [.fro z] h) Q = Q (.ref h.length) (h ++ [.lst z]) := rfl
@[simp] theorem wf_listT {z : List D} : Wp (builtin .list [.tup z] h) Q = Q (.ref h.length) (h ++ [.lst z]) := rfl
@[simp] theorem wf_tupF {z : List D} : Wp (builtin .tuple [.fro z] h) Q = Q (.tup z) h := rfl
@[simp] theorem wf_tupT {z : List D} : Wp (builtin .tuple [.tup z] h) Q = Q (.tup z) h := rfl
theorem wf_tupL {a : Nat} {z : List D} (ha : h[a]? = some (.lst z)) : Wp (builtin .tuple [.ref a] h) Q = Q (.tup z) h := by simp [builtin, seqOf, ha]
theorem blsD_map : ∀ bs : List Bool, blsD (bs.map .bl) = some bs
  | [] => rfl
  | b :: bs => by simp [blsD, blsD_map bs]
theorem wf_allL {a : Nat} {bs : List Bool} (ha : h[a]? = some (.lst (bs.map .bl))) : Wp (builtin .all [.ref a] h) Q = Q (.bl (bs.all id)) h := by
  simp [builtin, lstOf, ha, blsD_map]
/-! methods -/
theorem wm_app {a : Nat} {z : List D} {y : D} (ha : h[a]? = some (.lst z)) : Wp (bmethod .append (.ref a) [y] h) Q = (z.length < LIM ∧ Q .non (h.set a (.lst (z ++ [y])))) := by
  simp only [bmethod, ha, Wp_ite, Wp_ok, Wp_no]
  by_cases q : z.length < LIM <;> simp [q]
@[simp] theorem wm_split {z : List Nat} {c : Nat} : Wp (bmethod .split (.str z) [.str [c]] h) Q = ((z.length + 2 ≤ LIM ∧ c < 256) ∧ Q (.ref h.length) (h ++ [.lst ((splitC c z).map .str)])) := by
  simp only [bmethod, Wp_ite, Wp_ok, Wp_no, new]
  by_cases q : z.length + 2 ≤ LIM ∧ c < 256 <;> simp only [q, if_true, if_false, true_and, false_and, and_self]
@[simp] theorem wm_alnum {z : List Nat} : Wp (bmethod .isalnum (.str z) [] h) Q = ((z.length ≤ LIM ∧ z.all (fun c => decide (c < 128)) = true) ∧ Q (.bl (!z.isEmpty && z.all alnumC)) h) := by
  simp only [bmethod, Wp_ite, Wp_ok, Wp_no]
  by_cases q : z.length ≤ LIM ∧ z.all (fun c => decide (c < 128)) = true <;> simp only [q, if_true, if_false, true_and, false_and, and_self]
end
/-! == -/
theorem eq_str {h : Hx} {a b : List Nat} (ga : goodStr a = true) (gb : goodStr b = true) : eqD h (.str a) (.str b) = some (decide (a = b)) := by
  show (match (if goodStr a = true then some (P.str a) else none), (if goodStr b = true then some (P.str b) else none) with
    | some p, some q => some (P.eqv p q)
    | _, _ => none) = _
  rw [if_pos ga, if_pos gb]
  show some (a == b) = _
  congr 1
  rw [Bool.eq_iff_iff]; simp
@[simp] theorem eq_int {h : Hx} {a b : Int} : eqD h (.int a) (.int b) = some (decide (a = b)) := by
  show some (a == b) = _
  congr 1
theorem good_one {c : Nat} (g : goodSign c = true) : goodStr [c] = true := by
  unfold goodStr
  simp [g]
theorem good_app {a b : List Nat} (ga : a.all goodSign = true) (gb : b.all goodSign = true) : (a ++ b).all goodSign = true := by simp [ga, gb]
@[simp] theorem isIn_sign {h : Hx} {c : Nat} {z : List Nat} : isIn h (.str [c]) (.str z) = some (decide (c ∈ z)) := rfl
theorem eqFlat_str {a b : List Nat} : eqFlat (.str a) (.str b) = decide (b = a) := by
  show (a == b) = _
  rw [Bool.eq_iff_iff]
  simp only [beq_iff_eq, decide_eq_true_eq]
  exact eq_comm
@[simp] theorem isIn_t2 {h : Hx} {w a b : List Nat} : isIn h (.str w) (.tup [.str a, .str b]) = some (decide (w = a) || decide (w = b)) := by
  show (if (isFlat (.str w) && [D.str a, D.str b].all isFlat) = true then some ([D.str a, D.str b].any fun z => eqFlat z (.str w)) else none) = _
  rw [if_pos (show (isFlat (.str w) && [D.str a, D.str b].all isFlat) = true from rfl)]
  simp only [List.any_cons, List.any_nil, eqFlat_str, Bool.or_false]
@[simp] theorem isIn_t3 {h : Hx} {w a b c : List Nat} : isIn h (.str w) (.tup [.str a, .str b, .str c]) = some (decide (w = a) || (decide (w = b) || decide (w = c))) := by
  show (if (isFlat (.str w) && [D.str a, D.str b, D.str c].all isFlat) = true then some ([D.str a, D.str b, D.str c].any fun z => eqFlat z (.str w)) else none) = _
  rw [if_pos (show (isFlat (.str w) && [D.str a, D.str b, D.str c].all isFlat) = true from rfl)]
  simp only [List.any_cons, List.any_nil, eqFlat_str, Bool.or_false]
theorem isIn_ref {h : Hx} {w : List Nat} {a : Nat} {l : List (List Nat)} (ha : h[a]? = some (.lst (l.map .str))) : isIn h (.str w) (.ref a) = some (decide (w ∈ l)) := by
  simp only [isIn, ha]
  rw [if_pos (by simp [isFlat])]
  congr 1
  clear ha
  induction l with
  | nil => rfl
  | cons x l ih =>
    rw [List.map_cons, List.any_cons, ih, eqFlat_str, Bool.eq_iff_iff]
    simp
@[simp] theorem cm_lt {h : Hx} {i j : Int} : cmpop .lt (.int i) (.int j) h = some (decide (i < j)) := rfl
@[simp] theorem cm_le {h : Hx} {i j : Int} : cmpop .le (.int i) (.int j) h = some (decide (i ≤ j)) := rfl
@[simp] theorem cm_gt {h : Hx} {i j : Int} : cmpop .gt (.int i) (.int j) h = some (decide (j < i)) := rfl
@[simp] theorem cm_ge {h : Hx} {i j : Int} : cmpop .ge (.int i) (.int j) h = some (decide (j ≤ i)) := rfl
@[simp] theorem cm_eq {h : Hx} {x y : D} : cmpop .eq x y h = eqD h x y := rfl
@[simp] theorem cm_ne {h : Hx} {x y : D} : cmpop .ne x y h = (eqD h x y).map (!·) := rfl
@[simp] theorem cm_in {h : Hx} {x y : D} : cmpop .inn x y h = isIn h x y := rfl
@[simp] theorem cm_nin {h : Hx} {x y : D} : cmpop .nin x y h = (isIn h x y).map (!·) := rfl
@[simp] theorem get_tup {h : Hx} {xs : List D} {i : Int} : getIx (.tup xs) (.int i) h = atD xs i := rfl
@[simp] theorem get_fro {h : Hx} {xs : List D} {i : Int} : getIx (.fro xs) (.int i) h = atD xs i := rfl
theorem get_lst {h : Hx} {a : Nat} {xs : List D} {i : Int} (ha : h[a]? = some (.lst xs)) : getIx (.ref a) (.int i) h = atD xs i := by simp only [getIx, ha]
theorem get_str {h : Hx} {z : List Nat} {i : Int} (hz : z.length ≤ LIM) : getIx (.str z) (.int i) h = (atD z i).map fun c => .str [c] := by simp only [getIx, hz, if_true]
theorem set_lst {h : Hx} {a j : Nat} {xs : List D} {i : Int} {v : D} (ha : h[a]? = some (.lst xs)) (hj : ixOf xs.length i = some j) : setIx (.ref a) (.int i) v h = some (h.set a (.lst (xs.set j v))) := by simp only [setIx, ha, hj, Option.map_some]
/-! a heap's list behind others -/
@[simp] theorem get_app1 {h : Hx} {o : MO} : (h ++ [o])[h.length]? = some o := by simp
theorem get_app {h h' : Hx} {a : Nat} {o : MO} (e : h[a]? = some o) : (h ++ h')[a]? = some o := by
  rw [List.getElem?_append_left (List.getElem?_eq_some_iff.mp e).1]; exact e
/-! frames: all but what stands at A is as it was -/
def Fr (A : List Nat) (h h' : Hx) : Prop := h.length ≤ h'.length ∧ ∀ i, i < h.length → i ∉ A → h'[i]? = h[i]?
theorem Fr.refl {A : List Nat} {h : Hx} : Fr A h h := ⟨Nat.le_refl _, fun _ _ _ => rfl⟩
theorem Fr.trans {A : List Nat} {h h' h'' : Hx} (a : Fr A h h') (b : Fr A h' h'') : Fr A h h'' := ⟨Nat.le_trans a.1 b.1, fun i hi hn => by rw [b.2 i (Nat.lt_of_lt_of_le hi a.1) hn, a.2 i hi hn]⟩
theorem Fr.wide {A B : List Nat} {h h' : Hx} (a : Fr A h h') (s : ∀ x ∈ A, x ∈ B) : Fr B h h' := ⟨a.1, fun i hi hn => a.2 i hi fun z => hn (s i z)⟩
theorem Fr.app {A : List Nat} {h h' l : Hx} (a : Fr A h h') : Fr A h (h' ++ l) := a.trans ⟨by simp, fun i hi _ => List.getElem?_append_left hi⟩
theorem Fr.set {A : List Nat} {h h' : Hx} {a : Nat} {o : MO} (f : Fr A h h') (ha : a ∈ A) : Fr A h (h'.set a o) := f.trans ⟨by simp, fun i _ hn => List.getElem?_set_ne (by rintro rfl; exact hn ha)⟩
/-- what is made since may change -/
theorem Fr.setNew {A : List Nat} {h h' : Hx} {a : Nat} {o : MO} (f : Fr A h h') (ha : h.length ≤ a) : Fr A h (h'.set a o) := ⟨by simpa using f.1, fun i hi hn => by rw [List.getElem?_set_ne (by omega)]; exact f.2 i hi hn⟩
theorem Fr.get {A : List Nat} {h h' : Hx} {a : Nat} {o : MO} (f : Fr A h h') (e : h[a]? = some o) (hn : a ∉ A) : h'[a]? = some o := by rw [f.2 a (List.getElem?_eq_some_iff.mp e).1 hn]; exact e
/-- new from there on -/
theorem Fr.over {A B : List Nat} {h h' h'' : Hx} (a : Fr A h h') (b : Fr B h' h'') (s : ∀ x ∈ B, x ∈ A ∨ h.length ≤ x) : Fr A h h'' := ⟨Nat.le_trans a.1 b.1, fun i hi hn => by
  rw [b.2 i (Nat.lt_of_lt_of_le hi a.1) fun z => (s i z).elim hn (fun q => by omega), a.2 i hi hn]⟩
end Ev
end

section
set_option autoImplicit false
set_option maxRecDepth 100000
namespace K44
open Ev
def z0 : List Nat := [97, 98, 99, 100, 101, 102, 103, 104, 105, 106, 107, 108, 109, 110, 111, 112, 113, 114, 115, 116, 117, 118, 119, 120, 121, 122, 65, 66, 67, 68, 69, 70, 71, 72, 73, 74, 75, 76, 77, 78, 79, 80, 81, 82, 83, 84, 85, 86, 87, 88, 89, 90]
def z1 : List Nat := [97, 98, 99, 100, 101, 102, 103, 104, 105, 106, 107, 108, 109, 110, 111, 112, 113, 114, 115, 116, 117, 118, 119, 120, 121, 122, 65, 66, 67, 68, 69, 70, 71, 72, 73, 74, 75, 76, 77, 78, 79, 80, 81, 82, 83, 84, 85, 86, 87, 88, 89, 90, 48, 49, 50, 51, 52, 53, 54, 55, 56, 57, 95]
def z2 : List Nat := [97, 110, 100, 32, 98, 111, 111, 108, 32, 99, 111, 110, 115, 32, 101, 108, 115, 101, 32, 102, 97, 114, 101, 115, 32, 102, 117, 110, 32, 105, 102, 32, 105, 110, 32, 105, 110, 116, 32, 105, 110, 116, 111, 32, 108, 101, 116, 32, 108, 105, 115, 116, 32, 109, 97, 116, 99, 104, 32, 110, 105, 108, 32, 110, 111, 32, 110, 111, 116, 32, 111, 114, 32, 112, 97, 105, 114, 32, 112, 97, 105, 114, 115, 32, 112, 97, 121, 32, 115, 112, 108, 105, 116, 32, 116, 104, 101, 110, 32, 121, 101, 115]
def c_DIGITS : D := .str [48, 49, 50, 51, 52, 53, 54, 55, 56, 57]
def c_LETTERS : D := .str z0
def c_SIGNS : D := .str z1
def c_OWN_WORDS : D := .tup [.str [97, 110, 100], .str [98, 111, 111, 108], .str [99, 111, 110, 115], .str [101, 108, 115, 101], .str [102, 97, 114, 101, 115], .str [102, 117, 110], .str [105, 102], .str [105, 110], .str [105, 110, 116], .str [105, 110, 116, 111], .str [108, 101, 116], .str [108, 105, 115, 116], .str [109, 97, 116, 99, 104], .str [110, 105, 108], .str [110, 111], .str [110, 111, 116], .str [111, 114], .str [112, 97, 105, 114], .str [112, 97, 105, 114, 115], .str [112, 97, 121], .str [115, 112, 108, 105, 116], .str [116, 104, 101, 110], .str [121, 101, 115]]
def c_TWO_SIGNS : D := .tup [.str [60, 61], .str [45, 62]]
def c_ONE_SIGNS : D := .str [40, 41, 123, 125, 59, 58, 44, 61, 60, 43, 45, 42, 47, 124]
def c_LONGEST_WORD : D := .int (12)
/-- 0 line, 1 at, 2 signs, 3 end -/
def b_row_end : Sl := (.cons (.asg (.nm 3) (.var 1))
  (.cons (.whl (.and_ (.cmp .lt (.var 3) (.bf .len (.cons (.var 0) .nil))) (.cmp .inn (.ix (.var 0) (.var 3)) (.var 2))) (.cons (.aug 3 .add (.int 1))
  .nil))
  (.cons (.ret (.var 3))
  .nil)))
def f_row_end : Fn := ⟨3, 4, b_row_end⟩
/-- 0 line, 1 at, 2 letters -/
def b_letter_word : Sl := (.cons (.asg (.nm 2) (.sl (.var 0) (.some (.var 1)) (.some (.call 0 (.cons (.var 0) (.cons (.var 1) (.cons (.cst c_SIGNS) .nil)))))))
  (.cons (.iff (.cmp .gt (.bf .len (.cons (.var 2) .nil)) (.cst c_LONGEST_WORD)) (.cons (.ret (.tup (.cons (.str [98, 97, 100]) (.cons (.str [119, 111, 114, 100]) .nil))))
  .nil) .nil)
  (.cons (.ret (.tup (.cons (.ife (.cmp .inn (.var 2) (.cst c_OWN_WORDS)) (.str [111, 119, 110]) (.str [110, 97, 109, 101])) (.cons (.var 2) .nil))))
  .nil)))
def f_letter_word : Fn := ⟨2, 3, b_letter_word⟩
/-- 0 line, 1 at, 2 figures -/
def b_figure_word : Sl := (.cons (.asg (.nm 2) (.sl (.var 0) (.some (.var 1)) (.some (.call 0 (.cons (.var 0) (.cons (.var 1) (.cons (.cst c_DIGITS) .nil)))))))
  (.cons (.iff (.or_ (.cmp .gt (.bf .len (.cons (.var 2) .nil)) (.cst c_LONGEST_WORD)) (.and_ (.cmp .gt (.bf .len (.cons (.var 2) .nil)) (.int 1)) (.cmp .eq (.ix (.var 2) (.int 0)) (.str [48])))) (.cons (.ret (.tup (.cons (.str [98, 97, 100]) (.cons (.str [110, 117, 109, 98, 101, 114]) .nil))))
  .nil) .nil)
  (.cons (.ret (.tup (.cons (.str [110, 117, 109, 98, 101, 114]) (.cons (.var 2) .nil))))
  .nil)))
def f_figure_word : Fn := ⟨2, 3, b_figure_word⟩
/-- 0 line, 1 at -/
def b_word_from : Sl := (.cons (.iff (.cmp .inn (.ix (.var 0) (.var 1)) (.cst c_LETTERS)) (.cons (.ret (.call 1 (.cons (.var 0) (.cons (.var 1) .nil))))
  .nil) .nil)
  (.cons (.iff (.cmp .inn (.ix (.var 0) (.var 1)) (.cst c_DIGITS)) (.cons (.ret (.call 2 (.cons (.var 0) (.cons (.var 1) .nil))))
  .nil) .nil)
  (.cons (.iff (.cmp .inn (.sl (.var 0) (.some (.var 1)) (.some (.bin .add (.var 1) (.int 2)))) (.cst c_TWO_SIGNS)) (.cons (.ret (.tup (.cons (.str [115, 105, 103, 110]) (.cons (.sl (.var 0) (.some (.var 1)) (.some (.bin .add (.var 1) (.int 2)))) .nil))))
  .nil) .nil)
  (.cons (.iff (.cmp .inn (.ix (.var 0) (.var 1)) (.cst c_ONE_SIGNS)) (.cons (.ret (.tup (.cons (.str [115, 105, 103, 110]) (.cons (.ix (.var 0) (.var 1)) .nil))))
  .nil) .nil)
  (.cons (.ret (.tup (.cons (.str [98, 97, 100]) (.cons (.str [115, 105, 103, 110]) .nil))))
  .nil)))))
def f_word_from : Fn := ⟨2, 2, b_word_from⟩
/-- 0 text, 1 found, 2 lines, 3 number, 4 line, 5 at, 6 sort, 7 letters -/
def b_words_in : Sl := (.cons (.asg (.nm 1) (.lst .nil))
  (.cons (.asg (.nm 2) (.bm .split (.var 0) (.cons (.str [10]) .nil)))
  (.cons (.for_ (.nm 3) (.rng1 (.bf .len (.cons (.var 2) .nil))) (.cons (.asg (.nm 4) (.ix (.var 2) (.var 3)))
  (.cons (.asg (.nm 5) (.int 0))
  (.cons (.whl (.and_ (.cmp .lt (.var 5) (.bf .len (.cons (.var 4) .nil))) (.cmp .ne (.ix (.var 4) (.var 5)) (.str [35]))) (.cons (.iff (.cmp .eq (.ix (.var 4) (.var 5)) (.str [32])) (.cons (.aug 5 .add (.int 1))
  (.cons .cont
  .nil)) .nil)
  (.cons (.asg (.tup (.cons (.nm 6) (.cons (.nm 7) .nil))) (.call 3 (.cons (.var 4) (.cons (.var 5) .nil))))
  (.cons (.expr (.bm .append (.var 1) (.cons (.tup (.cons (.var 6) (.cons (.var 7) (.cons (.var 3) (.cons (.var 5) .nil))))) .nil)))
  (.cons (.iff (.cmp .eq (.var 6) (.str [98, 97, 100])) (.cons (.ret (.var 1))
  .nil) .nil)
  (.cons (.aug 5 .add (.bf .len (.cons (.var 7) .nil)))
  .nil))))))
  .nil))))
  (.cons (.expr (.bm .append (.var 1) (.cons (.tup (.cons (.str [101, 110, 100]) (.cons (.str []) (.cons (.bin .sub (.bf .len (.cons (.var 2) .nil)) (.int 1)) (.cons (.bf .len (.cons (.ix (.var 2) (.neg (.int 1))) .nil)) .nil))))) .nil)))
  (.cons (.ret (.var 1))
  .nil)))))
def f_words_in : Fn := ⟨1, 8, b_words_in⟩
/-- 0 text -/
def b_words_of : Sl := (.cons (.iff (.not_ (.isi (.var 0) [.str])) (.cons (.ret (.tup (.cons (.tup (.cons (.str [98, 97, 100]) (.cons (.str [116, 101, 120, 116]) (.cons (.int 0) (.cons (.int 0) .nil))))) .nil)))
  .nil) .nil)
  (.cons (.ret (.bf .tuple (.cons (.call 4 (.cons (.var 0) .nil)) .nil)))
  .nil))
def f_words_of : Fn := ⟨1, 1, b_words_of⟩
/-- 0 script, 1 fold, 2 cell -/
def b__law_pen : Sl := (.cons (.asg (.nm 1) (.int 0))
  (.cons (.for_ (.nm 2) (.seq (.var 0)) (.cons (.asg (.nm 1) (.bin .mod (.bf .int (.cons (.bin .add (.bin .mul (.var 1) (.int 59)) (.var 2)) .nil)) (.int 1000000009)))
  .nil))
  (.cons (.ret (.dct (.cons (.str [99, 101, 108, 108, 115]) (.bf .list (.cons (.var 0) .nil)) (.cons (.str [97, 116]) (.int 0) (.cons (.str [100, 105, 103, 105, 116, 115]) (.int 0) (.cons (.str [99, 111, 117, 110, 116]) (.int 0) (.cons (.str [102, 111, 108, 100]) (.var 1) .nil)))))))
  .nil)))
def f__law_pen : Fn := ⟨1, 3, b__law_pen⟩
/-- 0 pen, 1 many, 2 cell, 3 digit, 4 blend -/
def b__law_draw : Sl := (.cons (.asg (.ix (.var 0) (.str [99, 111, 117, 110, 116])) (.bin .add (.ix (.var 0) (.str [99, 111, 117, 110, 116])) (.int 1)))
  (.cons (.iff (.and_ (.cmp .eq (.ix (.var 0) (.str [100, 105, 103, 105, 116, 115])) (.int 0)) (.cmp .lt (.ix (.var 0) (.str [97, 116])) (.bf .len (.cons (.ix (.var 0) (.str [99, 101, 108, 108, 115])) .nil)))) (.cons (.asg (.nm 2) (.ix (.ix (.var 0) (.str [99, 101, 108, 108, 115])) (.ix (.var 0) (.str [97, 116]))))
  (.cons (.asg (.ix (.var 0) (.str [97, 116])) (.bin .add (.ix (.var 0) (.str [97, 116])) (.int 1)))
  (.cons (.iff (.cmp .ge (.var 2) (.bin .pow (.int 10) (.int 18))) (.cons (.asg (.ix (.var 0) (.str [100, 105, 103, 105, 116, 115])) (.bin .sub (.var 2) (.bin .pow (.int 10) (.int 18))))
  .nil) (.cons (.asg (.ix (.var 0) (.str [102, 111, 108, 100])) (.bin .mod (.bf .int (.cons (.bin .add (.bin .mul (.ix (.var 0) (.str [102, 111, 108, 100])) (.int 48271)) (.var 2)) .nil)) (.int 2147483563)))
  .nil))
  .nil))) .nil)
  (.cons (.iff (.cmp .gt (.ix (.var 0) (.str [100, 105, 103, 105, 116, 115])) (.int 0)) (.cons (.asg (.nm 3) (.bin .mod (.bf .int (.cons (.ix (.var 0) (.str [100, 105, 103, 105, 116, 115])) .nil)) (.var 1)))
  (.cons (.asg (.ix (.var 0) (.str [100, 105, 103, 105, 116, 115])) (.bin .fdiv (.ix (.var 0) (.str [100, 105, 103, 105, 116, 115])) (.var 1)))
  (.cons (.ret (.var 3))
  .nil))) .nil)
  (.cons (.asg (.nm 4) (.bin .add (.bin .add (.ix (.var 0) (.str [102, 111, 108, 100])) (.bin .mul (.ix (.var 0) (.str [99, 111, 117, 110, 116])) (.int 8513))) (.int 61)))
  (.cons (.ret (.bin .mod (.bin .fdiv (.bf .int (.cons (.bin .mod (.bin .pow (.var 4) (.int 19)) (.int 2305843009213693951)) .nil)) (.int 256)) (.var 1)))
  .nil)))))
def f__law_draw : Fn := ⟨2, 5, b__law_draw⟩
/-- 0 pen, 1 some -/
def b__law_pick : Sl := (.cons (.ret (.ix (.var 1) (.call 7 (.cons (.var 0) (.cons (.bf .len (.cons (.var 1) .nil)) .nil)))))
  .nil)
def f__law_pick : Fn := ⟨2, 2, b__law_pick⟩
/-- 0 thing -/
def b__law_is_int : Sl := (.cons (.ret (.and_ (.isi (.var 0) [.int]) (.not_ (.isi (.var 0) [.bool]))))
  .nil)
def f__law_is_int : Fn := ⟨1, 1, b__law_is_int⟩
/-- 0 pen, 1 some, 2 first, 3 sort -/
def b__law_fares : Sl := (.cons (.asg (.nm 1) (.lst (.cons (.tup (.cons (.int 0) (.cons (.int 1) .nil))) (.cons (.tup (.cons (.int 0) (.cons (.int 1) .nil))) (.cons (.tup (.cons (.int 1) (.cons (.int 1) .nil))) (.cons (.tup (.cons (.int 1) (.cons (.int 2) .nil))) (.cons (.tup (.cons (.int 2) (.cons (.int 1) .nil))) .nil)))))))
  (.cons (.asg (.nm 2) (.tup (.cons (.str [99, 97, 108, 108]) (.cons (.call 8 (.cons (.var 0) (.cons (.lst (.cons (.tup (.cons (.int 1) (.cons (.int 1) .nil))) (.cons (.tup (.cons (.int 1) (.cons (.int 1) .nil))) (.cons (.tup (.cons (.int 2) (.cons (.int 1) .nil))) (.cons (.tup (.cons (.int 0) (.cons (.int 1) .nil))) .nil))))) .nil))) .nil))))
  (.cons (.ret (.bin .add (.tup (.cons (.var 2) .nil)) (.bf .tuple (.cons (.lc [3] (.nm 3) (.seq (.tup (.cons (.str [99, 111, 110, 115]) (.cons (.str [109, 97, 116, 99, 104]) (.cons (.str [111, 112]) (.cons (.str [108, 101, 116]) (.cons (.str [112, 97, 105, 114]) (.cons (.str [105, 102]) .nil)))))))) .nil (.tup (.cons (.var 3) (.cons (.call 8 (.cons (.var 0) (.cons (.var 1) .nil))) .nil)))) .nil))))
  .nil)))
def f__law_fares : Fn := ⟨1, 4, b__law_fares⟩
/-- 0 room -/
def b__law_new_name : Sl := (.cons (.asg (.ix (.var 0) (.int 1)) (.bin .add (.ix (.var 0) (.int 1)) (.int 1)))
  (.cons (.ret (.bin .add (.str [118]) (.bf .str (.cons (.ix (.var 0) (.int 1)) .nil))))
  .nil))
def f__law_new_name : Fn := ⟨1, 1, b__law_new_name⟩
/-- 0 scope, 1 kind, 2 name, 3 own -/
def b__law_of_kind : Sl := (.cons (.ret (.lc [2, 3] (.tup (.cons (.nm 2) (.cons (.nm 3) .nil))) (.seq (.var 0)) (.cons (.cmp .eq (.var 3) (.var 1)) .nil) (.tup (.cons (.str [118, 97, 114]) (.cons (.var 2) .nil)))))
  .nil)
def f__law_of_kind : Fn := ⟨2, 4, b__law_of_kind⟩
/-- 0 pen -/
def b__law_whole_number : Sl := (.cons (.ret (.tup (.cons (.str [105, 110, 116]) (.cons (.call 8 (.cons (.var 0) (.cons (.lst (.cons (.int 0) (.cons (.int 1) (.cons (.int 2) (.cons (.int 3) (.cons (.neg (.int 1)) (.cons (.int 5) (.cons (.neg (.int 2)) .nil)))))))) .nil))) .nil))))
  .nil)
def f__law_whole_number : Fn := ⟨1, 1, b__law_whole_number⟩
/-- 0 pen, 1 kind, 2 scope, 3 known -/
def b__law_leaf : Sl := (.cons (.asg (.nm 3) (.call 12 (.cons (.var 2) (.cons (.var 1) .nil))))
  (.cons (.iff (.and_ (.cmp .ne (.var 3) (.lst .nil)) (.cmp .gt (.call 7 (.cons (.var 0) (.cons (.int 4) .nil))) (.int 0))) (.cons (.ret (.call 8 (.cons (.var 0) (.cons (.var 3) .nil))))
  .nil) .nil)
  (.cons (.iff (.cmp .eq (.var 1) (.tup (.cons (.str [105, 110, 116]) .nil))) (.cons (.ret (.call 13 (.cons (.var 0) .nil)))
  .nil) .nil)
  (.cons (.iff (.cmp .eq (.var 1) (.tup (.cons (.str [98, 111, 111, 108]) .nil))) (.cons (.ret (.call 8 (.cons (.var 0) (.cons (.lst (.cons (.tup (.cons (.str [121, 101, 115]) .nil)) (.cons (.tup (.cons (.str [110, 111]) .nil)) .nil))) .nil))))
  .nil) .nil)
  (.cons (.iff (.cmp .eq (.ix (.var 1) (.int 0)) (.str [108, 105, 115, 116])) (.cons (.ret (.tup (.cons (.str [110, 105, 108]) (.cons (.ix (.var 1) (.int 1)) .nil))))
  .nil) .nil)
  (.cons (.ret (.tup (.cons (.str [112, 97, 105, 114, 115]) (.cons (.call 14 (.cons (.var 0) (.cons (.ix (.var 1) (.int 1)) (.cons (.var 2) .nil)))) (.cons (.call 14 (.cons (.var 0) (.cons (.ix (.var 1) (.int 2)) (.cons (.var 2) .nil)))) .nil)))))
  .nil))))))
def f__law_leaf : Fn := ⟨3, 4, b__law_leaf⟩
/-- 0 pen -/
def b__law_small_kind : Sl := (.cons (.ret (.call 8 (.cons (.var 0) (.cons (.lst (.cons (.tup (.cons (.str [105, 110, 116]) .nil)) (.cons (.tup (.cons (.str [105, 110, 116]) .nil)) (.cons (.tup (.cons (.str [98, 111, 111, 108]) .nil)) (.cons (.tup (.cons (.str [108, 105, 115, 116]) (.cons (.tup (.cons (.str [105, 110, 116]) .nil)) .nil))) (.cons (.tup (.cons (.str [112, 97, 105, 114]) (.cons (.tup (.cons (.str [105, 110, 116]) .nil)) (.cons (.tup (.cons (.str [105, 110, 116]) .nil)) .nil)))) .nil)))))) .nil))))
  .nil)
def f__law_small_kind : Fn := ⟨1, 1, b__law_small_kind⟩
/-- 0 pen, 1 kind, 2 scope, 3 functions, 4 room, 5 depth, 6 way, 7 own, 8 first, 9 name, 10 parts, 11 able, 12 kinds, 13 told, 14 row -/
def b__law_expr : Sl := (.cons (.asg (.ix (.var 4) (.int 0)) (.bin .sub (.ix (.var 4) (.int 0)) (.int 1)))
  (.cons (.iff (.or_ (.cmp .eq (.var 5) (.int 0)) (.cmp .lt (.ix (.var 4) (.int 0)) (.int 0))) (.cons (.ret (.call 14 (.cons (.var 0) (.cons (.var 1) (.cons (.var 2) .nil)))))
  .nil) .nil)
  (.cons (.asg (.nm 6) (.call 7 (.cons (.var 0) (.cons (.int 12) .nil))))
  (.cons (.iff (.cmp .lt (.var 6) (.int 3)) (.cons (.ret (.call 14 (.cons (.var 0) (.cons (.var 1) (.cons (.var 2) .nil)))))
  .nil) .nil)
  (.cons (.iff (.cmp .eq (.var 6) (.int 3)) (.cons (.asg (.nm 7) (.call 15 (.cons (.var 0) .nil)))
  (.cons (.par [8, 9] (.cons (.call 16 (.cons (.var 0) (.cons (.var 7) (.cons (.var 2) (.cons (.var 3) (.cons (.var 4) (.cons (.bin .sub (.var 5) (.int 1)) .nil))))))) (.cons (.call 11 (.cons (.var 4) .nil)) .nil)))
  (.cons (.ret (.tup (.cons (.str [108, 101, 116]) (.cons (.var 9) (.cons (.var 8) (.cons (.call 16 (.cons (.var 0) (.cons (.var 1) (.cons (.bin .add (.var 2) (.tup (.cons (.tup (.cons (.var 9) (.cons (.var 7) .nil))) .nil))) (.cons (.var 3) (.cons (.var 4) (.cons (.bin .sub (.var 5) (.int 1)) .nil))))))) .nil))))))
  .nil))) .nil)
  (.cons (.iff (.cmp .eq (.var 6) (.int 4)) (.cons (.asg (.nm 10) (.lc [7] (.nm 7) (.seq (.tup (.cons (.tup (.cons (.str [98, 111, 111, 108]) .nil)) (.cons (.var 1) (.cons (.var 1) .nil))))) .nil (.call 16 (.cons (.var 0) (.cons (.var 7) (.cons (.var 2) (.cons (.var 3) (.cons (.var 4) (.cons (.bin .sub (.var 5) (.int 1)) .nil)))))))))
  (.cons (.ret (.tup (.cons (.str [105, 102]) (.cons (.ix (.var 10) (.int 0)) (.cons (.ix (.var 10) (.int 1)) (.cons (.ix (.var 10) (.int 2)) .nil))))))
  .nil)) .nil)
  (.cons (.iff (.cmp .eq (.var 6) (.int 5)) (.cons (.ret (.tup (.cons (.str [112, 97, 121]) (.cons (.call 8 (.cons (.var 0) (.cons (.lst (.cons (.tup (.cons (.int 1) (.cons (.int 1) .nil))) (.cons (.tup (.cons (.int 1) (.cons (.int 2) .nil))) (.cons (.tup (.cons (.neg (.int 1)) (.cons (.int 1) .nil))) (.cons (.tup (.cons (.int 0) (.cons (.int 1) .nil))) (.cons (.tup (.cons (.int 2) (.cons (.int 1) .nil))) .nil)))))) .nil))) (.cons (.call 16 (.cons (.var 0) (.cons (.var 1) (.cons (.var 2) (.cons (.var 3) (.cons (.var 4) (.cons (.bin .sub (.var 5) (.int 1)) .nil))))))) .nil)))))
  .nil) .nil)
  (.cons (.iff (.cmp .inn (.var 6) (.tup (.cons (.int 6) (.cons (.int 7) .nil)))) (.cons (.ret (.call 17 (.cons (.var 0) (.cons (.var 1) (.cons (.var 2) (.cons (.var 3) (.cons (.var 4) (.cons (.var 5) .nil))))))))
  .nil) .nil)
  (.cons (.iff (.cmp .eq (.var 6) (.int 8)) (.cons (.asg (.nm 11) (.lc [14] (.nm 14) (.seq (.var 3)) (.cons (.cmp .eq (.ix (.var 14) (.int 2)) (.var 1)) .nil) (.var 14)))
  (.cons (.iff (.cmp .ne (.var 11) (.lst .nil)) (.cons (.asg (.tup (.cons (.nm 9) (.cons (.nm 12) (.cons (.nm 13) .nil)))) (.call 8 (.cons (.var 0) (.cons (.var 11) .nil))))
  (.cons (.ret (.tup (.cons (.str [99, 97, 108, 108]) (.cons (.var 9) (.cons (.bf .tuple (.cons (.lc [7] (.nm 7) (.seq (.var 12)) .nil (.call 16 (.cons (.var 0) (.cons (.var 7) (.cons (.var 2) (.cons (.var 3) (.cons (.var 4) (.cons (.bin .sub (.var 5) (.int 1)) .nil)))))))) .nil)) .nil)))))
  .nil)) .nil)
  .nil)) .nil)
  (.cons (.ret (.call 18 (.cons (.var 0) (.cons (.var 1) (.cons (.var 2) (.cons (.var 3) (.cons (.var 4) (.cons (.var 5) .nil))))))))
  .nil))))))))))
def f__law_expr : Fn := ⟨6, 15, b__law_expr⟩
/-- 0 pen, 1 kind, 2 scope, 3 functions, 4 room, 5 depth, 6 lists, 7 name, 8 own, 9 one, 10 two, 11 first, 12 row -/
def b__law_taken_apart : Sl := (.cons (.asg (.nm 6) (.lc [12] (.nm 12) (.seq (.var 2)) (.cons (.cmp .inn (.ix (.ix (.var 12) (.int 1)) (.int 0)) (.tup (.cons (.str [108, 105, 115, 116]) (.cons (.str [112, 97, 105, 114]) .nil)))) .nil) (.var 12)))
  (.cons (.iff (.cmp .eq (.var 6) (.lst .nil)) (.cons (.ret (.call 14 (.cons (.var 0) (.cons (.var 1) (.cons (.var 2) .nil)))))
  .nil) .nil)
  (.cons (.asg (.tup (.cons (.nm 7) (.cons (.nm 8) .nil))) (.call 8 (.cons (.var 0) (.cons (.var 6) .nil))))
  (.cons (.par [9, 10] (.cons (.call 11 (.cons (.var 4) .nil)) (.cons (.call 11 (.cons (.var 4) .nil)) .nil)))
  (.cons (.iff (.cmp .eq (.ix (.var 8) (.int 0)) (.str [112, 97, 105, 114])) (.cons (.ret (.tup (.cons (.str [115, 112, 108, 105, 116]) (.cons (.tup (.cons (.str [118, 97, 114]) (.cons (.var 7) .nil))) (.cons (.var 9) (.cons (.var 10) (.cons (.call 16 (.cons (.var 0) (.cons (.var 1) (.cons (.bin .add (.var 2) (.tup (.cons (.tup (.cons (.var 9) (.cons (.ix (.var 8) (.int 1)) .nil))) (.cons (.tup (.cons (.var 10) (.cons (.ix (.var 8) (.int 2)) .nil))) .nil)))) (.cons (.var 3) (.cons (.var 4) (.cons (.bin .sub (.var 5) (.int 1)) .nil))))))) .nil)))))))
  .nil) .nil)
  (.cons (.asg (.nm 11) (.call 16 (.cons (.var 0) (.cons (.var 1) (.cons (.var 2) (.cons (.var 3) (.cons (.var 4) (.cons (.bin .sub (.var 5) (.int 1)) .nil))))))))
  (.cons (.ret (.tup (.cons (.str [109, 97, 116, 99, 104]) (.cons (.tup (.cons (.str [118, 97, 114]) (.cons (.var 7) .nil))) (.cons (.var 11) (.cons (.var 9) (.cons (.var 10) (.cons (.call 16 (.cons (.var 0) (.cons (.var 1) (.cons (.bin .add (.var 2) (.tup (.cons (.tup (.cons (.var 9) (.cons (.ix (.var 8) (.int 1)) .nil))) (.cons (.tup (.cons (.var 10) (.cons (.var 8) .nil))) .nil)))) (.cons (.var 3) (.cons (.var 4) (.cons (.bin .sub (.var 5) (.int 1)) .nil))))))) .nil))))))))
  .nil)))))))
def f__law_taken_apart : Fn := ⟨6, 13, b__law_taken_apart⟩
/-- 0 pen, 1 kind, 2 scope, 3 functions, 4 room, 5 depth, 6 sign, 7 first, 8 own -/
def b__law_put_together : Sl := (.cons (.iff (.cmp .eq (.var 1) (.tup (.cons (.str [105, 110, 116]) .nil))) (.cons (.asg (.nm 6) (.call 8 (.cons (.var 0) (.cons (.lst (.cons (.str [43]) (.cons (.str [45]) (.cons (.str [43]) (.cons (.str [42]) .nil))))) .nil))))
  (.cons (.asg (.nm 7) (.call 16 (.cons (.var 0) (.cons (.var 1) (.cons (.var 2) (.cons (.var 3) (.cons (.var 4) (.cons (.bin .sub (.var 5) (.int 1)) .nil))))))))
  (.cons (.ret (.tup (.cons (.str [111, 112]) (.cons (.var 6) (.cons (.var 7) (.cons (.ife (.cmp .eq (.var 6) (.str [42])) (.call 14 (.cons (.var 0) (.cons (.var 1) (.cons (.var 2) .nil)))) (.call 16 (.cons (.var 0) (.cons (.var 1) (.cons (.var 2) (.cons (.var 3) (.cons (.var 4) (.cons (.bin .sub (.var 5) (.int 1)) .nil)))))))) .nil))))))
  .nil))) .nil)
  (.cons (.iff (.cmp .eq (.var 1) (.tup (.cons (.str [98, 111, 111, 108]) .nil))) (.cons (.iff (.cmp .eq (.call 7 (.cons (.var 0) (.cons (.int 3) .nil))) (.int 0)) (.cons (.ret (.tup (.cons (.str [110, 111, 116]) (.cons (.call 16 (.cons (.var 0) (.cons (.var 1) (.cons (.var 2) (.cons (.var 3) (.cons (.var 4) (.cons (.bin .sub (.var 5) (.int 1)) .nil))))))) .nil))))
  .nil) .nil)
  (.cons (.asg (.nm 6) (.call 8 (.cons (.var 0) (.cons (.lst (.cons (.str [97, 110, 100]) (.cons (.str [111, 114]) (.cons (.str [60]) (.cons (.str [60, 61]) (.cons (.str [61]) (.cons (.str [60]) .nil))))))) .nil))))
  (.cons (.asg (.nm 8) (.ife (.cmp .inn (.var 6) (.tup (.cons (.str [97, 110, 100]) (.cons (.str [111, 114]) .nil)))) (.var 1) (.tup (.cons (.str [105, 110, 116]) .nil))))
  (.cons (.ret (.tup (.cons (.str [111, 112]) (.cons (.var 6) (.cons (.call 16 (.cons (.var 0) (.cons (.var 8) (.cons (.var 2) (.cons (.var 3) (.cons (.var 4) (.cons (.bin .sub (.var 5) (.int 1)) .nil))))))) (.cons (.call 16 (.cons (.var 0) (.cons (.var 8) (.cons (.var 2) (.cons (.var 3) (.cons (.var 4) (.cons (.bin .sub (.var 5) (.int 1)) .nil))))))) .nil))))))
  .nil)))) .nil)
  (.cons (.iff (.cmp .eq (.ix (.var 1) (.int 0)) (.str [108, 105, 115, 116])) (.cons (.ret (.tup (.cons (.str [99, 111, 110, 115]) (.cons (.call 16 (.cons (.var 0) (.cons (.ix (.var 1) (.int 1)) (.cons (.var 2) (.cons (.var 3) (.cons (.var 4) (.cons (.bin .sub (.var 5) (.int 1)) .nil))))))) (.cons (.call 16 (.cons (.var 0) (.cons (.var 1) (.cons (.var 2) (.cons (.var 3) (.cons (.var 4) (.cons (.bin .sub (.var 5) (.int 1)) .nil))))))) .nil)))))
  .nil) .nil)
  (.cons (.ret (.tup (.cons (.str [112, 97, 105, 114, 115]) (.cons (.call 16 (.cons (.var 0) (.cons (.ix (.var 1) (.int 1)) (.cons (.var 2) (.cons (.var 3) (.cons (.var 4) (.cons (.bin .sub (.var 5) (.int 1)) .nil))))))) (.cons (.call 16 (.cons (.var 0) (.cons (.ix (.var 1) (.int 2)) (.cons (.var 2) (.cons (.var 3) (.cons (.var 4) (.cons (.bin .sub (.var 5) (.int 1)) .nil))))))) .nil)))))
  .nil))))
def f__law_put_together : Fn := ⟨6, 9, b__law_put_together⟩
/--  -/
def b__law_ints : Sl := (.cons (.ret (.tup (.cons (.str [108, 105, 115, 116]) (.cons (.tup (.cons (.str [105, 110, 116]) .nil)) .nil))))
  .nil)
def f__law_ints : Fn := ⟨0, 0, b__law_ints⟩
/-- 0 pen, 1 name, 2 row, 3 whole, 4 room, 5 step, 6 again, 7 body, 8 made, 9 join, 10 late -/
def b__law_walk_function : Sl := (.cons (.par [2, 3, 4] (.cons (.call 19 .nil) (.cons (.call 7 (.cons (.var 0) (.cons (.int 8) .nil))) (.cons (.lst (.cons (.int 4) (.cons (.int 0) .nil))) .nil))))
  (.cons (.asg (.nm 5) (.call 16 (.cons (.var 0) (.cons (.tup (.cons (.str [105, 110, 116]) .nil)) (.cons (.tup (.cons (.tup (.cons (.str [120]) (.cons (.tup (.cons (.str [105, 110, 116]) .nil)) .nil))) .nil)) (.cons (.tup .nil) (.cons (.var 4) (.cons (.int 1) .nil))))))))
  (.cons (.asg (.nm 6) (.tup (.cons (.str [99, 97, 108, 108]) (.cons (.var 1) (.cons (.tup (.cons (.tup (.cons (.str [118, 97, 114]) (.cons (.str [121, 115]) .nil))) .nil)) .nil)))))
  (.cons (.iff (.cmp .lt (.var 3) (.int 3)) (.cons (.asg (.nm 7) (.tup (.cons (.str [111, 112]) (.cons (.call 8 (.cons (.var 0) (.cons (.lst (.cons (.str [43]) (.cons (.str [45]) .nil))) .nil))) (.cons (.var 5) (.cons (.var 6) .nil))))))
  (.cons (.ret (.tup (.cons (.var 1) (.cons (.tup (.cons (.tup (.cons (.str [120, 115]) (.cons (.var 2) .nil))) .nil)) (.cons (.tup (.cons (.str [105, 110, 116]) .nil)) (.cons (.tup (.cons (.str [109, 97, 116, 99, 104]) (.cons (.tup (.cons (.str [118, 97, 114]) (.cons (.str [120, 115]) .nil))) (.cons (.call 13 (.cons (.var 0) .nil)) (.cons (.str [120]) (.cons (.str [121, 115]) (.cons (.var 7) .nil))))))) .nil))))))
  .nil)) .nil)
  (.cons (.iff (.cmp .lt (.var 3) (.int 5)) (.cons (.asg (.nm 8) (.tup (.cons (.str [99, 111, 110, 115]) (.cons (.var 5) (.cons (.var 6) .nil)))))
  (.cons (.asg (.nm 8) (.ife (.cmp .eq (.var 3) (.int 3)) (.var 8) (.tup (.cons (.str [105, 102]) (.cons (.tup (.cons (.str [111, 112]) (.cons (.str [60]) (.cons (.tup (.cons (.str [118, 97, 114]) (.cons (.str [120]) .nil))) (.cons (.tup (.cons (.str [105, 110, 116]) (.cons (.int 1) .nil))) .nil))))) (.cons (.var 8) (.cons (.var 6) .nil)))))))
  (.cons (.ret (.tup (.cons (.var 1) (.cons (.tup (.cons (.tup (.cons (.str [120, 115]) (.cons (.var 2) .nil))) .nil)) (.cons (.var 2) (.cons (.tup (.cons (.str [109, 97, 116, 99, 104]) (.cons (.tup (.cons (.str [118, 97, 114]) (.cons (.str [120, 115]) .nil))) (.cons (.tup (.cons (.str [110, 105, 108]) (.cons (.tup (.cons (.str [105, 110, 116]) .nil)) .nil))) (.cons (.str [120]) (.cons (.str [121, 115]) (.cons (.var 8) .nil))))))) .nil))))))
  .nil))) .nil)
  (.cons (.iff (.cmp .eq (.var 3) (.int 5)) (.cons (.ret (.tup (.cons (.var 1) (.cons (.tup (.cons (.tup (.cons (.str [120, 115]) (.cons (.var 2) .nil))) .nil)) (.cons (.tup (.cons (.str [105, 110, 116]) .nil)) (.cons (.tup (.cons (.str [109, 97, 116, 99, 104]) (.cons (.tup (.cons (.str [118, 97, 114]) (.cons (.str [120, 115]) .nil))) (.cons (.tup (.cons (.str [105, 110, 116]) (.cons (.int 1) .nil))) (.cons (.str [120]) (.cons (.str [121, 115]) (.cons (.tup (.cons (.str [111, 112]) (.cons (.str [43]) (.cons (.var 6) (.cons (.var 6) .nil))))) .nil))))))) .nil))))))
  .nil) .nil)
  (.cons (.iff (.cmp .eq (.var 3) (.int 6)) (.cons (.asg (.nm 9) (.tup (.cons (.str [99, 111, 110, 115]) (.cons (.tup (.cons (.str [118, 97, 114]) (.cons (.str [120]) .nil))) (.cons (.tup (.cons (.str [99, 97, 108, 108]) (.cons (.var 1) (.cons (.tup (.cons (.tup (.cons (.str [118, 97, 114]) (.cons (.str [121, 115]) .nil))) (.cons (.tup (.cons (.str [118, 97, 114]) (.cons (.str [122, 115]) .nil))) .nil))) .nil)))) .nil)))))
  (.cons (.ret (.tup (.cons (.var 1) (.cons (.tup (.cons (.tup (.cons (.str [120, 115]) (.cons (.var 2) .nil))) (.cons (.tup (.cons (.str [122, 115]) (.cons (.var 2) .nil))) .nil))) (.cons (.var 2) (.cons (.tup (.cons (.str [109, 97, 116, 99, 104]) (.cons (.tup (.cons (.str [118, 97, 114]) (.cons (.str [120, 115]) .nil))) (.cons (.tup (.cons (.str [118, 97, 114]) (.cons (.str [122, 115]) .nil))) (.cons (.str [120]) (.cons (.str [121, 115]) (.cons (.var 9) .nil))))))) .nil))))))
  .nil)) .nil)
  (.cons (.asg (.nm 10) (.tup (.cons (.str [112, 97, 121]) (.cons (.call 8 (.cons (.var 0) (.cons (.lst (.cons (.tup (.cons (.int 1) (.cons (.int 1) .nil))) (.cons (.tup (.cons (.int 1) (.cons (.int 2) .nil))) (.cons (.tup (.cons (.neg (.int 1)) (.cons (.int 2) .nil))) (.cons (.tup (.cons (.neg (.int 1)) (.cons (.int 1) .nil))) .nil))))) .nil))) (.cons (.var 6) .nil)))))
  (.cons (.ret (.tup (.cons (.var 1) (.cons (.tup (.cons (.tup (.cons (.str [120, 115]) (.cons (.var 2) .nil))) .nil)) (.cons (.tup (.cons (.str [105, 110, 116]) .nil)) (.cons (.tup (.cons (.str [109, 97, 116, 99, 104]) (.cons (.tup (.cons (.str [118, 97, 114]) (.cons (.str [120, 115]) .nil))) (.cons (.tup (.cons (.str [105, 110, 116]) (.cons (.int 0) .nil))) (.cons (.str [120]) (.cons (.str [121, 115]) (.cons (.var 10) .nil))))))) .nil))))))
  .nil)))))))))
def f__law_walk_function : Fn := ⟨2, 11, b__law_walk_function⟩
/-- 0 pen, 1 name, 2 again -/
def b__law_count_function : Sl := (.cons (.asg (.nm 2) (.tup (.cons (.str [99, 97, 108, 108]) (.cons (.var 1) (.cons (.tup (.cons (.tup (.cons (.str [111, 112]) (.cons (.str [45]) (.cons (.tup (.cons (.str [118, 97, 114]) (.cons (.str [110]) .nil))) (.cons (.tup (.cons (.str [105, 110, 116]) (.cons (.int 1) .nil))) .nil))))) .nil)) .nil)))))
  (.cons (.asg (.nm 2) (.call 8 (.cons (.var 0) (.cons (.lst (.cons (.var 2) (.cons (.tup (.cons (.str [111, 112]) (.cons (.str [43]) (.cons (.tup (.cons (.str [118, 97, 114]) (.cons (.str [110]) .nil))) (.cons (.var 2) .nil))))) (.cons (.tup (.cons (.str [112, 97, 121]) (.cons (.tup (.cons (.neg (.int 1)) (.cons (.int 1) .nil))) (.cons (.var 2) .nil)))) .nil)))) .nil))))
  (.cons (.ret (.tup (.cons (.var 1) (.cons (.tup (.cons (.tup (.cons (.str [110]) (.cons (.tup (.cons (.str [105, 110, 116]) .nil)) .nil))) .nil)) (.cons (.tup (.cons (.str [105, 110, 116]) .nil)) (.cons (.tup (.cons (.str [105, 102]) (.cons (.tup (.cons (.str [111, 112]) (.cons (.str [60]) (.cons (.tup (.cons (.str [118, 97, 114]) (.cons (.str [110]) .nil))) (.cons (.tup (.cons (.str [105, 110, 116]) (.cons (.int 1) .nil))) .nil))))) (.cons (.tup (.cons (.str [105, 110, 116]) (.cons (.int 0) .nil))) (.cons (.var 2) .nil))))) .nil))))))
  .nil)))
def f__law_count_function : Fn := ⟨2, 3, b__law_count_function⟩
/-- 0 pen, 1 name, 2 inner, 3 row, 4 body -/
def b__law_nest_function : Sl := (.cons (.asg (.nm 3) (.tup (.cons (.str [108, 105, 115, 116]) (.cons (.call 19 .nil) .nil))))
  (.cons (.asg (.nm 4) (.tup (.cons (.str [111, 112]) (.cons (.str [43]) (.cons (.tup (.cons (.str [99, 97, 108, 108]) (.cons (.var 2) (.cons (.tup (.cons (.tup (.cons (.str [118, 97, 114]) (.cons (.str [120]) .nil))) .nil)) .nil)))) (.cons (.tup (.cons (.str [99, 97, 108, 108]) (.cons (.var 1) (.cons (.tup (.cons (.tup (.cons (.str [118, 97, 114]) (.cons (.str [121, 115]) .nil))) .nil)) .nil)))) .nil))))))
  (.cons (.ret (.tup (.cons (.var 1) (.cons (.tup (.cons (.tup (.cons (.str [120, 115]) (.cons (.var 3) .nil))) .nil)) (.cons (.tup (.cons (.str [105, 110, 116]) .nil)) (.cons (.tup (.cons (.str [109, 97, 116, 99, 104]) (.cons (.tup (.cons (.str [118, 97, 114]) (.cons (.str [120, 115]) .nil))) (.cons (.tup (.cons (.str [105, 110, 116]) (.cons (.int 0) .nil))) (.cons (.str [120]) (.cons (.str [121, 115]) (.cons (.var 4) .nil))))))) .nil))))))
  .nil)))
def f__law_nest_function : Fn := ⟨3, 5, b__law_nest_function⟩
/-- 0 pen, 1 name, 2 functions, 3 wide, 4 kinds, 5 scope, 6 kind, 7 room, 8 lap, 9 at -/
def b__law_free_function : Sl := (.cons (.asg (.nm 4) (.lc [8] (.nm 8) (.rng1 (.call 8 (.cons (.var 0) (.cons (.lst (.cons (.int 1) (.cons (.int 2) (.cons (.int 1) (.cons (.int 3) .nil))))) .nil)))) .nil (.call 8 (.cons (.var 0) (.cons (.lst (.cons (.tup (.cons (.str [105, 110, 116]) .nil)) (.cons (.call 19 .nil) (.cons (.call 19 .nil) (.cons (.tup (.cons (.str [98, 111, 111, 108]) .nil)) (.cons (.tup (.cons (.str [112, 97, 105, 114]) (.cons (.tup (.cons (.str [105, 110, 116]) .nil)) (.cons (.call 19 .nil) .nil)))) .nil)))))) .nil)))))
  (.cons (.asg (.nm 5) (.bf .tuple (.cons (.lc [9] (.nm 9) (.rng1 (.bf .len (.cons (.var 4) .nil))) .nil (.tup (.cons (.bin .add (.str [97]) (.bf .str (.cons (.var 9) .nil))) (.cons (.ix (.var 4) (.var 9)) .nil)))) .nil)))
  (.cons (.par [6, 7] (.cons (.call 15 (.cons (.var 0) .nil)) (.cons (.lst (.cons (.var 3) (.cons (.int 0) .nil))) .nil)))
  (.cons (.ret (.tup (.cons (.var 1) (.cons (.var 5) (.cons (.var 6) (.cons (.call 16 (.cons (.var 0) (.cons (.var 6) (.cons (.var 5) (.cons (.var 2) (.cons (.var 7) (.cons (.int 3) .nil))))))) .nil))))))
  .nil))))
def f__law_free_function : Fn := ⟨4, 10, b__law_free_function⟩
/-- 0 functions, 1 name, 2 parameters, 3 kind, 4 body, 5 one, 6 own -/
def b__law_heads : Sl := (.cons (.ret (.bf .tuple (.cons (.lc [1, 2, 3, 4] (.tup (.cons (.nm 1) (.cons (.nm 2) (.cons (.nm 3) (.cons (.nm 4) .nil))))) (.seq (.var 0)) .nil (.tup (.cons (.var 1) (.cons (.bf .tuple (.cons (.lc [5, 6] (.tup (.cons (.nm 5) (.cons (.nm 6) .nil))) (.seq (.var 2)) .nil (.var 6)) .nil)) (.cons (.var 3) .nil))))) .nil)))
  .nil)
def f__law_heads : Fn := ⟨1, 7, b__law_heads⟩
/-- 0 pen, 1 functions, 2 way -/
def b__law_program : Sl := (.cons (.par [1, 2] (.cons (.lst .nil) (.cons (.call 7 (.cons (.var 0) (.cons (.int 8) .nil))) .nil)))
  (.cons (.iff (.cmp .lt (.var 2) (.int 5)) (.cons (.expr (.bm .append (.var 1) (.cons (.call 20 (.cons (.var 0) (.cons (.str [119, 97, 108, 107]) .nil))) .nil)))
  .nil) .nil)
  (.cons (.iff (.cmp .eq (.var 2) (.int 5)) (.cons (.expr (.bm .append (.var 1) (.cons (.call 21 (.cons (.var 0) (.cons (.str [99, 111, 117, 110, 116]) .nil))) .nil)))
  .nil) .nil)
  (.cons (.iff (.and_ (.cmp .ne (.var 1) (.lst .nil)) (.and_ (.cmp .eq (.ix (.ix (.var 1) (.int 0)) (.int 2)) (.tup (.cons (.str [105, 110, 116]) .nil))) (.and_ (.cmp .eq (.bf .len (.cons (.ix (.ix (.var 1) (.int 0)) (.int 1)) .nil)) (.int 1)) (.and_ (.cmp .eq (.ix (.ix (.ix (.ix (.var 1) (.int 0)) (.int 1)) (.int 0)) (.int 1)) (.call 19 .nil)) (.cmp .eq (.call 7 (.cons (.var 0) (.cons (.int 4) .nil))) (.int 0)))))) (.cons (.expr (.bm .append (.var 1) (.cons (.call 22 (.cons (.var 0) (.cons (.str [110, 101, 115, 116]) (.cons (.ix (.ix (.var 1) (.int 0)) (.int 0)) .nil)))) .nil)))
  .nil) .nil)
  (.cons (.iff (.or_ (.cmp .eq (.var 1) (.lst .nil)) (.cmp .eq (.call 7 (.cons (.var 0) (.cons (.int 2) .nil))) (.int 0))) (.cons (.expr (.bm .append (.var 1) (.cons (.call 23 (.cons (.var 0) (.cons (.str [102, 114, 101, 101]) (.cons (.call 24 (.cons (.var 1) .nil)) (.cons (.call 8 (.cons (.var 0) (.cons (.lst (.cons (.int 6) (.cons (.int 9) (.cons (.int 4) .nil)))) .nil))) .nil))))) .nil)))
  .nil) .nil)
  (.cons (.iff (.cmp .eq (.call 7 (.cons (.var 0) (.cons (.int 4) .nil))) (.int 0)) (.cons (.asg (.nm 1) (.rev (.var 1)))
  .nil) .nil)
  (.cons (.ret (.tup (.cons (.call 10 (.cons (.var 0) .nil)) (.cons (.bf .tuple (.cons (.var 1) .nil)) .nil))))
  .nil)))))))
def f__law_program : Fn := ⟨1, 3, b__law_program⟩
/-- 0 ratio, 1 words -/
def b__law_ratio_words : Sl := (.cons (.asg (.nm 1) (.bin .add (.lst (.cons (.bf .str (.cons (.bf .abs (.cons (.ix (.var 0) (.int 0)) .nil)) .nil)) .nil)) (.ife (.cmp .ne (.ix (.var 0) (.int 1)) (.int 1)) (.lst (.cons (.str [47]) (.cons (.bf .str (.cons (.ix (.var 0) (.int 1)) .nil)) .nil))) (.lst .nil))))
  (.cons (.ret (.ife (.cmp .lt (.ix (.var 0) (.int 0)) (.int 0)) (.bin .add (.lst (.cons (.str [45]) .nil)) (.var 1)) (.var 1)))
  .nil))
def f__law_ratio_words : Fn := ⟨1, 2, b__law_ratio_words⟩
/-- 0 pen, 1 kind, 2 words, 3 part -/
def b__law_kind_words : Sl := (.cons (.asg (.nm 2) (.lst (.cons (.ix (.var 1) (.int 0)) .nil)))
  (.cons (.for_ (.nm 3) (.seq (.sl (.var 1) (.some (.int 1)) .none)) (.cons (.asg (.nm 2) (.bin .add (.var 2) (.call 27 (.cons (.var 0) (.cons (.var 3) .nil)))))
  .nil))
  (.cons (.ret (.ife (.and_ (.isnN (.var 0)) (.cmp .eq (.call 7 (.cons (.var 0) (.cons (.int 8) .nil))) (.int 0))) (.bin .add (.bin .add (.lst (.cons (.str [40]) .nil)) (.var 2)) (.lst (.cons (.str [41]) .nil))) (.var 2)))
  .nil)))
def f__law_kind_words : Fn := ⟨2, 4, b__law_kind_words⟩
/-- 0 expr -/
def b__law_level : Sl := (.cons (.iff (.cmp .eq (.ix (.var 0) (.int 0)) (.str [111, 112])) (.cons (.ret (.bm .get (.dct (.cons (.str [111, 114]) (.int 1) (.cons (.str [97, 110, 100]) (.int 2) (.cons (.str [43]) (.int 4) (.cons (.str [45]) (.int 4) (.cons (.str [42]) (.int 5) .nil)))))) (.cons (.ix (.var 0) (.int 1)) (.cons (.int 3) .nil))))
  .nil) .nil)
  (.cons (.ret (.ife (.cmp .eq (.ix (.var 0) (.int 0)) (.str [110, 111, 116])) (.int 6) (.ife (.cmp .inn (.ix (.var 0) (.int 0)) (.tup (.cons (.str [108, 101, 116]) (.cons (.str [105, 102]) (.cons (.str [109, 97, 116, 99, 104]) (.cons (.str [115, 112, 108, 105, 116]) (.cons (.str [112, 97, 121]) (.cons (.str [99, 111, 110, 115]) (.cons (.str [112, 97, 105, 114, 115]) .nil))))))))) (.int 0) (.int 7))))
  .nil))
def f__law_level : Fn := ⟨1, 1, b__law_level⟩
/-- 0 pen, 1 expr, 2 level, 3 words -/
def b__law_words_at : Sl := (.cons (.asg (.nm 3) (.call 30 (.cons (.var 0) (.cons (.var 1) .nil))))
  (.cons (.ret (.ife (.or_ (.cmp .lt (.call 28 (.cons (.var 1) .nil)) (.var 2)) (.and_ (.isnN (.var 0)) (.cmp .eq (.call 7 (.cons (.var 0) (.cons (.int 9) .nil))) (.int 0)))) (.bin .add (.bin .add (.lst (.cons (.str [40]) .nil)) (.var 3)) (.lst (.cons (.str [41]) .nil))) (.var 3)))
  .nil))
def f__law_words_at : Fn := ⟨3, 4, b__law_words_at⟩
/-- 0 pen, 1 expr, 2 sort, 3 level, 4 words, 5 at -/
def b__law_expr_words : Sl := (.cons (.asg (.nm 2) (.ix (.var 1) (.int 0)))
  (.cons (.iff (.cmp .eq (.var 2) (.str [105, 110, 116])) (.cons (.ret (.ife (.cmp .lt (.ix (.var 1) (.int 1)) (.int 0)) (.lst (.cons (.str [45]) (.cons (.bf .str (.cons (.neg (.ix (.var 1) (.int 1))) .nil)) .nil))) (.lst (.cons (.bf .str (.cons (.ix (.var 1) (.int 1)) .nil)) .nil))))
  .nil) .nil)
  (.cons (.iff (.cmp .inn (.var 2) (.tup (.cons (.str [121, 101, 115]) (.cons (.str [110, 111]) .nil)))) (.cons (.ret (.lst (.cons (.var 2) .nil)))
  .nil) .nil)
  (.cons (.iff (.cmp .eq (.var 2) (.str [110, 105, 108])) (.cons (.ret (.bin .add (.lst (.cons (.str [110, 105, 108]) .nil)) (.call 27 (.cons (.var 0) (.cons (.ix (.var 1) (.int 1)) .nil)))))
  .nil) .nil)
  (.cons (.iff (.cmp .eq (.var 2) (.str [118, 97, 114])) (.cons (.ret (.lst (.cons (.ix (.var 1) (.int 1)) .nil)))
  .nil) .nil)
  (.cons (.iff (.cmp .eq (.var 2) (.str [110, 111, 116])) (.cons (.ret (.bin .add (.lst (.cons (.str [110, 111, 116]) .nil)) (.call 29 (.cons (.var 0) (.cons (.ix (.var 1) (.int 1)) (.cons (.int 6) .nil))))))
  .nil) .nil)
  (.cons (.iff (.cmp .eq (.var 2) (.str [111, 112])) (.cons (.asg (.nm 3) (.call 28 (.cons (.var 1) .nil)))
  (.cons (.ret (.bin .add (.bin .add (.call 29 (.cons (.var 0) (.cons (.ix (.var 1) (.int 2)) (.cons (.bin .add (.var 3) (.bf .int (.cons (.cmp .eq (.var 3) (.int 3)) .nil))) .nil)))) (.lst (.cons (.ix (.var 1) (.int 1)) .nil))) (.call 29 (.cons (.var 0) (.cons (.ix (.var 1) (.int 3)) (.cons (.bin .add (.var 3) (.int 1)) .nil))))))
  .nil)) .nil)
  (.cons (.iff (.cmp .eq (.var 2) (.str [99, 97, 108, 108])) (.cons (.asg (.nm 4) (.lst (.cons (.ix (.var 1) (.int 1)) (.cons (.str [40]) .nil))))
  (.cons (.for_ (.nm 5) (.rng1 (.bf .len (.cons (.ix (.var 1) (.int 2)) .nil))) (.cons (.asg (.nm 4) (.bin .add (.bin .add (.var 4) (.ife (.cmp .gt (.var 5) (.int 0)) (.lst (.cons (.str [44]) .nil)) (.lst .nil))) (.call 29 (.cons (.var 0) (.cons (.ix (.ix (.var 1) (.int 2)) (.var 5)) (.cons (.int 0) .nil))))))
  .nil))
  (.cons (.ret (.bin .add (.var 4) (.lst (.cons (.str [41]) .nil))))
  .nil))) .nil)
  (.cons (.ret (.call 31 (.cons (.var 0) (.cons (.var 1) .nil))))
  .nil)))))))))
def f__law_expr_words : Fn := ⟨2, 6, b__law_expr_words⟩
/-- 0 pen, 1 expr, 2 sort, 3 words, 4 first, 5 second -/
def b__law_form_words : Sl := (.cons (.asg (.nm 2) (.ix (.var 1) (.int 0)))
  (.cons (.iff (.cmp .eq (.var 2) (.str [108, 101, 116])) (.cons (.ret (.bin .add (.bin .add (.bin .add (.lst (.cons (.str [108, 101, 116]) (.cons (.ix (.var 1) (.int 1)) (.cons (.str [61]) .nil)))) (.call 29 (.cons (.var 0) (.cons (.ix (.var 1) (.int 2)) (.cons (.int 0) .nil))))) (.lst (.cons (.str [105, 110]) .nil))) (.call 29 (.cons (.var 0) (.cons (.ix (.var 1) (.int 3)) (.cons (.int 0) .nil))))))
  .nil) .nil)
  (.cons (.iff (.cmp .eq (.var 2) (.str [105, 102])) (.cons (.ret (.bin .add (.bin .add (.bin .add (.bin .add (.bin .add (.lst (.cons (.str [105, 102]) .nil)) (.call 29 (.cons (.var 0) (.cons (.ix (.var 1) (.int 1)) (.cons (.int 0) .nil))))) (.lst (.cons (.str [116, 104, 101, 110]) .nil))) (.call 29 (.cons (.var 0) (.cons (.ix (.var 1) (.int 2)) (.cons (.int 0) .nil))))) (.lst (.cons (.str [101, 108, 115, 101]) .nil))) (.call 29 (.cons (.var 0) (.cons (.ix (.var 1) (.int 3)) (.cons (.int 0) .nil))))))
  .nil) .nil)
  (.cons (.iff (.cmp .eq (.var 2) (.str [109, 97, 116, 99, 104])) (.cons (.asg (.nm 3) (.bin .add (.bin .add (.bin .add (.lst (.cons (.str [109, 97, 116, 99, 104]) .nil)) (.call 29 (.cons (.var 0) (.cons (.ix (.var 1) (.int 1)) (.cons (.int 0) .nil))))) (.lst (.cons (.str [123]) (.cons (.str [110, 105, 108]) (.cons (.str [45, 62]) .nil))))) (.call 29 (.cons (.var 0) (.cons (.ix (.var 1) (.int 2)) (.cons (.int 0) .nil))))))
  (.cons (.ret (.bin .add (.bin .add (.bin .add (.var 3) (.lst (.cons (.str [124]) (.cons (.str [99, 111, 110, 115]) (.cons (.ix (.var 1) (.int 3)) (.cons (.ix (.var 1) (.int 4)) (.cons (.str [45, 62]) .nil))))))) (.call 29 (.cons (.var 0) (.cons (.ix (.var 1) (.int 5)) (.cons (.int 0) .nil))))) (.lst (.cons (.str [125]) .nil))))
  .nil)) .nil)
  (.cons (.iff (.cmp .eq (.var 2) (.str [115, 112, 108, 105, 116])) (.cons (.ret (.bin .add (.bin .add (.bin .add (.lst (.cons (.str [115, 112, 108, 105, 116]) .nil)) (.call 29 (.cons (.var 0) (.cons (.ix (.var 1) (.int 1)) (.cons (.int 0) .nil))))) (.lst (.cons (.str [105, 110, 116, 111]) (.cons (.ix (.var 1) (.int 2)) (.cons (.ix (.var 1) (.int 3)) (.cons (.str [105, 110]) .nil)))))) (.call 29 (.cons (.var 0) (.cons (.ix (.var 1) (.int 4)) (.cons (.int 0) .nil))))))
  .nil) .nil)
  (.cons (.iff (.cmp .eq (.var 2) (.str [112, 97, 121])) (.cons (.ret (.bin .add (.bin .add (.bin .add (.lst (.cons (.str [112, 97, 121]) .nil)) (.call 26 (.cons (.ix (.var 1) (.int 1)) .nil))) (.lst (.cons (.str [105, 110]) .nil))) (.call 29 (.cons (.var 0) (.cons (.ix (.var 1) (.int 2)) (.cons (.int 0) .nil))))))
  .nil) .nil)
  (.cons (.par [4, 5] (.cons (.call 29 (.cons (.var 0) (.cons (.ix (.var 1) (.int 1)) (.cons (.int 7) .nil)))) (.cons (.call 29 (.cons (.var 0) (.cons (.ix (.var 1) (.int 2)) (.cons (.int 7) .nil)))) .nil)))
  (.cons (.iff (.and_ (.cmp .eq (.ix (.ix (.var 1) (.int 1)) (.int 0)) (.str [118, 97, 114])) (.and_ (.cmp .eq (.bf .len (.cons (.var 4) .nil)) (.int 1)) (.cmp .eq (.ix (.var 5) (.int 0)) (.str [40])))) (.cons (.asg (.nm 4) (.bin .add (.bin .add (.lst (.cons (.str [40]) .nil)) (.var 4)) (.lst (.cons (.str [41]) .nil))))
  .nil) .nil)
  (.cons (.ret (.bin .add (.bin .add (.lst (.cons (.var 2) .nil)) (.var 4)) (.var 5)))
  .nil)))))))))
def f__law_form_words : Fn := ⟨2, 6, b__law_form_words⟩
/-- 0 pen, 1 function, 2 name, 3 parameters, 4 kind, 5 body, 6 words, 7 at -/
def b__law_function_words : Sl := (.cons (.asg (.tup (.cons (.nm 2) (.cons (.nm 3) (.cons (.nm 4) (.cons (.nm 5) .nil))))) (.var 1))
  (.cons (.asg (.nm 6) (.lst (.cons (.str [102, 117, 110]) (.cons (.var 2) (.cons (.str [40]) .nil)))))
  (.cons (.for_ (.nm 7) (.rng1 (.bf .len (.cons (.var 3) .nil))) (.cons (.asg (.nm 6) (.bin .add (.bin .add (.bin .add (.var 6) (.ife (.cmp .gt (.var 7) (.int 0)) (.lst (.cons (.str [44]) .nil)) (.lst .nil))) (.lst (.cons (.ix (.ix (.var 3) (.var 7)) (.int 0)) (.cons (.str [58]) .nil)))) (.call 27 (.cons (.var 0) (.cons (.ix (.ix (.var 3) (.var 7)) (.int 1)) .nil)))))
  .nil))
  (.cons (.ret (.bin .add (.bin .add (.bin .add (.bin .add (.bin .add (.var 6) (.lst (.cons (.str [41]) (.cons (.str [58]) .nil)))) (.call 27 (.cons (.var 0) (.cons (.var 4) .nil)))) (.lst (.cons (.str [61]) .nil))) (.call 29 (.cons (.var 0) (.cons (.var 5) (.cons (.int 0) .nil))))) (.lst (.cons (.str [59]) .nil))))
  .nil))))
def f__law_function_words : Fn := ⟨2, 8, b__law_function_words⟩
/-- 0 pen, 1 tree, 2 words, 3 sort, 4 ratio, 5 plain, 6 function -/
def b__law_tree_words : Sl := (.cons (.asg (.nm 2) (.lst (.cons (.str [102, 97, 114, 101, 115]) (.cons (.str [123]) .nil))))
  (.cons (.for_ (.tup (.cons (.nm 3) (.cons (.nm 4) .nil))) (.seq (.ix (.var 1) (.int 0))) (.cons (.asg (.nm 5) (.cmp .eq (.var 4) (.ife (.cmp .eq (.var 3) (.str [99, 97, 108, 108])) (.tup (.cons (.int 1) (.cons (.int 1) .nil))) (.tup (.cons (.int 0) (.cons (.int 1) .nil))))))
  (.cons (.iff (.or_ (.isN (.var 0)) (.or_ (.not_ (.var 5)) (.cmp .eq (.call 7 (.cons (.var 0) (.cons (.int 2) .nil))) (.int 0)))) (.cons (.asg (.nm 2) (.bin .add (.bin .add (.bin .add (.var 2) (.lst (.cons (.var 3) .nil))) (.call 26 (.cons (.var 4) .nil))) (.lst (.cons (.str [59]) .nil))))
  .nil) .nil)
  .nil)))
  (.cons (.asg (.nm 2) (.bin .add (.var 2) (.lst (.cons (.str [125]) .nil))))
  (.cons (.iff (.and_ (.cmp .eq (.var 2) (.lst (.cons (.str [102, 97, 114, 101, 115]) (.cons (.str [123]) (.cons (.str [125]) .nil))))) (.cmp .eq (.call 7 (.cons (.var 0) (.cons (.int 2) .nil))) (.int 0))) (.cons (.asg (.nm 2) (.lst .nil))
  .nil) .nil)
  (.cons (.for_ (.nm 6) (.seq (.ix (.var 1) (.int 1))) (.cons (.asg (.nm 2) (.bin .add (.var 2) (.call 32 (.cons (.var 0) (.cons (.var 6) .nil)))))
  .nil))
  (.cons (.ret (.var 2))
  .nil))))))
def f__law_tree_words : Fn := ⟨2, 7, b__law_tree_words⟩
/-- 0 tree -/
def b__law_text_of : Sl := (.cons (.ret (.bm .join (.str [32]) (.cons (.call 33 (.cons .non (.cons (.var 0) .nil))) .nil)))
  .nil)
def f__law_text_of : Fn := ⟨1, 1, b__law_text_of⟩
/-- 0 pen, 1 tree, 2 text, 3 last, 4 word -/
def b__law_loose_text : Sl := (.cons (.asg (.tup (.cons (.nm 2) (.cons (.nm 3) .nil))) (.tup (.cons (.str []) (.cons (.str []) .nil))))
  (.cons (.for_ (.nm 4) (.seq (.call 33 (.cons (.var 0) (.cons (.var 1) .nil)))) (.cons (.par [2, 3] (.cons (.bin .add (.bin .add (.var 2) (.call 36 (.cons (.var 0) (.cons (.var 3) (.cons (.var 4) .nil))))) (.var 4)) (.cons (.var 4) .nil)))
  .nil))
  (.cons (.ret (.bin .add (.var 2) (.call 8 (.cons (.var 0) (.cons (.lst (.cons (.str []) (.cons (.str []) (.cons (.str [10]) (.cons (.str [32]) (.cons (.str [32, 35, 32, 116, 104, 101, 32, 101, 110, 100]) (.cons (.str [35]) .nil))))))) .nil)))))
  .nil)))
def f__law_loose_text : Fn := ⟨2, 5, b__law_loose_text⟩
/-- 0 pen, 1 last, 2 word, 3 close, 4 joined, 5 way -/
def b__law_gap : Sl := (.cons (.asg (.nm 3) (.or_ (.cmp .eq (.var 1) (.str [])) (.or_ (.not_ (.or_ (.bm .isalnum (.ix (.var 1) (.neg (.int 1))) .nil) (.cmp .eq (.ix (.var 1) (.neg (.int 1))) (.str [95])))) (.not_ (.or_ (.bm .isalnum (.ix (.var 2) (.int 0)) .nil) (.cmp .eq (.ix (.var 2) (.int 0)) (.str [95])))))))
  (.cons (.asg (.nm 4) (.cmp .inn (.bin .add (.var 1) (.sl (.var 2) .none (.some (.int 1)))) (.tup (.cons (.str [60, 61]) (.cons (.str [45, 62]) .nil)))))
  (.cons (.asg (.nm 5) (.call 7 (.cons (.var 0) (.cons (.int 9) .nil))))
  (.cons (.iff (.cmp .eq (.var 5) (.int 0)) (.cons (.ret (.str [10]))
  .nil) .nil)
  (.cons (.iff (.cmp .eq (.var 5) (.int 1)) (.cons (.ret (.call 8 (.cons (.var 0) (.cons (.lst (.cons (.str [32, 35, 32, 105, 110, 32, 120, 59, 32, 125, 10]) (.cons (.str [32, 32]) (.cons (.str [10, 10, 32, 32]) (.cons (.str [32, 35, 10]) .nil))))) .nil))))
  .nil) .nil)
  (.cons (.ret (.ife (.and_ (.var 3) (.and_ (.not_ (.var 4)) (.cmp .lt (.var 5) (.int 4)))) (.str []) (.str [32])))
  .nil))))))
def f__law_gap : Fn := ⟨3, 6, b__law_gap⟩
/-- 0 text, 1 letters, 2 figures, 3 own, 4 found, 5 line, 6 column, 7 at, 8 sign, 9 end, 10 what -/
def b__law_words : Sl := (.cons (.asg (.tup (.cons (.nm 1) (.cons (.nm 2) .nil))) (.tup (.cons (.str z0) (.cons (.str [48, 49, 50, 51, 52, 53, 54, 55, 56, 57]) .nil))))
  (.cons (.asg (.nm 3) (.bm .split (.str z2) (.cons (.str [32]) .nil)))
  (.cons (.asg (.tup (.cons (.nm 4) (.cons (.nm 5) (.cons (.nm 6) (.cons (.nm 7) .nil))))) (.tup (.cons (.lst .nil) (.cons (.int 0) (.cons (.int 0) (.cons (.int 0) .nil))))))
  (.cons (.whl (.cmp .lt (.var 7) (.bf .len (.cons (.var 0) .nil))) (.cons (.par [8, 9, 10] (.cons (.ix (.var 0) (.var 7)) (.cons (.bin .add (.var 7) (.int 1)) (.cons .non .nil))))
  (.cons (.iff (.cmp .eq (.var 8) (.str [10])) (.cons (.par [5, 6, 7] (.cons (.bin .add (.var 5) (.int 1)) (.cons (.int 0) (.cons (.bin .add (.var 7) (.int 1)) .nil))))
  (.cons .cont
  .nil)) .nil)
  (.cons (.iff (.cmp .eq (.var 8) (.str [35])) (.cons (.whl (.and_ (.cmp .lt (.var 9) (.bf .len (.cons (.var 0) .nil))) (.cmp .ne (.ix (.var 0) (.var 9)) (.str [10]))) (.cons (.asg (.nm 9) (.bin .add (.var 9) (.int 1)))
  .nil))
  .nil) (.cons (.iff (.cmp .inn (.var 8) (.var 1)) (.cons (.whl (.and_ (.cmp .lt (.var 9) (.bf .len (.cons (.var 0) .nil))) (.cmp .inn (.ix (.var 0) (.var 9)) (.bin .add (.bin .add (.var 1) (.var 2)) (.str [95])))) (.cons (.asg (.nm 9) (.bin .add (.var 9) (.int 1)))
  .nil))
  (.cons (.asg (.nm 10) (.ife (.cmp .inn (.sl (.var 0) (.some (.var 7)) (.some (.var 9))) (.var 3)) (.str [111, 119, 110]) (.str [110, 97, 109, 101])))
  (.cons (.iff (.cmp .gt (.bin .sub (.var 9) (.var 7)) (.int 12)) (.cons (.ret (.bin .add (.var 4) (.lst (.cons (.tup (.cons (.str [98, 97, 100]) (.cons (.str [119, 111, 114, 100]) (.cons (.var 5) (.cons (.var 6) .nil))))) .nil))))
  .nil) .nil)
  .nil))) (.cons (.iff (.cmp .inn (.var 8) (.var 2)) (.cons (.whl (.and_ (.cmp .lt (.var 9) (.bf .len (.cons (.var 0) .nil))) (.cmp .inn (.ix (.var 0) (.var 9)) (.var 2))) (.cons (.asg (.nm 9) (.bin .add (.var 9) (.int 1)))
  .nil))
  (.cons (.asg (.nm 10) (.str [110, 117, 109, 98, 101, 114]))
  (.cons (.iff (.or_ (.cmp .gt (.bin .sub (.var 9) (.var 7)) (.int 12)) (.and_ (.cmp .eq (.var 8) (.str [48])) (.cmp .gt (.bin .sub (.var 9) (.var 7)) (.int 1)))) (.cons (.ret (.bin .add (.var 4) (.lst (.cons (.tup (.cons (.str [98, 97, 100]) (.cons (.str [110, 117, 109, 98, 101, 114]) (.cons (.var 5) (.cons (.var 6) .nil))))) .nil))))
  .nil) .nil)
  .nil))) (.cons (.iff (.cmp .ne (.var 8) (.str [32])) (.cons (.asg (.nm 10) (.str [115, 105, 103, 110]))
  (.cons (.iff (.cmp .inn (.sl (.var 0) (.some (.var 7)) (.some (.bin .add (.var 7) (.int 2)))) (.tup (.cons (.str [60, 61]) (.cons (.str [45, 62]) .nil)))) (.cons (.asg (.nm 9) (.bin .add (.var 7) (.int 2)))
  .nil) (.cons (.iff (.cmp .nin (.var 8) (.str [40, 41, 123, 125, 59, 58, 44, 61, 60, 43, 45, 42, 47, 124])) (.cons (.ret (.bin .add (.var 4) (.lst (.cons (.tup (.cons (.str [98, 97, 100]) (.cons (.str [115, 105, 103, 110]) (.cons (.var 5) (.cons (.var 6) .nil))))) .nil))))
  .nil) .nil)
  .nil))
  .nil)) .nil)
  .nil))
  .nil))
  .nil))
  (.cons (.iff (.isnN (.var 10)) (.cons (.expr (.bm .append (.var 4) (.cons (.tup (.cons (.var 10) (.cons (.sl (.var 0) (.some (.var 7)) (.some (.var 9))) (.cons (.var 5) (.cons (.var 6) .nil))))) .nil)))
  .nil) .nil)
  (.cons (.par [7, 6] (.cons (.var 9) (.cons (.bin .sub (.bin .add (.var 6) (.var 9)) (.var 7)) .nil)))
  .nil))))))
  (.cons (.ret (.bin .add (.var 4) (.lst (.cons (.tup (.cons (.str [101, 110, 100]) (.cons (.str []) (.cons (.var 5) (.cons (.var 6) .nil))))) .nil))))
  .nil)))))
def f__law_words : Fn := ⟨1, 11, b__law_words⟩
/-- 0 pen, 1 text, 2 at, 3 way, 4 sign -/
def b__law_spoilt : Sl := (.cons (.par [2, 3] (.cons (.call 7 (.cons (.var 0) (.cons (.bin .add (.bf .len (.cons (.var 1) .nil)) (.int 1)) .nil))) (.cons (.call 7 (.cons (.var 0) (.cons (.int 4) .nil))) .nil)))
  (.cons (.asg (.nm 4) (.call 8 (.cons (.var 0) (.cons (.lst (.cons (.str [95]) (.cons (.str [33]) (.cons (.str [61]) (.cons (.str [58]) (.cons (.str [60]) (.cons (.str [62]) (.cons (.str [9]) (.cons (.str [48]) (.cons (.str [49, 50]) (.cons (.str [35]) (.cons (.str [10]) (.cons (.str [32]) (.cons (.str [97]) (.cons (.str [90, 57]) (.cons (.str [44]) (.cons (.str [46]) (.cons (.bin .mul (.str [120]) (.int 13)) (.cons (.bin .mul (.str [49]) (.int 13)) (.cons (.str [48, 48, 55]) (.cons (.str [45]) (.cons (.str [123]) (.cons (.str [45, 62]) (.cons (.bin .mul (.str [57]) (.int 12)) (.cons (.bin .mul (.str [98]) (.int 12)) (.cons (.str [60, 61]) (.cons (.str [124]) (.cons (.str [60, 61, 61]) .nil)))))))))))))))))))))))))))) .nil))))
  (.cons (.iff (.cmp .eq (.var 3) (.int 0)) (.cons (.ret (.bin .add (.sl (.var 1) .none (.some (.var 2))) (.sl (.var 1) (.some (.bin .add (.var 2) (.int 1))) .none)))
  .nil) .nil)
  (.cons (.iff (.cmp .eq (.var 3) (.int 1)) (.cons (.ret (.bin .add (.bin .add (.sl (.var 1) .none (.some (.var 2))) (.var 4)) (.sl (.var 1) (.some (.bin .add (.var 2) (.int 1))) .none)))
  .nil) .nil)
  (.cons (.ret (.bin .add (.bin .add (.sl (.var 1) .none (.some (.var 2))) (.var 4)) (.sl (.var 1) (.some (.var 2)) .none)))
  .nil)))))
def f__law_spoilt : Fn := ⟨2, 5, b__law_spoilt⟩
/-- 0 told, 1 word -/
def b__law_told_ok : Sl := (.cons (.ret (.and_ (.isi (.var 0) [.tuple]) (.bf .all (.cons (.lc [1] (.nm 1) (.seq (.var 0)) .nil (.and_ (.isi (.var 1) [.tuple]) (.and_ (.cmp .eq (.bf .len (.cons (.var 1) .nil)) (.int 4)) (.and_ (.call 9 (.cons (.ix (.var 1) (.int 2)) .nil)) (.call 9 (.cons (.ix (.var 1) (.int 3)) .nil)))))) .nil))))
  .nil)
def f__law_told_ok : Fn := ⟨1, 2, b__law_told_ok⟩
/-- 0 script, 1 pen, 2 tree, 3 lap, 4 text, 5 told, 6 change, 7 row, 8 odd, 9 sign -/
def b_law : Sl := (.cons (.asg (.nm 1) (.call 6 (.cons (.var 0) .nil)))
  (.cons (.asg (.nm 2) (.call 25 (.cons (.var 1) .nil)))
  (.cons (.for_ (.nm 3) (.rng1 (.int 4)) (.cons (.asg (.nm 4) (.ife (.cmp .gt (.var 3) (.int 0)) (.call 35 (.cons (.var 1) (.cons (.var 2) .nil))) (.call 34 (.cons (.var 2) .nil))))
  (.cons (.asg (.nm 5) (.call 5 (.cons (.var 4) .nil)))
  (.cons (.iff (.or_ (.cmp .ne (.var 5) (.bf .tuple (.cons (.call 37 (.cons (.var 4) .nil)) .nil))) (.or_ (.not_ (.call 39 (.cons (.var 5) .nil))) (.cmp .ne (.ix (.ix (.var 5) (.neg (.int 1))) (.int 0)) (.str [101, 110, 100])))) (.cons (.ret (.bl false))
  .nil) .nil)
  (.cons (.for_ (.nm 6) (.rng1 (.int 3)) (.cons (.asg (.nm 4) (.call 38 (.cons (.var 1) (.cons (.var 4) .nil))))
  (.cons (.asg (.nm 5) (.call 5 (.cons (.var 4) .nil)))
  (.cons (.iff (.or_ (.cmp .ne (.var 5) (.bf .tuple (.cons (.call 37 (.cons (.var 4) .nil)) .nil))) (.not_ (.call 39 (.cons (.var 5) .nil)))) (.cons (.ret (.bl false))
  .nil) .nil)
  .nil))))
  .nil)))))
  (.cons (.asg (.nm 7) (.bm .join (.str []) (.cons (.lc [9] (.nm 9) (.rng1 (.call 7 (.cons (.var 1) (.cons (.int 30) .nil)))) .nil (.call 8 (.cons (.var 1) (.cons (.bin .add (.bf .list (.cons (.str [97, 98, 95, 48, 57, 32, 123, 125, 40, 41, 58, 59, 44, 43, 45, 42, 47, 61, 60, 62, 124, 35, 10, 46]) .nil)) (.lst (.cons (.str [105, 102]) (.cons (.str [102, 117, 110]) (.cons (.str [105, 110]) .nil))))) .nil)))) .nil)))
  (.cons (.iff (.cmp .ne (.call 5 (.cons (.var 7) .nil)) (.bf .tuple (.cons (.call 37 (.cons (.var 7) .nil)) .nil))) (.cons (.ret (.bl false))
  .nil) .nil)
  (.cons (.for_ (.nm 8) (.seq (.lst (.cons .non (.cons (.int 5) (.cons (.bl true) (.cons (.lst (.cons (.str [97]) .nil)) (.cons (.tup (.cons (.str [97]) .nil)) (.cons (.dct (.cons (.str [97]) (.int 1) .nil)) .nil)))))))) (.cons (.iff (.cmp .ne (.call 5 (.cons (.var 8) .nil)) (.tup (.cons (.tup (.cons (.str [98, 97, 100]) (.cons (.str [116, 101, 120, 116]) (.cons (.int 0) (.cons (.int 0) .nil))))) .nil))) (.cons (.ret (.bl false))
  .nil) .nil)
  .nil))
  (.cons (.ret (.and_ (.cmp .eq (.call 5 (.cons (.str []) .nil)) (.tup (.cons (.tup (.cons (.str [101, 110, 100]) (.cons (.str []) (.cons (.int 0) (.cons (.int 0) .nil))))) .nil))) (.and_ (.cmp .eq (.call 5 (.cons (.str [97, 10, 32, 35, 32, 98]) .nil)) (.tup (.cons (.tup (.cons (.str [110, 97, 109, 101]) (.cons (.str [97]) (.cons (.int 0) (.cons (.int 0) .nil))))) (.cons (.tup (.cons (.str [101, 110, 100]) (.cons (.str []) (.cons (.int 1) (.cons (.int 4) .nil))))) .nil)))) (.cmp .eq (.call 5 (.cons (.str [120, 45, 62, 48]) .nil)) (.tup (.cons (.tup (.cons (.str [110, 97, 109, 101]) (.cons (.str [120]) (.cons (.int 0) (.cons (.int 0) .nil))))) (.cons (.tup (.cons (.str [115, 105, 103, 110]) (.cons (.str [45, 62]) (.cons (.int 0) (.cons (.int 1) .nil))))) (.cons (.tup (.cons (.str [110, 117, 109, 98, 101, 114]) (.cons (.str [48]) (.cons (.int 0) (.cons (.int 3) .nil))))) (.cons (.tup (.cons (.str [101, 110, 100]) (.cons (.str []) (.cons (.int 0) (.cons (.int 4) .nil))))) .nil)))))))))
  .nil)))))))
def f_law : Fn := ⟨1, 10, b_law⟩
def fns0 : List Fn := [f_row_end, f_letter_word, f_figure_word, f_word_from, f_words_in, f_words_of, f__law_pen, f__law_draw, f__law_pick, f__law_is_int, f__law_fares, f__law_new_name, f__law_of_kind, f__law_whole_number, f__law_leaf, f__law_small_kind, f__law_expr, f__law_taken_apart, f__law_put_together, f__law_ints]
def fns1 : List Fn := [f__law_walk_function, f__law_count_function, f__law_nest_function, f__law_free_function, f__law_heads, f__law_program, f__law_ratio_words, f__law_kind_words, f__law_level, f__law_words_at, f__law_expr_words, f__law_form_words, f__law_function_words, f__law_tree_words, f__law_text_of, f__law_loose_text, f__law_gap, f__law_words, f__law_spoilt, f__law_told_ok]
def fns2 : List Fn := [f_law]
def fns : List Fn := fns0 ++ (fns1 ++ (fns2))
end K44
end

section
set_option autoImplicit false
set_option linter.all false
set_option Elab.async false
set_option maxRecDepth 100000
set_option maxHeartbeats 4000000
namespace K44
open Ev
def FUEL : Nat := 100000000
abbrev CC (k : Nat) : Call := evCall fns FUEL k
theorem fuel_lim {n : Nat} (h : n ≤ 4 * LIM) : n < FUEL := by unfold FUEL; unfold LIM at h; omega
/-- how many of the first signs are of a set -/
def span (l signs : List Nat) : Nat := (l.takeWhile (fun c => decide (c ∈ signs))).length
theorem span_le (l signs : List Nat) : span l signs ≤ l.length := (List.takeWhile_sublist _).length_le
theorem span_step {l signs : List Nat} {a : Nat} {c : Nat} (e : l[a]? = some c) (hc : c ∈ signs) : span (l.drop a) signs = span (l.drop (a + 1)) signs + 1 := by
  obtain ⟨ha, e⟩ := List.getElem?_eq_some_iff.mp e
  rw [List.drop_eq_getElem_cons ha, e]
  simp [span, List.takeWhile, hc]
theorem span_stop {l signs : List Nat} {a : Nat} {c : Nat} (e : l[a]? = some c) (hc : c ∉ signs) : span (l.drop a) signs = 0 := by
  obtain ⟨ha, e⟩ := List.getElem?_eq_some_iff.mp e
  rw [List.drop_eq_getElem_cons ha, e]
  simp [span, List.takeWhile, hc]
theorem span_end {l signs : List Nat} {a : Nat} (ha : l.length ≤ a) : span (l.drop a) signs = 0 := by
  rw [List.drop_eq_nil_of_le ha]; rfl
theorem row_end_ok {k : Nat} {l signs : List Nat} {at_ : Nat} {h : Hx} {Q : D → Hx → Prop} (hl : l.length ≤ LIM) (ha : at_ ≤ l.length) (q : Q (.int ((at_ + span (l.drop at_) signs : Nat) : Int)) h) :
    wpC (CC (k + 1)) 0 [.str l, .int at_, .str signs] h Q := by
  refine call_ok (fn := f_row_end) rfl rfl ?_
  simp [f_row_end, b_row_end]
  refine whl_ok (fun n s h' => h' = h ∧ ∃ e : Nat, s = [some (.str l), some (.int at_), some (.str signs), some (.int e)] ∧ n = l.length - e ∧ e ≤ l.length ∧ e + span (l.drop e) signs = at_ + span (l.drop at_) signs) ?_ (l.length - at_) (fuel_lim (by omega)) ⟨rfl, at_, rfl, rfl, ha, rfl⟩
  rintro n s h' ⟨rfl, e, rfl, rfl, he, hs⟩
  simp [getIx, isIn, hl]
  by_cases hlt : e < l.length
  · right
    refine ⟨hlt, _, ⟨l[e], List.getElem?_eq_getElem hlt, rfl⟩, ?_⟩
    have eg : l[e]? = some l[e] := List.getElem?_eq_getElem hlt
    by_cases hc : l[e] ∈ signs
    · right
      have := span_step eg hc
      exact ⟨by simp [hc], l.length - (e + 1), by omega, _, rfl, e + 1, rfl, rfl, hlt, by omega⟩
    · left
      have := span_stop eg hc
      refine ⟨by simp [hc], ?_⟩
      rw [show at_ + span (l.drop at_) signs = e by omega] at q
      exact q
  · left
    have := span_end (l := l) (signs := signs) (a := e) (by omega)
    refine ⟨by omega, ?_⟩
    rw [show at_ + span (l.drop at_) signs = e by omega] at q
    exact q
/-! ### the words, plainly -/
def s_ (x : String) : List Nat := x.toList.map Char.toNat
def DIG : List Nat := [48, 49, 50, 51, 52, 53, 54, 55, 56, 57]
def LET : List Nat := [97, 98, 99, 100, 101, 102, 103, 104, 105, 106, 107, 108, 109, 110, 111, 112, 113, 114, 115, 116, 117, 118, 119, 120, 121, 122, 65, 66, 67, 68, 69, 70, 71, 72, 73, 74, 75, 76, 77, 78, 79, 80, 81, 82, 83, 84, 85, 86, 87, 88, 89, 90]
def SIG : List Nat := [97, 98, 99, 100, 101, 102, 103, 104, 105, 106, 107, 108, 109, 110, 111, 112, 113, 114, 115, 116, 117, 118, 119, 120, 121, 122, 65, 66, 67, 68, 69, 70, 71, 72, 73, 74, 75, 76, 77, 78, 79, 80, 81, 82, 83, 84, 85, 86, 87, 88, 89, 90, 48, 49, 50, 51, 52, 53, 54, 55, 56, 57, 95]
def OWN : List (List Nat) := [[97, 110, 100], [98, 111, 111, 108], [99, 111, 110, 115], [101, 108, 115, 101], [102, 97, 114, 101, 115], [102, 117, 110], [105, 102], [105, 110], [105, 110, 116], [105, 110, 116, 111], [108, 101, 116], [108, 105, 115, 116], [109, 97, 116, 99, 104], [110, 105, 108], [110, 111], [110, 111, 116], [111, 114], [112, 97, 105, 114], [112, 97, 105, 114, 115], [112, 97, 121], [115, 112, 108, 105, 116], [116, 104, 101, 110], [121, 101, 115]]
def ONE : List Nat := [40, 41, 123, 125, 59, 58, 44, 61, 60, 43, 45, 42, 47, 124]
def isOwn (w : List Nat) : Bool := decide (w ∈ OWN)
/-- a word's sort: its name, its signs; bad ones with what is wrong -/
inductive Wd where
  | good (sort : List Nat) (w : List Nat)
  | bad (what : List Nat)
def t_bad : List Nat := [98, 97, 100]
def t_word : List Nat := [119, 111, 114, 100]
def t_own : List Nat := [111, 119, 110]
def t_name : List Nat := [110, 97, 109, 101]
def t_number : List Nat := [110, 117, 109, 98, 101, 114]
def t_sign : List Nat := [115, 105, 103, 110]
def t_end : List Nat := [101, 110, 100]
/-- the word at the front of what is left of a line -/
def wordAt (l : List Nat) : Wd := match l with
  | [] => .bad t_sign
  | c :: r =>
    if c ∈ LET then (if span l SIG > 12 then .bad t_word else .good (if isOwn (l.take (span l SIG)) then t_own else t_name) (l.take (span l SIG)))
    else if c ∈ DIG then (if span l DIG > 12 ∨ (span l DIG > 1 ∧ c = 48) then .bad t_number else .good t_number (l.take (span l DIG)))
    else if l.take 2 = [60, 61] ∨ l.take 2 = [45, 62] then .good t_sign (l.take 2)
    else if c ∈ ONE then .good t_sign [c]
    else .bad t_sign
def Wd.d : Wd → D
  | .good s w => .tup [.str s, .str w]
  | .bad w => .tup [.str t_bad, .str w]
theorem cSIG : c_SIGNS = .str SIG := rfl
theorem cDIG : c_DIGITS = .str DIG := rfl
theorem cLET : c_LETTERS = .str LET := rfl
theorem cOWN : c_OWN_WORDS = .tup (OWN.map .str) := rfl
theorem cONE : c_ONE_SIGNS = .str ONE := rfl
theorem flat_strs (l : List (List Nat)) : (l.map D.str).all isFlat = true := by simp [isFlat]
theorem isIn_strs {h : Hx} {w : List Nat} {l : List (List Nat)} : isIn h (.str w) (.tup (l.map .str)) = some (decide (w ∈ l)) := by
  show (if (isFlat (.str w) && (l.map D.str).all isFlat) = true then some ((l.map D.str).any fun z => eqFlat z (.str w)) else none) = _
  rw [show isFlat (.str w) = true from rfl, flat_strs]
  simp only [Bool.and_self, if_true, List.any_map]
  congr 1
  induction l with
  | nil => rfl
  | cons a l ih => 
    have hh : ((fun z => eqFlat z (D.str w)) ∘ D.str) a = (a == w) := rfl
    rw [List.any_cons, ih, hh]
    by_cases e : w = a
    · subst e; simp
    · have e2 : (a == w) = false := by simpa using fun q : a = w => e q.symm
      simp [e, e2]
theorem letter_word_ok {k : Nat} {l : List Nat} {at_ : Nat} {h : Hx} {Q : D → Hx → Prop} (hl : l.length ≤ LIM) (ha : at_ ≤ l.length)
    (q : Q (Wd.d (if span (l.drop at_) SIG > 12 then .bad t_word else .good (if isOwn ((l.drop at_).take (span (l.drop at_) SIG)) then t_own else t_name) ((l.drop at_).take (span (l.drop at_) SIG)))) h) :
    wpC (CC (k + 2)) 1 [.str l, .int at_] h Q := by
  refine call_ok (fn := f_letter_word) rfl rfl ?_
  simp [f_letter_word, b_letter_word, cSIG]
  refine row_end_ok hl ha ?_
  have e12 : c_LONGEST_WORD = .int 12 := rfl
  simp [slice, hl, e12, cOWN, isIn_strs]
  have hs := span_le (l.drop at_) SIG
  rw [List.length_drop] at hs
  rw [Nat.min_eq_left hs]
  refine ⟨by omega, ?_⟩
  by_cases h12 : span (l.drop at_) SIG > 12
  · rw [if_pos h12] at q
    exact .inr ⟨by omega, q⟩
  · rw [if_neg h12] at q
    refine .inl ⟨by omega, ?_⟩
    unfold isOwn at q
    by_cases ho : (l.drop at_).take (span (l.drop at_) SIG) ∈ OWN
    · rw [if_pos (by simpa using ho)] at q
      exact .inr ⟨ho, q⟩
    · rw [if_neg (by simpa using ho)] at q
      exact .inl ⟨ho, q⟩
theorem figure_word_ok {k : Nat} {l : List Nat} {at_ c : Nat} {h : Hx} {Q : D → Hx → Prop} (gl : l.all goodSign = true) (hl : l.length ≤ LIM) (ec : l[at_]? = some c) (hd : c ∈ DIG)
    (q : Q (Wd.d (if span (l.drop at_) DIG > 12 ∨ (span (l.drop at_) DIG > 1 ∧ c = 48) then .bad t_number else .good t_number ((l.drop at_).take (span (l.drop at_) DIG)))) h) :
    wpC (CC (k + 2)) 2 [.str l, .int at_] h Q := by
  refine call_ok (fn := f_figure_word) rfl rfl ?_
  simp [f_figure_word, b_figure_word, cDIG]
  obtain ⟨ha, ec'⟩ := List.getElem?_eq_some_iff.mp ec
  refine row_end_ok hl (by omega) ?_
  have e12 : c_LONGEST_WORD = .int 12 := rfl
  have hs := span_le (l.drop at_) DIG
  rw [List.length_drop] at hs
  have h1 := span_step ec hd
  simp [slice, hl, e12, getIx]
  rw [Nat.min_eq_left hs]
  have hlim : span (l.drop at_) DIG ≤ LIM := by omega
  have h0 : ((l.drop at_).take (span (l.drop at_) DIG))[0]? = some c := by
    rw [List.getElem?_take_of_lt (by omega), List.getElem?_drop]; exact ec
  have gc : goodSign c = true := List.all_eq_true.mp gl c (List.mem_of_getElem? ec)
  refine ⟨hlim, ?_⟩
  by_cases h12 : span (l.drop at_) DIG > 12
  · rw [if_pos (.inl h12)] at q
    exact .inr ⟨by omega, q⟩
  · refine .inl ⟨by omega, hlim, ?_⟩
    by_cases hb : span (l.drop at_) DIG > 1
    · right
      refine ⟨by omega, _, ⟨hlim, c, h0, rfl⟩, ?_⟩
      rw [eq_str (good_one gc) (by decide)]
      by_cases hz : c = 48
      · rw [if_pos (.inr ⟨hb, hz⟩)] at q
        exact .inr ⟨by simp [hz], q⟩
      · rw [if_neg (by omega)] at q
        exact .inl ⟨by simp [hz], q⟩
    · rw [if_neg (by omega)] at q
      exact .inl ⟨by omega, q⟩
theorem word_from_ok {k : Nat} {l r : List Nat} {at_ c : Nat} {h : Hx} {Q : D → Hx → Prop} (gl : l.all goodSign = true) (hl : l.length ≤ LIM) (er : l.drop at_ = c :: r) (q : Q (wordAt (l.drop at_)).d h) : wpC (CC (k + 3)) 3 [.str l, .int at_] h Q := by
  refine call_ok (fn := f_word_from) rfl rfl ?_
  have ec : l[at_]? = some c := by
    have := congrArg (fun x => x[0]?) er
    simpa using this
  have ha := (List.getElem?_eq_some_iff.mp ec).1
  rw [er] at q
  simp [f_word_from, b_word_from, cLET, cDIG, cONE, getIx, hl, ec]
  by_cases hL : c ∈ LET
  · refine .inr ⟨hL, letter_word_ok hl (by omega) ?_⟩
    simp only [wordAt, hL, if_true] at q
    rw [er]; exact q
  · refine .inl ⟨hL, ?_⟩
    by_cases hD : c ∈ DIG
    · refine .inr ⟨hD, figure_word_ok gl hl ec hD ?_⟩
      simp only [wordAt, hL, hD, if_true, if_false] at q
      rw [er]; exact q
    · refine .inl ⟨hD, ?_⟩
      have e2 : c_TWO_SIGNS = .tup ([[60, 61], [45, 62]].map .str) := rfl
      simp [slice, hl, e2, isIn_strs, er]
      simp only [wordAt, hL, hD, if_false] at q
      by_cases h2 : (c :: r).take 2 = [60, 61] ∨ (c :: r).take 2 = [45, 62]
      · rw [if_pos h2] at q
        exact .inr ⟨by simpa using h2, q⟩
      · rw [if_neg h2] at q
        refine .inl ⟨by simpa [not_or] using h2, ?_⟩
        by_cases h1 : c ∈ ONE
        · rw [if_pos h1] at q
          exact .inr ⟨h1, q⟩
        · rw [if_neg h1] at q
          exact .inl ⟨h1, q⟩
/-! ### the words of lines -/
/-- a word's row -/
def tokD (s w : List Nat) (n c : Nat) : D := .tup [.str s, .str w, .int n, .int c]
def lineT : Nat → List Nat → Nat → Nat → List D × Bool
  | 0, _, _, _ => ([], false)
  | _ + 1, [], _, _ => ([], false)
  | f + 1, c :: r, n, a =>
    if c = 35 then ([], false) else if c = 32 then lineT f r n (a + 1) else match wordAt (c :: r) with
      | .bad w => ([tokD t_bad w n a], true)
      | .good s w => (tokD s w n a :: (lineT f ((c :: r).drop w.length) n (a + w.length)).1, (lineT f ((c :: r).drop w.length) n (a + w.length)).2)
def restT : List (List Nat) → Nat → Nat → List D
  | [], _, _ => []
  | l :: ls, n, c => if (lineT l.length l n c).2 = true then (lineT l.length l n c).1 else (lineT l.length l n c).1 ++ (match ls with
    | [] => [tokD t_end [] n (c + l.length)]
    | _ => restT ls (n + 1) 0)
def scan (t : List Nat) : List D := restT (splitC 10 t) 0 0
theorem let_sig : ∀ c ∈ LET, c ∈ SIG := by decide
theorem dig_sig : ∀ c ∈ DIG, c ∈ SIG := by decide
theorem word_pos {c : Nat} {r s w : List Nat} (e : wordAt (c :: r) = .good s w) : 1 ≤ w.length ∧ w.length ≤ (c :: r).length ∧ w = (c :: r).take w.length := by
  have hs : ∀ S : List Nat, c ∈ S → 1 ≤ span (c :: r) S := fun S hS => by simp [span, List.takeWhile, hS]
  simp only [wordAt] at e
  split at e
  · rename_i hL
    split at e
    · cases e
    · cases e
      have h1 := hs SIG (let_sig c hL)
      have h2 := span_le (c :: r) SIG
      rw [List.length_take, Nat.min_eq_left h2]
      exact ⟨h1, h2, rfl⟩
  · split at e
    · rename_i hD
      split at e
      · cases e
      · cases e
        have h1 := hs DIG hD
        have h2 := span_le (c :: r) DIG
        rw [List.length_take, Nat.min_eq_left h2]
        exact ⟨h1, h2, rfl⟩
    · split at e
      · rename_i h2
        cases e
        have hl : ((c :: r).take 2).length = 2 := by rcases h2 with h2 | h2 <;> rw [h2] <;> rfl
        rw [hl]
        rw [List.length_take] at hl
        exact ⟨by omega, by omega, rfl⟩
      · split at e
        · cases e
          exact ⟨Nat.le_refl _, by simp, rfl⟩
        · cases e
theorem line_fuel : ∀ (f g : Nat) (l : List Nat) (n a : Nat), l.length ≤ f → l.length ≤ g → lineT f l n a = lineT g l n a
  | f, g, [], n, a, _, _ => by cases f <;> cases g <;> rfl
  | 0, _, c :: r, _, _, h, _ => by simp at h
  | _ + 1, 0, c :: r, _, _, _, h => by simp at h
  | f + 1, g + 1, c :: r, n, a, h1, h2 => by
    simp only [lineT]
    split
    · rfl
    · split
      · exact line_fuel f g r n (a + 1) (by simpa using h1) (by simpa using h2)
      · split
        · rfl
        · rename_i s w e
          obtain ⟨p1, p2, _⟩ := word_pos e
          have e3 := line_fuel f g ((c :: r).drop w.length) n (a + w.length) (by rw [List.length_drop]; simp at h1 ⊢; omega) (by rw [List.length_drop]; simp at h2 ⊢; omega)
          rw [e3]
theorem rest_end {n c : Nat} : restT [[]] n c = [tokD t_end [] n c] := rfl
theorem rest_next {l : List Nat} {ls : List (List Nat)} {n c : Nat} : restT ([] :: l :: ls) n c = restT (l :: ls) (n + 1) 0 := rfl
theorem rest_hash {r : List Nat} {ls : List (List Nat)} {n c : Nat} : restT ((35 :: r) :: ls) n c = restT ([] :: ls) n (c + (35 :: r).length) := by
  cases ls <;> simp [restT, lineT]
theorem rest_blank {r : List Nat} {ls : List (List Nat)} {n c : Nat} : restT ((32 :: r) :: ls) n c = restT (r :: ls) n (c + 1) := by
  have e : lineT (32 :: r).length (32 :: r) n c = lineT r.length r n (c + 1) := by
    show lineT (r.length + 1) (32 :: r) n c = _
    simp [lineT]
  simp only [restT, e]
  have e2 : c + (r.length + 1) = c + 1 + r.length := by omega
  cases ls <;> simp [e2]
theorem rest_bad {c : Nat} {r w : List Nat} {ls : List (List Nat)} {n a : Nat} (h1 : c ≠ 35) (h2 : c ≠ 32) (e : wordAt (c :: r) = .bad w) : restT ((c :: r) :: ls) n a = [tokD t_bad w n a] := by
  have e' : lineT (c :: r).length (c :: r) n a = ([tokD t_bad w n a], true) := by
    show lineT (r.length + 1) (c :: r) n a = _
    simp [lineT, h1, h2, e]
  simp only [restT, e', if_true]
theorem rest_word {c : Nat} {r s w : List Nat} {ls : List (List Nat)} {n a : Nat} (h1 : c ≠ 35) (h2 : c ≠ 32) (e : wordAt (c :: r) = .good s w) : restT ((c :: r) :: ls) n a = tokD s w n a :: restT ((c :: r).drop w.length :: ls) n (a + w.length) := by
  obtain ⟨p1, p2, _⟩ := word_pos e
  have e' : lineT (c :: r).length (c :: r) n a = (tokD s w n a :: (lineT ((c :: r).drop w.length).length ((c :: r).drop w.length) n (a + w.length)).1, (lineT ((c :: r).drop w.length).length ((c :: r).drop w.length) n (a + w.length)).2) := by
    show lineT (r.length + 1) (c :: r) n a = _
    simp only [lineT, h1, h2, e, if_false]
    rw [line_fuel r.length ((c :: r).drop w.length).length _ _ _ (by rw [List.length_drop]; simp at p2 ⊢; omega) (Nat.le_refl _)]
  have e2 : a + (c :: r).length = a + w.length + ((c :: r).drop w.length).length := by rw [List.length_drop]; omega
  simp only [restT, e']
  split
  · rfl
  · cases ls <;> simp only [List.cons_append, e2]
/-! ### words_in, words_of -/
theorem split_ne (c : Nat) (t : List Nat) : splitC c t ≠ [] := by
  induction t with
  | nil => simp [splitC]
  | cons x r ih =>
    simp only [splitC]
    split
    · simp
    · split <;> simp
theorem split_all {p : Nat → Bool} {c : Nat} : ∀ {t : List Nat}, t.all p = true → ∀ l ∈ splitC c t, l.all p = true
  | [], _, l, hl => by simp [splitC] at hl; subst hl; rfl
  | x :: r, h, l, hl => by
    simp only [List.all_cons, Bool.and_eq_true] at h
    have ih := split_all (c := c) h.2
    simp only [splitC] at hl
    split at hl
    · rcases List.mem_cons.mp hl with rfl | hl
      · rfl
      · exact ih l hl
    · split at hl
      · simp at hl; subst hl; simp [h.1]
      · rename_i w ws e
        rcases List.mem_cons.mp hl with rfl | hl
        · simp only [List.all_cons, Bool.and_eq_true]
          exact ⟨h.1, ih w (by rw [e]; exact List.mem_cons_self ..)⟩
        · exact ih l (by rw [e]; exact List.mem_cons_of_mem _ hl)
theorem split_len {c : Nat} : ∀ {t : List Nat}, ∀ l ∈ splitC c t, l.length ≤ t.length
  | [], l, hl => by simp [splitC] at hl; subst hl; exact Nat.le_refl _
  | x :: r, l, hl => by
    have ih := split_len (c := c) (t := r)
    simp only [splitC] at hl
    split at hl
    · rcases List.mem_cons.mp hl with rfl | hl
      · simp
      · have := ih l hl; simp; omega
    · split at hl
      · simp at hl; subst hl; simp
      · rename_i w ws e
        rcases List.mem_cons.mp hl with rfl | hl
        · have := ih w (by rw [e]; exact List.mem_cons_self ..); simp; omega
        · have := ih l (by rw [e]; exact List.mem_cons_of_mem _ hl); simp; omega
theorem split_num {c : Nat} : ∀ {t : List Nat}, (splitC c t).length ≤ t.length + 1
  | [] => by simp [splitC]
  | x :: r => by
    have ih := split_num (c := c) (t := r)
    simp only [splitC]
    split
    · simp; omega
    · split
      · simp
      · rename_i w ws e
        rw [e] at ih
        simp at ih ⊢; omega
theorem rest_len : ∀ (ls : List (List Nat)) (n c : Nat), (restT ls n c).length ≤ (ls.map fun l => l.length + 1).sum := by
  have line : ∀ (f : Nat) (l : List Nat) (n a : Nat), l.length ≤ f → (lineT f l n a).1.length ≤ l.length + 1 ∧ ((lineT f l n a).2 = false → (lineT f l n a).1.length ≤ l.length) := by
    intro f
    induction f with
    | zero => intro l n a _; exact ⟨by simp [lineT], fun _ => by simp [lineT]⟩
    | succ f ih =>
      intro l n a hl
      cases l with
      | nil => exact ⟨by simp [lineT], fun _ => by simp [lineT]⟩
      | cons c r =>
        simp only [lineT]
        split
        · simp
        · split
          · have := ih r n (a + 1) (by simpa using hl)
            simp only [List.length_cons]
            exact ⟨by omega, fun q => by have := this.2 q; omega⟩
          · split
            · simp
            · rename_i s w e
              obtain ⟨p1, p2, _⟩ := word_pos e
              have := ih ((c :: r).drop w.length) n (a + w.length) (by rw [List.length_drop]; simp at hl ⊢; omega)
              rw [List.length_drop] at this
              simp only [List.length_cons] at this p2 ⊢
              exact ⟨by omega, fun q => by have := this.2 q; omega⟩
  intro ls
  induction ls with
  | nil => intro n c; simp [restT]
  | cons l ls ih =>
    intro n c
    have h1 := line l.length l n c (Nat.le_refl _)
    simp only [restT, List.map_cons, List.sum_cons]
    split
    · omega
    · rename_i hb
      have h2 := h1.2 (by simpa using hb)
      rw [List.length_append]
      split
      · simp; omega
      · have := ih (n + 1) 0; omega
theorem split_sum {c : Nat} : ∀ t : List Nat, ((splitC c t).map fun l => l.length + 1).sum = t.length + 1
  | [] => by simp [splitC]
  | x :: r => by
    have ih := split_sum (c := c) r
    simp only [splitC]
    split
    · simp [ih]; omega
    · split
      · rename_i e; exact absurd e (split_ne c r)
      · rename_i w ws e
        rw [e] at ih
        simp at ih ⊢; omega
theorem scan_len (t : List Nat) : (scan t).length ≤ t.length + 1 := by
  have := rest_len (splitC 10 t) 0 0
  rw [split_sum] at this
  exact this
theorem word_sort {l s w : List Nat} (e : wordAt l = .good s w) : s = t_own ∨ s = t_name ∨ s = t_number ∨ s = t_sign := by
  unfold wordAt at e
  split at e
  · cases e
  · split at e
    · split at e
      · cases e
      · cases e
        split
        · exact .inl rfl
        · exact .inr (.inl rfl)
    · split at e
      · split at e
        · cases e
        · cases e; exact .inr (.inr (.inl rfl))
      · split at e
        · cases e; exact .inr (.inr (.inr rfl))
        · split at e
          · cases e; exact .inr (.inr (.inr rfl))
          · cases e
theorem sort_good {l s w : List Nat} (e : wordAt l = .good s w) : goodStr s = true ∧ s ≠ t_bad := by
  rcases word_sort e with rfl | rfl | rfl | rfl <;> exact ⟨by decide, by decide⟩
theorem rest_ne {l : List Nat} {ls : List (List Nat)} {n c : Nat} : restT (l :: ls) n c ≠ [] := by
  have key : ∀ (f : Nat) (l : List Nat) (n a : Nat), (lineT f l n a).2 = true → (lineT f l n a).1 ≠ [] := by
    intro f
    induction f with
    | zero => intro l n a h; simp [lineT] at h
    | succ f ih =>
      intro l n a h
      cases l with
      | nil => simp [lineT] at h
      | cons c r =>
        simp only [lineT] at h ⊢
        split
        · rename_i h1; simp [h1] at h
        · rename_i h1
          rw [if_neg h1] at h
          split
          · rename_i h2; rw [if_pos h2] at h; exact ih _ _ _ h
          · split <;> simp
  induction ls generalizing l n c with
  | nil =>
    simp only [restT]
    split
    · rename_i h; exact key _ _ _ _ h
    · simp
  | cons l' ls ih =>
    have e : restT (l :: l' :: ls) n c = if (lineT l.length l n c).2 = true then (lineT l.length l n c).1 else (lineT l.length l n c).1 ++ restT (l' :: ls) (n + 1) 0 := rfl
    rw [e]
    split
    · rename_i h; exact key _ _ _ _ h
    · intro q
      exact ih (List.append_eq_nil_iff.mp q).2
theorem words_in_ok {k : Nat} {t : List Nat} {h : Hx} {Q : D → Hx → Prop} (gt : t.all goodSign = true) (ht : t.length + 2 ≤ LIM) (q : ∀ h', Fr [] h h' → h'[h.length]? = some (.lst (scan t)) → Q (.ref h.length) h') :
    wpC (CC (k + 4)) 4 [.str t] h Q := by
  refine call_ok (fn := f_words_in) rfl rfl ?_
  simp [f_words_in, b_words_in]
  refine ⟨rfl, ht, ?_⟩
  generalize hls : splitC 10 t = ls
  have hne : ls ≠ [] := hls ▸ split_ne 10 t
  generalize hN : ls.length = n
  have hn1 : 1 ≤ n := by rw [← hN]; cases ls with
    | nil => exact absurd rfl hne
    | cons _ _ => simp
  have hnl : n ≤ t.length + 1 := by rw [← hN, ← hls]; exact split_num
  have hsc : restT ls 0 0 = scan t := by rw [← hls]; rfl
  obtain ⟨Inv, hInv⟩ : ∃ Inv : Nat → List D → Prop, ∀ i found, Inv i found ↔ ((i < n → found ++ restT (ls.drop i) i 0 = scan t) ∧ (i = n → ∃ l, ls[n - 1]? = some l ∧ found ++ [tokD t_end [] (n - 1 : Nat) l.length] = scan t)) := ⟨_, fun _ _ => Iff.rfl⟩
  have el : (rngD 0 n).length = n := by simp [rngD]
  have hlim : ∀ {found more : List D}, found ++ more = scan t → more ≠ [] → found.length < LIM := fun {found more} e hm => by
    have h1 := scan_len t
    rw [← e, List.length_append] at h1
    have : 1 ≤ more.length := by cases more with
      | nil => exact absurd rfl hm
      | cons _ _ => simp
    omega
  obtain ⟨I, hI⟩ : ∃ I : List D → Sx → Hx → Prop, ∀ xs s h', I xs s h' ↔ ∃ (i : Nat) (x3 x4 x5 x6 x7 : Option D) (found : List D), xs = (rngD 0 n).drop i ∧ i ≤ n ∧ s = [some (.str t), some (.ref h.length), some (.ref (h.length + 1)), x3, x4, x5, x6, x7] ∧
    Fr [] h h' ∧ h'[h.length]? = some (.lst found) ∧ h'[h.length + 1]? = some (.lst (ls.map .str)) ∧ Inv i found := ⟨_, fun _ _ _ => Iff.rfl⟩
  refine for_ok (Q := fun w h1 => w = (rngD 0 n, .none) ∧ h1 = h ++ [.lst [], .lst (ls.map .str)]) ?_ I ?_
  · simp
    rw [wf_lenL (z := ls.map .str) (by simp)]
    simp [hN]
    have : (n : Int) < 2 ^ 62 := by unfold LIM at ht; omega
    omega
  · rintro w h1 ⟨rfl, rfl⟩
    refine ⟨(hI _ _ _).mpr ⟨0, none, none, none, none, none, [], rfl, Nat.zero_le _, rfl, Fr.app .refl, by simp, by simp, (hInv _ _).mpr ⟨fun _ => by simpa using hsc, fun z => by omega⟩⟩, fun _ _ _ _ => rfl, ?_, ?_⟩
    · intro s h' i0
      obtain ⟨i, x3, x4, x5, x6, x7, found, hx, hi, rfl, fr, h1, h2, iv⟩ := (hI _ _ _).mp i0
      have e : i = n := by
        have := congrArg List.length hx
        rw [List.length_drop, el] at this
        simp at this; omega
      subst e
      obtain ⟨l, e1, e2⟩ := ((hInv _ _).mp iv).2 rfl
      have hll : l.length ≤ LIM := by
        have := split_len (c := 10) (t := t) l (by rw [hls]; exact List.mem_of_getElem? e1)
        omega
      simp
      rw [wf_lenL h2]
      have hm : hasM h' Bm.append (D.ref h.length) = true := by simp [hasM, h1]
      have hg : getIx (.ref (h.length + 1)) (.int (-1)) h' = some (.str l) := by
        simp only [getIx, h2, atD_last, List.length_map, List.getElem?_map, hN, e1, Option.map_some]
      simp [hm, hg, hll]
      rw [wm_app h1]
      refine ⟨hlim e2 (by simp), ?_⟩
      refine q _ (Fr.setNew fr (Nat.le_refl _)) ?_
      rw [List.getElem?_set_self (List.getElem?_eq_some_iff.mp h1).1, ← e2]
      have : ((ls.length : Int) - 1) = ((i - 1 : Nat) : Int) := by omega
      simp [tokD, t_end, this]
    · intro x xs s h' i0
      obtain ⟨i, x3, x4, x5, x6, x7, found, hx, hi, rfl, fr, h1, h2, iv⟩ := (hI _ _ _).mp i0
      have hlt : i < n := by
        have := congrArg List.length hx
        rw [List.length_drop, el] at this
        simp at this; omega
      have ex : x = .int i ∧ xs = (rngD 0 n).drop (i + 1) := by
        rw [List.drop_eq_getElem_cons (by rw [el]; exact hlt)] at hx
        obtain ⟨a, b⟩ := List.cons.inj hx
        exact ⟨by rw [a]; simp [rngD], b⟩
      obtain ⟨rfl, rfl⟩ := ex
      obtain ⟨l, hl⟩ : ∃ l, ls[i]? = some l := ⟨_, List.getElem?_eq_getElem (by omega)⟩
      have hmem : l ∈ splitC 10 t := by rw [hls]; exact List.mem_of_getElem? hl
      have hll : l.length ≤ LIM := by
        have := split_len (c := 10) (t := t) l hmem
        omega
      have gl := split_all (c := 10) gt l hmem
      have hdrop : ls.drop i = l :: ls.drop (i + 1) := by
        obtain ⟨a, b⟩ := List.getElem?_eq_some_iff.mp hl
        rw [List.drop_eq_getElem_cons a, b]
      simp [getIx, h2, hl]
      refine whl_ok (fun m s h' => ∃ (e : Nat) (x6 x7 : Option D) (found : List D), s = [some (.str t), some (.ref h.length), some (.ref (h.length + 1)), some (.int i), some (.str l), some (.int e), x6, x7] ∧ l.length ≤ e + m ∧ e ≤ l.length ∧
        Fr [] h h' ∧ h'[h.length]? = some (.lst found) ∧ h'[h.length + 1]? = some (.lst (ls.map .str)) ∧ found ++ restT (l.drop e :: ls.drop (i + 1)) i e = scan t) ?_ l.length (fuel_lim (by omega)) ⟨0, x6, x7, found, rfl, by omega, Nat.zero_le _, fr, h1, h2, by
          have := ((hInv _ _).mp iv).1 hlt
          rw [hdrop] at this
          exact this⟩
      -- behind a line
      have fin : ∀ (e : Nat) (x6 x7 : Option D) (found : List D) (h' : Hx), Fr [] h h' → h'[h.length]? = some (.lst found) → h'[h.length + 1]? = some (.lst (ls.map .str)) → found ++ restT ([] :: ls.drop (i + 1)) i l.length = scan t →
          I ((rngD 0 n).drop (i + 1)) [some (.str t), some (.ref h.length), some (.ref (h.length + 1)), some (.int i), some (.str l), some (.int e), x6, x7] h' := fun e x6 x7 found h' fr h1 h2 es => by
        refine (hI _ _ _).mpr ⟨i + 1, _, _, _, _, _, found, rfl, hlt, rfl, fr, h1, h2, (hInv _ _).mpr ⟨fun hz => ?_, fun hz => ?_⟩⟩
        · have hd := List.drop_eq_getElem_cons (l := ls) (i := i + 1) (by omega)
          rw [hd] at es ⊢
          rw [rest_next] at es
          exact es
        · have hd : ls.drop (i + 1) = [] := List.drop_eq_nil_of_le (by omega)
          rw [hd, rest_end] at es
          have e1 : n - 1 = i := by omega
          rw [e1]
          exact ⟨l, hl, es⟩
      rintro m s h' ⟨e, x6, x7, found, rfl, hm0, he, fr, h1, h2, es⟩
      simp [getIx, hll]
      by_cases hle : l.length ≤ e
      · have e0 : e = l.length := by omega
        rw [List.drop_eq_nil_of_le hle] at es
        subst e0
        exact .inl ⟨Nat.le_refl _, fin _ x6 x7 found h' fr h1 h2 es⟩
      · right
        obtain ⟨c, hc⟩ : ∃ c, l[e]? = some c := ⟨_, List.getElem?_eq_getElem (by omega)⟩
        have hdr : l.drop e = c :: l.drop (e + 1) := by
          obtain ⟨a, b⟩ := List.getElem?_eq_some_iff.mp hc
          rw [List.drop_eq_getElem_cons a, b]
        have gc : goodSign c = true := List.all_eq_true.mp gl c (List.mem_of_getElem? hc)
        refine ⟨by omega, _, ⟨c, hc, rfl⟩, ?_⟩
        rw [eq_str (good_one gc) (by decide)]
        by_cases h35 : c = 35
        · left
          refine ⟨by simp [h35], fin e x6 x7 found h' fr h1 h2 ?_⟩
          rw [hdr, h35, rest_hash] at es
          have e1 : e + (35 :: l.drop (e + 1)).length = l.length := by simp; omega
          rw [e1] at es
          exact es
        · right
          refine ⟨by simp [h35], m - 1, by omega, _, ⟨c, hc, rfl⟩, ?_⟩
          rw [eq_str (good_one gc) (by decide)]
          by_cases h32 : c = 32
          · right
            rw [hdr, h32, rest_blank] at es
            exact ⟨by simp [h32], _, rfl, e + 1, rfl, by omega, by omega, fr, _, h1, h2, es⟩
          · left
            refine ⟨by simp [h32], word_from_ok gl hll hdr ?_⟩
            have hm : hasM h' Bm.append (D.ref h.length) = true := by simp [hasM, h1]
            cases ew : wordAt (l.drop e) with
            | bad w =>
              rw [hdr] at ew
              rw [hdr, rest_bad h35 h32 ew] at es
              simp [Wd.d, hm]
              rw [wm_app h1]
              refine ⟨hlim es (by simp), ?_⟩
              rw [eq_str (by decide) (by decide)]
              refine .inr ⟨by decide, q _ (Fr.setNew fr (Nat.le_refl _)) ?_⟩
              rw [List.getElem?_set_self (List.getElem?_eq_some_iff.mp h1).1, ← es]
              rfl
            | good s w =>
              rw [hdr] at ew
              obtain ⟨p1, p2, p3⟩ := word_pos ew
              obtain ⟨g1, g2⟩ := sort_good ew
              rw [hdr, rest_word h35 h32 ew, ← hdr] at es
              simp [Wd.d, hm]
              rw [wm_app h1]
              have hwl : w.length ≤ LIM := by simp at p2; omega
              refine ⟨hlim es (by simp), ?_⟩
              rw [eq_str g1 (by decide)]
              refine .inl ⟨by simpa [t_bad] using g2, ?_⟩
              refine ⟨hwl, _, rfl, e + w.length, rfl, by omega, by simp at p2; omega, Fr.setNew fr (Nat.le_refl _), _, List.getElem?_set_self (List.getElem?_eq_some_iff.mp h1).1, ?_, ?_⟩
              · rw [List.getElem?_set_ne (by omega)]; exact h2
              · rw [← es]
                simp [tokD]
theorem words_of_ok {k : Nat} {t : List Nat} {h : Hx} {Q : D → Hx → Prop} (gt : t.all goodSign = true) (ht : t.length + 2 ≤ LIM) (q : ∀ h', Fr [] h h' → Q (.tup (scan t)) h') :
    wpC (CC (k + 5)) 5 [.str t] h Q := by
  refine call_ok (fn := f_words_of) rfl rfl ?_
  simp [f_words_of, b_words_of, known, isOf]
  refine words_in_ok gt ht fun h' fr e => ?_
  rw [wf_tupL e]
  exact q h' fr
theorem words_of_not {k : Nat} {d : D} {h : Hx} {Q : D → Hx → Prop} (hk : known h d = true) (hd : isOf h (fun _ _ => false) d .str = false) (q : Q (.tup [tokD t_bad [116, 101, 120, 116] 0 0]) h) : wpC (CC (k + 1)) 5 [d] h Q := by
  refine call_ok (fn := f_words_of) rfl rfl ?_
  simp [f_words_of, b_words_of, hk, hd]
  exact q
end K44
end

section
set_option autoImplicit false
set_option linter.all false
set_option Elab.async false
set_option maxRecDepth 100000
set_option maxHeartbeats 4000000
namespace K44
open Ev
/-! ### the law's own tokenizer -/
theorem split_cons {c : Nat} {r cur : List Nat} {ls : List (List Nat)} (hc : c ≠ 10) (e : splitC 10 r = cur :: ls) : splitC 10 (c :: r) = (c :: cur) :: ls := by
  simp [splitC, hc, e]
theorem split_drop : ∀ {x : List Nat} {w : Nat} {cur : List Nat} {ls : List (List Nat)}, splitC 10 x = cur :: ls → w ≤ cur.length → splitC 10 (x.drop w) = cur.drop w :: ls
  | x, 0, cur, ls, e, _ => by simpa using e
  | [], w + 1, cur, ls, e, h => by
    simp [splitC] at e
    obtain ⟨rfl, rfl⟩ := e
    simp at h
  | c :: r, w + 1, cur, ls, e, h => by
    by_cases hc : c = 10
    · simp [splitC, hc] at e
      obtain ⟨rfl, rfl⟩ := e
      simp at h
    · obtain ⟨a, b, q⟩ : ∃ a b, splitC 10 r = a :: b := by
        cases q : splitC 10 r with
        | nil => exact absurd q (split_ne 10 r)
        | cons a b => exact ⟨a, b, rfl⟩
      rw [split_cons hc q] at e
      cases e
      simp only [List.drop_succ_cons]
      exact split_drop q (by simpa using h)
theorem split_take : ∀ {x : List Nat} {w : Nat} {cur : List Nat} {ls : List (List Nat)}, splitC 10 x = cur :: ls → w ≤ cur.length → x.take w = cur.take w
  | x, 0, cur, ls, e, _ => by simp
  | [], w + 1, cur, ls, e, h => by
    simp [splitC] at e
    obtain ⟨rfl, rfl⟩ := e
    simp at h
  | c :: r, w + 1, cur, ls, e, h => by
    by_cases hc : c = 10
    · simp [splitC, hc] at e
      obtain ⟨rfl, rfl⟩ := e
      simp at h
    · obtain ⟨a, b, q⟩ : ∃ a b, splitC 10 r = a :: b := by
        cases q : splitC 10 r with
        | nil => exact absurd q (split_ne 10 r)
        | cons a b => exact ⟨a, b, rfl⟩
      rw [split_cons hc q] at e
      cases e
      simp only [List.take_succ_cons]
      rw [split_take q (by simpa using h)]
/-- a line and what is behind it -/
theorem split_behind : ∀ {x cur : List Nat} {ls : List (List Nat)}, splitC 10 x = cur :: ls → x.drop cur.length = [] ∨ ∃ r, x.drop cur.length = 10 :: r
  | [], cur, ls, e => by
    simp [splitC] at e
    obtain ⟨rfl, rfl⟩ := e
    exact .inl rfl
  | c :: r, cur, ls, e => by
    by_cases hc : c = 10
    · simp [splitC, hc] at e
      obtain ⟨rfl, rfl⟩ := e
      exact .inr ⟨r, by simp [hc]⟩
    · obtain ⟨a, b, q⟩ : ∃ a b, splitC 10 r = a :: b := by
        cases q : splitC 10 r with
        | nil => exact absurd q (split_ne 10 r)
        | cons a b => exact ⟨a, b, rfl⟩
      rw [split_cons hc q] at e
      cases e
      simpa using split_behind q
theorem split_le {x cur : List Nat} {ls : List (List Nat)} (e : splitC 10 x = cur :: ls) : cur.length ≤ x.length := split_len cur (by rw [e]; exact List.mem_cons_self ..)
theorem split_no : ∀ {x cur : List Nat} {ls : List (List Nat)}, splitC 10 x = cur :: ls → 10 ∉ cur
  | [], cur, ls, e => by
    simp [splitC] at e
    obtain ⟨rfl, rfl⟩ := e
    simp
  | c :: r, cur, ls, e => by
    by_cases hc : c = 10
    · simp [splitC, hc] at e
      obtain ⟨rfl, rfl⟩ := e
      simp
    · obtain ⟨a, b, q⟩ : ∃ a b, splitC 10 r = a :: b := by
        cases q : splitC 10 r with
        | nil => exact absurd q (split_ne 10 r)
        | cons a b => exact ⟨a, b, rfl⟩
      rw [split_cons hc q] at e
      cases e
      have := split_no q
      simp [this]; omega
theorem split_eq {x cur : List Nat} {ls : List (List Nat)} (e : splitC 10 x = cur :: ls) : x = cur ++ x.drop cur.length := by
  have h := split_take e (Nat.le_refl _)
  rw [List.take_length] at h
  calc x = x.take cur.length ++ x.drop cur.length := (List.take_append_drop _ _).symm
    _ = _ := by rw [h]
theorem span_line {x cur S : List Nat} {ls : List (List Nat)} (e : splitC 10 x = cur :: ls) (h10 : 10 ∉ S) : span x S = span cur S := by
  have h := split_eq e
  rw [h]
  unfold span
  rw [List.takeWhile_append]
  split
  · rename_i hl
    rcases split_behind e with q | ⟨r, q⟩
    · rw [q]; simp [hl]
    · rw [q]; simp [List.takeWhile, h10, hl]
  · rfl
theorem two_line {x cur : List Nat} {ls : List (List Nat)} {a b : Nat} (e : splitC 10 x = cur :: ls) (hb : b ≠ 10) (hne : cur ≠ []) : x.take 2 = [a, b] ↔ cur.take 2 = [a, b] := by
  cases cur with
  | nil => exact absurd rfl hne
  | cons c cur' =>
    cases cur' with
    | cons d cur'' => rw [split_take e (by simp)]
    | nil =>
      have h := split_eq e
      have hb' := split_behind e
      rcases hb' with q | ⟨r, q⟩
      · rw [h, q]; simp
      · rw [h, q]
        simp
        intro _ z
        exact absurd z.symm hb
theorem takeWhile_all {p : Nat → Bool} : ∀ {l : List Nat}, (∀ x ∈ l, p x = true) → l.takeWhile p = l
  | [], _ => rfl
  | x :: l, h => by
    rw [List.takeWhile_cons, h x (List.mem_cons_self ..)]
    simp only [if_true]
    rw [takeWhile_all fun y hy => h y (List.mem_cons_of_mem _ hy)]
/-! pieces of a body -/
def nthS : Sl → Nat → S1
  | .cons a _, 0 => a
  | .cons _ r, n + 1 => nthS r n
  | .nil, _ => .pass
def dropS : Sl → Nat → Sl
  | .cons _ r, n + 1 => dropS r n
  | r, _ => r
def bodyOf : S1 → Sl
  | .whl _ b => b
  | .for_ _ _ b => b
  | .iff _ a _ => a
  | _ => .nil
def elseOf : S1 → Sl
  | .iff _ _ b => b
  | _ => .nil
def lwBody : Sl := bodyOf (nthS b__law_words 3)
def lwTail : Sl := dropS lwBody 3
def lwChain : S1 := nthS lwBody 2
abbrev st11 (t : List Nat) (a n c e : Nat) (x8 : D) (E : Nat) (x10 : D) : Sx := [some (.str t), some (.str LET), some (.str DIG), some (.ref a), some (.ref (a + 1)), some (.int n), some (.int c), some (.int e), some x8, some (.int E), some x10]
section
variable {C : Call} {F : Nat} {P : Post} {t : List Nat} {a n c e E : Nat} {x8 x10 : D} {h : Hx}
theorem lw_tail0 (he : e ≤ E) (q : P.nx (st11 t a n (c + E - e) E x8 E .non) h) : wSl C F lwTail (st11 t a n c e x8 E .non) h P := by
  simp [lwTail, lwBody, b__law_words, nthS, dropS, bodyOf, setAll]
  rw [show ((c : Int) + E - e) = ((c + E - e : Nat) : Int) by omega]
  exact q
theorem lw_tail1 {s : List Nat} {found : List D} (he : e ≤ E) (ht : t.length ≤ LIM) (hf : h[a + 1]? = some (.lst found)) (hl : found.length < LIM) (q : P.nx (st11 t a n (c + E - e) E x8 E (.str s)) (h.set (a + 1) (.lst (found ++ [tokD s ((t.drop e).take (E - e)) n c])))) : wSl C F lwTail (st11 t a n c e x8 E (.str s)) h P := by
  have hm : hasM h Bm.append (D.ref (a + 1)) = true := by simp [hasM, hf]
  simp [lwTail, lwBody, b__law_words, nthS, dropS, bodyOf, setAll, hm, slice, ht]
  rw [wm_app hf]
  refine ⟨hl, ?_⟩
  rw [show ((c : Int) + E - e) = ((c + E - e : Nat) : Int) by omega]
  exact q
theorem span_loop {cnd : T} {p : Nat → Bool} (ht : t.length < F) (hE : E ≤ t.length) (hc : ∀ (E : Nat) (Q : Bool → Hx → Prop), E ≤ t.length → (match t[E]? with
    | some ch => Q (p ch) h
    | none => Q false h) → wpT C cnd (st11 t a n c e x8 E x10) h Q) (q : P.nx (st11 t a n c e x8 (E + ((t.drop E).takeWhile p).length) x10) h) :
    wS C F (.whl cnd (.cons (.asg (.nm 9) (.bin .add (.var 9) (.int 1))) .nil)) (st11 t a n c e x8 E x10) h P := by
  refine whl_ok (fun m s h' => h' = h ∧ ∃ G : Nat, s = st11 t a n c e x8 G x10 ∧ m = t.length - G ∧ G ≤ t.length ∧ G + ((t.drop G).takeWhile p).length = E + ((t.drop E).takeWhile p).length) ?_ (t.length - E) (by omega) ⟨rfl, E, rfl, rfl, hE, rfl⟩
  rintro m s h' ⟨rfl, G, rfl, rfl, hG, hs⟩
  refine hc G _ hG ?_
  by_cases hlt : G < t.length
  · have eg : t[G]? = some t[G] := List.getElem?_eq_getElem hlt
    rw [eg]
    rw [List.drop_eq_getElem_cons hlt] at hs
    cases hp : p t[G] with
    | false =>
      simp [List.takeWhile, hp] at hs
      simp only [hp, Bool.false_eq_true, if_false]
      rw [hs]; exact q
    | true =>
      simp [List.takeWhile, hp] at hs
      simp only [hp, if_true]
      refine ⟨t.length - (G + 1), by omega, ?_⟩
      simp
      exact ⟨G + 1, rfl, rfl, hlt, by omega⟩
  · rw [List.getElem?_eq_none (by omega)]
    rw [List.drop_eq_nil_of_le (by omega)] at hs
    simp at hs
    simp only [Bool.false_eq_true, if_false]
    rw [hs]; exact q
theorem lw_chain {ch : Nat} {cur' : List Nat} {ls : List (List Nat)} (gt : t.all goodSign = true) (ht : t.length ≤ LIM) (hF : t.length < F) (hc : t[e]? = some ch) (hcur : splitC 10 (t.drop e) = (ch :: cur') :: ls) (h1 : h[a]? = some (.lst (OWN.map .str)))
    (q35 : ch = 35 → P.nx (st11 t a n c e (.str [ch]) (e + (ch :: cur').length) .non) h) (q32 : ch = 32 → P.nx (st11 t a n c e (.str [ch]) (e + 1) .non) h)
    (qg : ∀ s w, ch ≠ 35 → ch ≠ 32 → wordAt (ch :: cur') = .good s w → P.nx (st11 t a n c e (.str [ch]) (e + w.length) (.str s)) h)
    (qb : ∀ w, ch ≠ 35 → ch ≠ 32 → wordAt (ch :: cur') = .bad w → Wp (binop .add (.ref (a + 1)) (.ref h.length) (h ++ [.lst [tokD t_bad w n c]])) P.rt) :
    wS C F lwChain (st11 t a n c e (.str [ch]) (e + 1) .non) h P := by
  have he : e < t.length := (List.getElem?_eq_some_iff.mp hc).1
  have gc : goodSign ch = true := List.all_eq_true.mp gt ch (List.mem_of_getElem? hc)
  have hdr : t.drop e = ch :: t.drop (e + 1) := by
    obtain ⟨a, b⟩ := List.getElem?_eq_some_iff.mp hc
    rw [List.drop_eq_getElem_cons a, b]
  have hle : (ch :: cur').length ≤ (t.drop e).length := split_le hcur
  rw [List.length_drop] at hle
  have eD : [48, 49, 50, 51, 52, 53, 54, 55, 56, 57] = DIG := rfl
  have e1 : splitC 10 (t.drop (e + 1)) = cur' :: ls := by
    have := split_drop hcur (w := 1) (by simp)
    rw [List.drop_drop] at this
    simpa using this
  simp [lwChain, lwBody, b__law_words, nthS, dropS, bodyOf]
  rw [eq_str (good_one gc) (by decide)]
  by_cases h35 : ch = 35
  · right
    refine ⟨by simp [h35], span_loop (p := fun c => decide (c ≠ 10)) hF he (fun E Q hE hq => ?_) ?_⟩
    · simp [ht]
      by_cases hlt : E < t.length
      · right
        rw [List.getElem?_eq_getElem hlt] at hq
        refine ⟨hlt, .str [t[E]], by simp [getIx, ht, hlt], ?_⟩
        rw [eq_str (good_one (List.all_eq_true.mp gt _ (List.getElem_mem hlt))) (by decide)]
        by_cases hx : t[E] = 10
        · simp [hx] at hq ⊢; exact hq
        · simp [hx] at hq ⊢; exact hq
      · left
        rw [List.getElem?_eq_none (by omega)] at hq
        exact ⟨by omega, hq⟩
    · have : ((t.drop (e + 1)).takeWhile fun c => decide (c ≠ 10)).length = cur'.length := by
        have hx := split_eq e1
        have hn := split_no e1
        rw [hx, List.takeWhile_append]
        have hall : (cur'.takeWhile fun c => decide (c ≠ 10)) = cur' := takeWhile_all fun x hx => by simpa using fun z : x = 10 => hn (z ▸ hx)
        rw [hall]
        simp only [if_true]
        rcases split_behind e1 with z | ⟨r, z⟩
        · rw [z]; simp
        · rw [z]; simp [List.takeWhile]
      rw [this]
      have := q35 h35
      rw [show e + 1 + cur'.length = e + (ch :: cur').length by simp; omega]
      exact this
  · left
    refine ⟨by simp [h35], ?_⟩
    by_cases hL : ch ∈ LET
    · right
      refine ⟨hL, ?_⟩
      have h32 : ch ≠ 32 := by rintro rfl; exact absurd hL (by decide)
      refine span_loop (p := fun c => decide (c ∈ SIG)) hF he (fun E Q hE hq => ?_) ?_
      · have eS : LET ++ (DIG ++ [95]) = SIG := by decide
        simp [ht, eS]
        by_cases hlt : E < t.length
        · right
          rw [List.getElem?_eq_getElem hlt] at hq
          refine ⟨hlt, .str [t[E]], by simp [getIx, ht, hlt], by decide, by decide, ?_⟩
          by_cases hx : t[E] ∈ SIG
          · simp [hx] at hq ⊢; exact hq
          · simp [hx] at hq ⊢; exact hq
        · left
          rw [List.getElem?_eq_none (by omega)] at hq
          exact ⟨by omega, hq⟩
      · have hsp : e + 1 + ((t.drop (e + 1)).takeWhile fun c => decide (c ∈ SIG)).length = e + span (ch :: cur') SIG := by
          have z := span_line e1 (S := SIG) (by decide)
          unfold span at z
          rw [z]
          simp [span, List.takeWhile, let_sig ch hL]; omega
        rw [hsp]
        have hk := span_le (ch :: cur') SIG
        have htk : (t.drop e).take (span (ch :: cur') SIG) = (ch :: cur').take (span (ch :: cur') SIG) := split_take hcur hk
        generalize hkk : span (ch :: cur') SIG = k at hk htk
        have hwa : wordAt (ch :: cur') = if k > 12 then .bad t_word else .good (if isOwn ((ch :: cur').take k) then t_own else t_name) ((ch :: cur').take k) := by
          simp only [wordAt, hL, if_true, hkk]
        have hlen : ((ch :: cur').take k).length = k := by rw [List.length_take]; omega
        simp [slice, ht, isIn_ref h1, htk]
        by_cases hk12 : k > 12
        · have z := qb t_word h35 h32 (by rw [hwa, if_pos hk12])
          by_cases ho : (ch :: cur').take k ∈ OWN
          · exact .inr ⟨ho, .inr ⟨by omega, z⟩⟩
          · exact .inl ⟨ho, .inr ⟨by omega, z⟩⟩
        · have z := qg _ _ h35 h32 (by rw [hwa, if_neg hk12])
          rw [hlen] at z
          by_cases ho : (ch :: cur').take k ∈ OWN
          · refine .inr ⟨ho, .inl ⟨by omega, ?_⟩⟩
            simp only [isOwn, ho, decide_true, if_true] at z
            exact z
          · refine .inl ⟨ho, .inl ⟨by omega, ?_⟩⟩
            simp only [isOwn, ho, decide_false, Bool.false_eq_true, if_false] at z
            exact z
    · left
      refine ⟨hL, ?_⟩
      by_cases hD : ch ∈ DIG
      · right
        refine ⟨hD, ?_⟩
        have h32 : ch ≠ 32 := by rintro rfl; exact absurd hD (by decide)
        refine span_loop (p := fun c => decide (c ∈ DIG)) hF he (fun E Q hE hq => ?_) ?_
        · simp [ht]
          by_cases hlt : E < t.length
          · right
            rw [List.getElem?_eq_getElem hlt] at hq
            refine ⟨hlt, .str [t[E]], by simp [getIx, ht, hlt], ?_⟩
            by_cases hx : t[E] ∈ DIG
            · simp [hx] at hq ⊢; exact hq
            · simp [hx] at hq ⊢; exact hq
          · left
            rw [List.getElem?_eq_none (by omega)] at hq
            exact ⟨by omega, hq⟩
        · have hsp : e + 1 + ((t.drop (e + 1)).takeWhile fun c => decide (c ∈ DIG)).length = e + span (ch :: cur') DIG := by
            have z := span_line e1 (S := DIG) (by decide)
            unfold span at z
            rw [z]
            simp [span, List.takeWhile, hD]; omega
          rw [hsp]
          have hk := span_le (ch :: cur') DIG
          have htk : (t.drop e).take (span (ch :: cur') DIG) = (ch :: cur').take (span (ch :: cur') DIG) := split_take hcur hk
          generalize hkk : span (ch :: cur') DIG = k at hk htk
          have hwa : wordAt (ch :: cur') = if k > 12 ∨ (k > 1 ∧ ch = 48) then .bad t_number else .good t_number ((ch :: cur').take k) := by
            simp only [wordAt, hL, hD, if_true, if_false, hkk]
          have hlen : ((ch :: cur').take k).length = k := by rw [List.length_take]; omega
          simp
          rw [eq_str (good_one gc) (by decide)]
          by_cases hb : k > 12
          · exact .inr ⟨by omega, qb t_number h35 h32 (by rw [hwa, if_pos (.inl hb)])⟩
          · refine .inl ⟨by omega, ?_⟩
            by_cases h48 : ch = 48
            · refine .inr ⟨by simp [h48], ?_⟩
              by_cases hk1 : k > 1
              · exact .inr ⟨by omega, qb t_number h35 h32 (by rw [hwa, if_pos (.inr ⟨hk1, h48⟩)])⟩
              · have z := qg _ _ h35 h32 (by rw [hwa, if_neg (by omega)])
                rw [hlen] at z
                exact .inl ⟨by omega, z⟩
            · have z := qg _ _ h35 h32 (by rw [hwa, if_neg (by omega)])
              rw [hlen] at z
              exact .inl ⟨by simp [h48], z⟩
      · left
        refine ⟨hD, ?_⟩
        rw [eq_str (good_one gc) (by decide)]
        by_cases h32 : ch = 32
        · exact .inl ⟨by simp [h32], q32 h32⟩
        · refine .inr ⟨by simp [h32], ?_⟩
          have ht2 : ∀ x y : Nat, y ≠ 10 → ((t.drop e).take 2 = [x, y] ↔ (ch :: cur').take 2 = [x, y]) := fun x y hy => two_line hcur hy (by simp)
          simp [slice, ht]
          by_cases h2 : (t.drop e).take 2 = [60, 61] ∨ (t.drop e).take 2 = [45, 62]
          · refine .inr ⟨by simpa using h2, ?_⟩
            have h2' : (ch :: cur').take 2 = [60, 61] ∨ (ch :: cur').take 2 = [45, 62] := h2.imp (ht2 _ _ (by decide)).mp (ht2 _ _ (by decide)).mp
            have hl2 : ((ch :: cur').take 2).length = 2 := by rcases h2' with z | z <;> rw [z] <;> rfl
            have z := qg _ _ h35 h32 (by simp only [wordAt, hL, hD, if_false]; rw [if_pos h2'])
            rw [hl2] at z
            exact z
          · have h2' : ¬((ch :: cur').take 2 = [60, 61] ∨ (ch :: cur').take 2 = [45, 62]) := fun z => h2 (z.imp (ht2 _ _ (by decide)).mpr (ht2 _ _ (by decide)).mpr)
            refine .inl ⟨by simpa using h2, ?_⟩
            have hone : ch ∈ ONE ↔ (ch = 40 ∨ ch = 41 ∨ ch = 123 ∨ ch = 125 ∨ ch = 59 ∨ ch = 58 ∨ ch = 44 ∨ ch = 61 ∨ ch = 60 ∨ ch = 43 ∨ ch = 45 ∨ ch = 42 ∨ ch = 47 ∨ ch = 124) := by simp [ONE]
            by_cases h1 : ch ∈ ONE
            · exact .inl ⟨hone.mp h1, qg t_sign [ch] h35 h32 (by simp only [wordAt, hL, hD, if_false]; rw [if_neg h2', if_pos h1])⟩
            · refine .inr ⟨?_, qb t_sign h35 h32 (by simp only [wordAt, hL, hD, if_false]; rw [if_neg h2', if_neg h1])⟩
              have := mt hone.mpr h1
              simpa only [not_or] using this
end
theorem b_lw : b__law_words = .cons (nthS b__law_words 0) (.cons (nthS b__law_words 1) (.cons (nthS b__law_words 2) (.cons (.whl (.cmp .lt (.var 7) (.bf .len (.cons (.var 0) .nil))) lwBody) (dropS b__law_words 4)))) := rfl
theorem b_lwb : lwBody = .cons (nthS lwBody 0) (.cons (nthS lwBody 1) (.cons lwChain lwTail)) := rfl
theorem law_words_ok {k : Nat} {t : List Nat} {h : Hx} {Q : D → Hx → Prop} (gt : t.all goodSign = true) (ht : t.length + 4 ≤ LIM) (q : ∀ a h', Fr [] h h' → h'[a]? = some (.lst (scan t)) → Q (.ref a) h') :
    wpC (CC (k + 1)) 37 [.str t] h Q := by
  refine call_ok (fn := f__law_words) rfl rfl ?_
  have e10 : splitC 32 z2 = OWN := by decide
  have eL : z0 = LET := rfl
  have eD : [48, 49, 50, 51, 52, 53, 54, 55, 56, 57] = DIG := rfl
  show wSl _ _ b__law_words [some (.str t), none, none, none, none, none, none, none, none, none, none] h _
  rw [b_lw]
  simp [nthS, dropS, b__law_words, e10, eL, hasM]
  refine ⟨by decide, ?_⟩
  have hlt0 : t.length ≤ LIM := by omega
  have hlim : ∀ {found more : List D}, found ++ more = scan t → found.length + more.length < LIM := fun {found more} e => by
    have h1 := scan_len t
    rw [← e, List.length_append] at h1
    omega
  obtain ⟨I, hI⟩ : ∃ I : Nat → Sx → Hx → Prop, ∀ m s h', I m s h' ↔ ∃ (n c e : Nat) (x8 x9 x10 : Option D) (found : List D), s = [some (.str t), some (.str LET), some (.str DIG), some (.ref h.length), some (.ref (h.length + 1)), some (.int n), some (.int c), some (.int e), x8, x9, x10] ∧
    t.length ≤ e + m ∧ e ≤ t.length ∧ Fr [] h h' ∧ h'[h.length]? = some (.lst (OWN.map .str)) ∧ h'[h.length + 1]? = some (.lst found) ∧ found ++ restT (splitC 10 (t.drop e)) n c = scan t := ⟨_, fun _ _ _ => Iff.rfl⟩
  refine whl_ok I ?_ t.length (fuel_lim (by omega)) ((hI _ _ _).mpr ⟨0, 0, 0, none, none, none, [], rfl, by omega, by omega, Fr.app .refl, by simp, by simp, rfl⟩)
  intro m s h' i0
  obtain ⟨n, c, e, x8, x9, x10, found, rfl, hm, he, fr, h1, h2, es⟩ := (hI _ _ _).mp i0
  -- an end: found + [row]
  have fin : ∀ (d : D), found ++ [d] = scan t → Wp (binop .add (.ref (h.length + 1)) (.ref h'.length) (h' ++ [.lst [d]])) Q := fun d ed => by
    rw [wb_lst (get_app h2) get_app1]
    refine ⟨by have := hlim ed; simp at this ⊢; omega, q _ _ (Fr.app (Fr.app fr)) ?_⟩
    rw [ed]; simp
  simp [hlt0]
  by_cases hle : t.length ≤ e
  · left
    refine ⟨hle, fin _ ?_⟩
    rw [List.drop_eq_nil_of_le hle] at es
    exact es
  · right
    obtain ⟨ch, hc⟩ : ∃ ch, t[e]? = some ch := ⟨_, List.getElem?_eq_getElem (by omega)⟩
    have hdr : t.drop e = ch :: t.drop (e + 1) := by
      obtain ⟨a, b⟩ := List.getElem?_eq_some_iff.mp hc
      rw [List.drop_eq_getElem_cons a, b]
    have gc : goodSign ch = true := List.all_eq_true.mp gt ch (List.mem_of_getElem? hc)
    refine ⟨by omega, m - 1, by omega, ?_⟩
    rw [b_lwb]
    simp [nthS, lwBody, bodyOf, b__law_words, getIx, hlt0, hc, setAll]
    rw [eq_str (good_one gc) (by decide)]
    by_cases h10 : ch = 10
    · refine .inr ⟨by simp [h10], (hI _ _ _).mpr ⟨n + 1, 0, e + 1, _, _, _, found, rfl, by omega, by omega, fr, h1, h2, ?_⟩⟩
      rw [hdr, h10] at es
      have e5 : splitC 10 (10 :: t.drop (e + 1)) = [] :: splitC 10 (t.drop (e + 1)) := by simp [splitC]
      rw [e5] at es
      cases e6 : splitC 10 (t.drop (e + 1)) with
      | nil => exact absurd e6 (split_ne 10 _)
      | cons l ls => rw [e6, rest_next] at es; exact es
    · refine .inl ⟨by simp [h10], ?_⟩
      obtain ⟨cur', ls, hcur⟩ : ∃ cur' ls, splitC 10 (t.drop e) = (ch :: cur') :: ls := by
        rw [hdr]
        cases e6 : splitC 10 (t.drop (e + 1)) with
        | nil => exact absurd e6 (split_ne 10 _)
        | cons l ls => exact ⟨l, ls, split_cons h10 e6⟩
      have hcl := split_le hcur
      rw [List.length_drop] at hcl
      have hnext : ∀ w : Nat, w ≤ (ch :: cur').length → splitC 10 (t.drop (e + w)) = (ch :: cur').drop w :: ls := fun w hw => by
        rw [← List.drop_drop]; exact split_drop hcur hw
      rw [hcur] at es
      refine lw_chain gt hlt0 (fuel_lim (by omega)) hc hcur h1 (fun h35 => ?_) (fun h32 => ?_) (fun s w h35 h32 ew => ?_) (fun w h35 h32 ew => ?_)
      · refine lw_tail0 (by omega) ((hI _ _ _).mpr ⟨n, _, e + (ch :: cur').length, _, _, _, found, rfl, ?_, ?_, fr, h1, h2, ?_⟩)
        · simp; omega
        · omega
        · rw [hnext _ (Nat.le_refl _), List.drop_length]
          rw [h35, rest_hash] at es
          rw [h35]
          have : c + (e + (35 :: cur').length) - e = c + (35 :: cur').length := by omega
          rw [this]; exact es
      · refine lw_tail0 (by omega) ((hI _ _ _).mpr ⟨n, _, e + 1, _, _, _, found, rfl, by omega, by omega, fr, h1, h2, ?_⟩)
        rw [hnext 1 (by simp)]
        rw [h32, rest_blank] at es
        have : c + (e + 1) - e = c + 1 := by omega
        rw [this]; exact es
      · obtain ⟨p1, p2, p3⟩ := word_pos ew
        rw [rest_word h35 h32 ew] at es
        have hl := hlim es
        refine lw_tail1 (by omega) hlt0 h2 (by omega) ((hI _ _ _).mpr ⟨n, _, e + w.length, _, _, _, _, rfl, by omega, by omega, Fr.setNew fr (by omega), ?_, List.getElem?_set_self (List.getElem?_eq_some_iff.mp h2).1, ?_⟩)
        · rw [List.getElem?_set_ne (by omega)]; exact h1
        · rw [hnext _ p2]
          have e7 : c + (e + w.length) - e = c + w.length := by omega
          have e8 : e + w.length - e = w.length := by omega
          have e9 : (t.drop e).take w.length = w := by rw [split_take hcur p2]; exact p3.symm
          rw [e7, e8, e9, ← es]
          simp
      · rw [rest_bad h35 h32 ew] at es
        exact fin _ es
end K44
end

section
set_option autoImplicit false
set_option linter.all false
set_option Elab.async false
set_option maxRecDepth 100000
set_option maxHeartbeats 4000000
namespace K44
open Ev
/-! ### the pen -/
abbrev k_cells : D := .str [99, 101, 108, 108, 115]
abbrev k_at : D := .str [97, 116]
abbrev k_digits : D := .str [100, 105, 103, 105, 116, 115]
abbrev k_count : D := .str [99, 111, 117, 110, 116]
abbrev k_fold : D := .str [102, 111, 108, 100]
def penD (c : Nat) (at_ : Nat) (dg : Int) (ct : Nat) (fo : Nat) : MO := .dic false [(k_cells, .ref c), (k_at, .int at_), (k_digits, .int dg), (k_count, .int ct), (k_fold, .int fo)]
structure PenOk (p n : Nat) (h : Hx) : Prop where
  ok : ∃ (c at_ : Nat) (dg : Int) (ct fo : Nat) (ns : List Int), h[p]? = some (penD c at_ dg ct fo) ∧ h[c]? = some (.lst (ns.map .int)) ∧ at_ ≤ ns.length ∧ 0 ≤ dg ∧ ct ≤ n ∧ fo < 2147483563 ∧ c < p
theorem PenOk.mono {p n m : Nat} {h : Hx} (o : PenOk p n h) (hm : n ≤ m) : PenOk p m h := by
  obtain ⟨c, a, dg, ct, fo, ns, h1, h2, h3, h4, h5, h6, h7⟩ := o.ok
  exact ⟨c, a, dg, ct, fo, ns, h1, h2, h3, h4, by omega, h6, h7⟩
theorem PenOk.fr {p n : Nat} {h h' : Hx} {A : List Nat} (o : PenOk p n h) (f : Fr A h h') (hA : ∀ x ∈ A, p < x) : PenOk p n h' := by
  obtain ⟨c, a, dg, ct, fo, ns, h1, h2, h3, h4, h5, h6, h7⟩ := o.ok
  exact ⟨c, a, dg, ct, fo, ns, f.get h1 (fun z => by have := hA _ z; omega), f.get h2 (fun z => by have := hA _ z; omega), h3, h4, h5, h6, h7⟩
theorem keys_ne : k_at ≠ k_cells ∧ k_digits ≠ k_cells := by decide
theorem get_pen {h : Hx} {p c at_ ct fo : Nat} {dg : Int} (e : h[p]? = some (penD c at_ dg ct fo)) : getIx (.ref p) k_cells h = some (.ref c) ∧ getIx (.ref p) k_at h = some (.int at_) ∧ getIx (.ref p) k_digits h = some (.int dg) ∧ getIx (.ref p) k_count h = some (.int ct) ∧ getIx (.ref p) k_fold h = some (.int fo) := by
  refine ⟨?_, ?_, ?_, ?_, ?_⟩ <;> simp only [getIx, e, penD] <;> rfl
theorem set_pen {h : Hx} {p c at_ ct fo : Nat} {dg : Int} (e : h[p]? = some (penD c at_ dg ct fo)) :
    (∀ x : Nat, setIx (.ref p) k_at (.int x) h = some (h.set p (penD c x dg ct fo))) ∧ (∀ x : Int, setIx (.ref p) k_digits (.int x) h = some (h.set p (penD c at_ x ct fo))) ∧
    (∀ x : Nat, setIx (.ref p) k_count (.int x) h = some (h.set p (penD c at_ dg x fo))) ∧ (∀ x : Nat, setIx (.ref p) k_fold (.int x) h = some (h.set p (penD c at_ dg ct x))) := by
  refine ⟨fun x => ?_, fun x => ?_, fun x => ?_, fun x => ?_⟩ <;> simp only [setIx, e, penD] <;> rfl
theorem log2_small {j : Nat} (h : j < 2 ^ 62) : j.log2 < 9000 := by
  by_cases h0 : j = 0
  · subst h0; decide
  · have := (Nat.log2_lt h0 (k := 62)).mpr h
    omega
theorem divOk_nat {j : Nat} (h1 : 1 ≤ j) (h2 : j < 2 ^ 62) : divOk (j : Int) = true := by
  unfold divOk
  simp only [Bool.and_eq_true, decide_eq_true_eq, Int.natAbs_natCast]
  exact ⟨by omega, log2_small h2⟩
def drawTail : Sl := dropS b__law_draw 2
theorem draw_tail {C : Call} {F : Nat} {P : Post} {p n many : Nat} {h h0 : Hx} {x2 : Option D} (fr : Fr [p] h0 h) (hn : n < 2 ^ 40) (hm : 1 ≤ many) (hm2 : many < 2 ^ 62) (o : PenOk p n h) (q : ∀ r : Nat, r < many → ∀ h', Fr [p] h0 h' → PenOk p n h' → P.rt (.int r) h') :
    wSl C F drawTail [some (.ref p), some (.int many), x2, none, none] h P := by
  obtain ⟨c, a, dg, ct, fo, ns, h1, h2, h3, h4, h5, h6, h7⟩ := o.ok
  obtain ⟨g1, g2, g3, g4, g5⟩ := get_pen h1
  simp [drawTail, b__law_draw, dropS, g3, g4, g5]
  by_cases hd : dg ≤ 0
  · left
    refine ⟨hd, by simp [mulOk], ?_, ?_⟩
    · unfold powOk
      simp
      have e : ((fo : Int) + ct * 8513 + 61) = ((fo + ct * 8513 + 61 : Nat) : Int) := by omega
      rw [e, Int.natAbs_natCast]
      omega
    · refine ⟨by decide, by omega, ?_⟩
      have hpos : (0 : Int) < many := by omega
      have r1 := Int.emod_nonneg (((fo : Int) + ct * 8513 + 61) ^ 19 % 2305843009213693951 / 256) (show (many : Int) ≠ 0 by omega)
      have r2 := Int.emod_lt_of_pos (((fo : Int) + ct * 8513 + 61) ^ 19 % 2305843009213693951 / 256) hpos
      obtain ⟨r, hr⟩ := Int.eq_ofNat_of_zero_le r1
      rw [hr] at r2 ⊢
      exact q r (by omega) h fr o
  · right
    have hd1 : 0 < dg := by omega
    refine ⟨hd1, by omega, divOk_nat hm hm2, ?_⟩
    have hpos : (0 : Int) < many := by omega
    have r1 := Int.emod_nonneg dg (show (many : Int) ≠ 0 by omega)
    have r2 := Int.emod_lt_of_pos dg hpos
    obtain ⟨r, hr⟩ := Int.eq_ofNat_of_zero_le r1
    rw [hr] at r2 ⊢
    refine ⟨_, (set_pen h1).2.1 _, q r (by omega) _ (fr.set (by simp)) ⟨c, a, _, ct, fo, ns, List.getElem?_set_self (List.getElem?_eq_some_iff.mp h1).1, ?_, h3, Int.ediv_nonneg h4 (by omega), h5, h6, h7⟩⟩
    rw [List.getElem?_set_ne (by omega)]; exact h2
theorem b_draw : b__law_draw = .cons (nthS b__law_draw 0) (.cons (nthS b__law_draw 1) drawTail) := rfl
theorem law_draw_ok {k p n many : Nat} {h : Hx} {Q : D → Hx → Prop} (hn : n < 2 ^ 39) (hm : 1 ≤ many) (hm2 : many < 2 ^ 62) (o : PenOk p n h) (q : ∀ r : Nat, r < many → ∀ h', Fr [p] h h' → PenOk p (n + 1) h' → Q (.int r) h') :
    wpC (CC (k + 1)) 7 [.ref p, .int many] h Q := by
  refine call_ok (fn := f__law_draw) rfl rfl ?_
  show wSl _ _ b__law_draw [some (.ref p), some (.int many), none, none, none] h _
  obtain ⟨c, a, dg, ct, fo, ns, h1, h2, h3, h4, h5, h6, h7⟩ := o.ok
  obtain ⟨g1, g2, g3, g4, g5⟩ := get_pen h1
  rw [b_draw]
  simp [nthS, b__law_draw, g4]
  have hp : p < h.length := (List.getElem?_eq_some_iff.mp h1).1
  have hc : c < h.length := (List.getElem?_eq_some_iff.mp h2).1
  refine ⟨_, (set_pen h1).2.2.1 (ct + 1), ?_⟩
  have fr1 : Fr [p] h (h.set p (penD c a dg (ct + 1) fo)) := Fr.refl.set (by simp)
  have h1' : (h.set p (penD c a dg (ct + 1) fo))[p]? = some (penD c a dg (ct + 1) fo) := List.getElem?_set_self hp
  have h2' : (h.set p (penD c a dg (ct + 1) fo))[c]? = some (.lst (ns.map .int)) := by rw [List.getElem?_set_ne (by omega)]; exact h2
  obtain ⟨g1, g2, g3, g4, g5⟩ := get_pen h1'
  simp [g1, g2, g3, g5]
  have tail : ∀ (x2 : Option D) (h'' : Hx), Fr [p] h h'' → PenOk p (n + 1) h'' → wSl (evCall fns FUEL k) FUEL drawTail [some (.ref p), some (.int many), x2, none, none] h'' { nx := fun x h1 => Q .non h1, rt := Q } := fun x2 h'' fr o => draw_tail fr (by omega) hm hm2 o q
  have o1 : PenOk p (n + 1) (h.set p (penD c a dg (ct + 1) fo)) := ⟨c, a, dg, ct + 1, fo, ns, h1', h2', h3, h4, by omega, h6, h7⟩
  by_cases hd : dg = 0
  · right
    refine ⟨hd, ?_⟩
    rw [wf_lenL h2']
    simp
    by_cases ha : a < ns.length
    · right
      refine ⟨ha, ?_⟩
      obtain ⟨x, hx⟩ : ∃ x, ns[a]? = some x := ⟨_, List.getElem?_eq_getElem ha⟩
      have gx : getIx (.ref c) (.int a) (h.set p (penD c a dg (ct + 1) fo)) = some (.int x) := by
        simp only [getIx, h2', atD_nat, List.getElem?_map, hx, Option.map_some]
      simp [gx, g1, g2]
      have hpw : powOk 10 18 = true := by decide
      refine ⟨_, (set_pen h1').1 (a + 1), hpw, ?_⟩
      generalize hH : (h.set p (penD c a dg (ct + 1) fo)).set p (penD c (a + 1) dg (ct + 1) fo) = H
      have fr2 : Fr [p] h H := by rw [← hH]; exact fr1.set (by simp)
      have h1'' : H[p]? = some (penD c (a + 1) dg (ct + 1) fo) := by rw [← hH]; exact List.getElem?_set_self (by simpa using hp)
      have h2'' : H[c]? = some (.lst (ns.map .int)) := by rw [← hH, List.getElem?_set_ne (by omega)]; exact h2'
      obtain ⟨g1, g2, g3, g4, g5⟩ := get_pen h1''
      simp [hpw, g5]
      by_cases hx18 : x < 1000000000000000000
      · left
        have hm0 : mulOk (fo : Int) 48271 = true := by simp [mulOk]
        have r1 := Int.emod_nonneg ((fo : Int) * 48271 + x) (show (2147483563 : Int) ≠ 0 by decide)
        have r2 := Int.emod_lt_of_pos ((fo : Int) * 48271 + x) (show (0 : Int) < 2147483563 by decide)
        obtain ⟨r, hr⟩ := Int.eq_ofNat_of_zero_le r1
        rw [hr] at r2 ⊢
        refine ⟨hx18, hm0, _, (set_pen h1'').2.2.2 r, tail _ _ (fr2.set (by simp)) ⟨c, a + 1, dg, ct + 1, r, ns, List.getElem?_set_self (List.getElem?_eq_some_iff.mp h1'').1, ?_, ha, h4, by omega, by omega, h7⟩⟩
        rw [List.getElem?_set_ne (by omega)]; exact h2''
      · right
        refine ⟨by omega, _, (set_pen h1'').2.1 _, tail _ _ (fr2.set (by simp)) ⟨c, a + 1, _, ct + 1, fo, ns, List.getElem?_set_self (List.getElem?_eq_some_iff.mp h1'').1, ?_, ha, by omega, by omega, h6, h7⟩⟩
        rw [List.getElem?_set_ne (by omega)]; exact h2''
    · exact .inl ⟨by omega, tail _ _ fr1 o1⟩
  · exact .inl ⟨hd, tail _ _ fr1 o1⟩
/-- one of a list -/
theorem law_pick_ok {k p n a : Nat} {xs : List D} {h : Hx} {Q : D → Hx → Prop} (hn : n < 2 ^ 39) (hne : xs ≠ []) (hl : xs.length < 2 ^ 62) (o : PenOk p n h) (ha : h[a]? = some (.lst xs)) (hap : a ≠ p) (q : ∀ x ∈ xs, ∀ h', Fr [p] h h' → PenOk p (n + 1) h' → Q x h') :
    wpC (CC (k + 2)) 8 [.ref p, .ref a] h Q := by
  refine call_ok (fn := f__law_pick) rfl rfl ?_
  simp [f__law_pick, b__law_pick]
  rw [wf_lenL ha]
  have h1 : 1 ≤ xs.length := by cases xs with
    | nil => exact absurd rfl hne
    | cons _ _ => simp
  refine law_draw_ok hn h1 hl o fun r hr h' fr o' => ?_
  have ha' := fr.get ha (by simpa using hap)
  have hx : xs[r]? = some xs[r] := List.getElem?_eq_getElem hr
  refine ⟨xs[r], by simp [getIx, ha', hx], q _ (List.getElem_mem hr) h' fr o'⟩
theorem law_is_int_ok {k : Nat} {i : Int} {h : Hx} {Q : D → Hx → Prop} (q : Q (.bl true) h) : wpC (CC (k + 1)) 9 [.int i] h Q := by
  refine call_ok (fn := f__law_is_int) rfl rfl ?_
  simp [f__law_is_int, b__law_is_int, known, isOf, truth]
  exact q
end K44
end

section
set_option autoImplicit false
set_option linter.all false
set_option Elab.async false
set_option maxRecDepth 100000
set_option maxHeartbeats 4000000
namespace K44
open Ev
/-! ### what == takes -/
def TP (h : Hx) (n : Nat) (d : D) : Prop := ∃ p, toP h n d = some p
theorem allSome_ok {α β : Type} {f : α → Option β} : ∀ {l : List α}, (∀ x ∈ l, ∃ y, f x = some y) → ∃ r, allSome f l = some r
  | [], _ => ⟨[], rfl⟩
  | x :: l, h => by
    obtain ⟨y, e⟩ := h x (List.mem_cons_self ..)
    obtain ⟨r, e2⟩ := allSome_ok (l := l) fun z hz => h z (List.mem_cons_of_mem _ hz)
    exact ⟨y :: r, by simp [allSome, e, e2]⟩
theorem allSome_imp {α β : Type} {f g : α → Option β} (h : ∀ x y, f x = some y → g x = some y) : ∀ {l : List α} {r : List β}, allSome f l = some r → allSome g l = some r
  | [], r, e => by simpa [allSome] using e
  | x :: l, r, e => by
    simp only [allSome] at e
    split at e
    · rename_i y ys e1 e2
      cases e
      simp [allSome, h _ _ e1, allSome_imp h e2]
    · cases e
theorem allSome_len {α β : Type} {f : α → Option β} : ∀ {l : List α} {r : List β}, allSome f l = some r → r.length = l.length
  | [], r, e => by simp [allSome] at e; subst e; rfl
  | x :: l, r, e => by
    simp only [allSome] at e
    split at e
    · rename_i y ys e1 e2
      cases e
      simp [allSome_len e2]
    · cases e
theorem toP_mono {h : Hx} : ∀ {n : Nat} {d : D} {p : P}, toP h n d = some p → toP h (n + 1) d = some p
  | 0, d, p, e => by cases e
  | n + 1, .non, p, e => e
  | n + 1, .bl b, p, e => e
  | n + 1, .int i, p, e => e
  | n + 1, .str s, p, e => e
  | n + 1, .tup xs, p, e => by
    simp only [toP, Option.map_eq_some_iff] at e ⊢
    obtain ⟨r, e1, e2⟩ := e
    exact ⟨r, allSome_imp (fun x y => toP_mono) e1, e2⟩
  | n + 1, .fro xs, p, e => by
    simp only [toP, Option.map_eq_some_iff] at e ⊢
    obtain ⟨r, e1, e2⟩ := e
    exact ⟨r, allSome_imp (fun x y => toP_mono) e1, e2⟩
  | n + 1, .ref a, p, e => by
    simp only [toP] at e ⊢
    split at e
    · simp only [Option.map_eq_some_iff] at e ⊢
      obtain ⟨r, e1, e2⟩ := e
      exact ⟨r, allSome_imp (fun x y => toP_mono) e1, e2⟩
    · cases e
theorem TP.le {h : Hx} {n m : Nat} {d : D} (t : TP h n d) (hm : n ≤ m) : TP h m d := by
  obtain ⟨p, e⟩ := t
  refine ⟨p, ?_⟩
  induction hm with
  | refl => exact e
  | step _ ih => exact toP_mono ih
theorem TP.tup {h : Hx} {n : Nat} {xs : List D} (t : ∀ x ∈ xs, TP h n x) : TP h (n + 1) (.tup xs) := by
  obtain ⟨r, e⟩ := allSome_ok t
  exact ⟨.tup r, by simp [toP, e]⟩
theorem TP.str {h : Hx} {n : Nat} {s : List Nat} (g : goodStr s = true) : TP h (n + 1) (.str s) := ⟨.str s, by simp [toP, g]⟩
theorem TP.int {h : Hx} {n : Nat} {i : Int} : TP h (n + 1) (.int i) := ⟨.int i, rfl⟩
mutual
theorem eqv_refl : ∀ p : P, P.eqv p p = true
  | .non => rfl
  | .bl b => by simp [P.eqv]
  | .int i => by simp [P.eqv]
  | .str s => by simp [P.eqv]
  | .tup xs => by simpa [P.eqv] using eqvs_refl xs
  | .lst xs => by simpa [P.eqv] using eqvs_refl xs
theorem eqvs_refl : ∀ ps : List P, P.eqvs ps ps = true
  | [] => rfl
  | p :: ps => by simp [P.eqvs, eqv_refl p, eqvs_refl ps]
end
theorem eq_same {h : Hx} {d : D} (t : TP h 60 d) : eqD h d d = some true := by
  obtain ⟨p, e⟩ := t
  simp [eqD, e, eqv_refl]
/-- an answer, whatever it is -/
theorem eq_some {h : Hx} {x y : D} (t : TP h 60 x) (u : TP h 60 y) : ∃ b, eqD h x y = some b := by
  obtain ⟨p, e⟩ := t
  obtain ⟨q, f⟩ := u
  exact ⟨P.eqv p q, by simp only [eqD, e, f]⟩
theorem eq_nil {h : Hx} {a b : Nat} {xs : List D} (ha : h[a]? = some (.lst xs)) (hb : h[b]? = some (.lst [])) (t : ∀ x ∈ xs, TP h 59 x) : eqD h (.ref a) (.ref b) = some (decide (xs = [])) := by
  obtain ⟨r, e⟩ := allSome_ok t
  have hl := allSome_len e
  have e1 : toP h 60 (.ref a) = some (.lst r) := by simp [toP, ha, e]
  have e2 : toP h 60 (.ref b) = some (.lst []) := by simp [toP, hb, allSome]
  simp only [eqD, e1, e2, P.eqv]
  congr 1
  cases xs with
  | nil => simp at hl; subst hl; rfl
  | cons x xs => cases r with
    | nil => simp at hl
    | cons _ _ => simp [P.eqvs]
/-! ### words, kinds, trees -/
def nameB (w : List Nat) : Bool := (match w with
  | [] => false
  | c :: _ => decide (c ∈ LET)) && w.all (fun c => decide (c ∈ SIG)) && decide (w.length ≤ 12)
def numB (w : List Nat) : Bool := (match w with
  | [] => false
  | c :: _ => !(decide (w.length > 1) && decide (c = 48))) && w.all (fun c => decide (c ∈ DIG)) && decide (w.length ≤ 12)
def sgnB (w : List Nat) : Bool := decide (w = [60, 61]) || decide (w = [45, 62]) || (match w with
  | [c] => decide (c ∈ ONE)
  | _ => false)
def wordB (w : List Nat) : Bool := nameB w || numB w || sgnB w
theorem sig_good : ∀ c ∈ SIG, goodSign c = true := by decide
theorem one_good : ∀ c ∈ ONE, goodSign c = true := by decide
theorem name_good {w : List Nat} (h : nameB w = true) : goodStr w = true := by
  unfold nameB at h
  simp only [Bool.and_eq_true, decide_eq_true_eq, List.all_eq_true] at h
  unfold goodStr
  simp only [Bool.and_eq_true, decide_eq_true_eq, List.all_eq_true]
  exact ⟨fun c hc => sig_good c (h.1.2 c hc), by unfold LIM; omega⟩
def s_int : List Nat := [105, 110, 116]
def s_bool : List Nat := [98, 111, 111, 108]
def s_list : List Nat := [108, 105, 115, 116]
def s_pair : List Nat := [112, 97, 105, 114]
inductive Kd : Nat → D → Prop
  | int {n} : Kd n (.tup [.str [105, 110, 116]])
  | bool {n} : Kd n (.tup [.str [98, 111, 111, 108]])
  | list {n k} : Kd n k → Kd (n + 1) (.tup [.str [108, 105, 115, 116], k])
  | pair {n k l} : Kd n k → Kd n l → Kd (n + 1) (.tup [.str [112, 97, 105, 114], k, l])
theorem Kd.up {n m : Nat} {k : D} (h : Kd n k) (hm : n ≤ m) : Kd m k := by
  induction h generalizing m with
  | int => exact .int
  | bool => exact .bool
  | list a ih => obtain ⟨j, rfl⟩ : ∃ j, m = j + 1 := ⟨m - 1, by omega⟩; exact .list (ih (by omega))
  | pair a b ih1 ih2 => obtain ⟨j, rfl⟩ : ∃ j, m = j + 1 := ⟨m - 1, by omega⟩; exact .pair (ih1 (by omega)) (ih2 (by omega))
theorem tp_s {h : Hx} {n : Nat} {s : List Nat} (g : goodStr s = true) (hn : 1 ≤ n) : TP h n (.str s) := (TP.str (n := 0) g).le hn
theorem TP.tup1 {h : Hx} {n : Nat} {a : D} (ta : TP h n a) : TP h (n + 1) (.tup [a]) := .tup fun x hx => by
  simp at hx; subst hx; exact ta
theorem TP.tup2 {h : Hx} {n : Nat} {a b : D} (ta : TP h n a) (tb : TP h n b) : TP h (n + 1) (.tup [a, b]) := .tup fun x hx => by
  simp at hx
  rcases hx with rfl | rfl <;> assumption
theorem TP.tup3 {h : Hx} {n : Nat} {a b c : D} (ta : TP h n a) (tb : TP h n b) (tc : TP h n c) : TP h (n + 1) (.tup [a, b, c]) := .tup fun x hx => by
  simp at hx
  rcases hx with rfl | rfl | rfl <;> assumption
theorem TP.tup4 {h : Hx} {n : Nat} {a b c d : D} (ta : TP h n a) (tb : TP h n b) (tc : TP h n c) (td : TP h n d) : TP h (n + 1) (.tup [a, b, c, d]) := .tup fun x hx => by
  simp at hx
  rcases hx with rfl | rfl | rfl | rfl <;> assumption
theorem TP.tup5 {h : Hx} {n : Nat} {a b c d e : D} (ta : TP h n a) (tb : TP h n b) (tc : TP h n c) (td : TP h n d) (te : TP h n e) : TP h (n + 1) (.tup [a, b, c, d, e]) := .tup fun x hx => by
  simp at hx
  rcases hx with rfl | rfl | rfl | rfl | rfl <;> assumption
theorem TP.tup6 {h : Hx} {n : Nat} {a b c d e f : D} (ta : TP h n a) (tb : TP h n b) (tc : TP h n c) (td : TP h n d) (te : TP h n e) (tf : TP h n f) : TP h (n + 1) (.tup [a, b, c, d, e, f]) := .tup fun x hx => by
  simp at hx
  rcases hx with rfl | rfl | rfl | rfl | rfl | rfl <;> assumption
theorem Kd.tp {n : Nat} {k : D} {h : Hx} (q : Kd n k) : TP h (n + 2) k := by
  induction q with
  | int => exact .tup1 (tp_s (by decide) (by omega))
  | bool => exact .tup1 (tp_s (by decide) (by omega))
  | list a ih => exact .tup2 (tp_s (by decide) (by omega)) ih
  | pair a b ih1 ih2 => exact .tup3 (tp_s (by decide) (by omega)) ih1 ih2
/-- a kind against int, bool -/
theorem eq_kd {n : Nat} {k : D} {h : Hx} {s : List Nat} (q : Kd n k) (hn : n ≤ 50) (hs : s = [105, 110, 116] ∨ s = [98, 111, 111, 108]) : eqD h k (.tup [.str s]) = some (decide (k = .tup [.str s])) := by
  have t2 : toP h 60 (.tup [.str s]) = some (.tup [.str s]) := by rcases hs with rfl | rfl <;> rfl
  cases q with
  | int => rcases hs with rfl | rfl <;> rfl
  | bool => rcases hs with rfl | rfl <;> rfl
  | @list m k1 a =>
    obtain ⟨p, e⟩ := a.tp (h := h) |>.le (m := 59) (by omega)
    have e1 : toP h 60 (.tup [.str [108, 105, 115, 116], k1]) = some (.tup [.str [108, 105, 115, 116], p]) := by
      show ((allSome (toP h 59) [.str [108, 105, 115, 116], k1]).map P.tup) = _
      simp only [allSome, e]
      rfl
    simp only [eqD, e1, t2, P.eqv, P.eqvs]
    simp
  | @pair m k1 k2 a b =>
    obtain ⟨p, e⟩ := a.tp (h := h) |>.le (m := 59) (by omega)
    obtain ⟨q, f⟩ := b.tp (h := h) |>.le (m := 59) (by omega)
    have e1 : toP h 60 (.tup [.str [112, 97, 105, 114], k1, k2]) = some (.tup [.str [112, 97, 105, 114], p, q]) := by
      show ((allSome (toP h 59) [.str [112, 97, 105, 114], k1, k2]).map P.tup) = _
      simp only [allSome, e, f]
      rfl
    simp only [eqD, e1, t2, P.eqv, P.eqvs]
    simp
inductive Rt : D → Prop
  | mk {a b : Int} : a.natAbs ≤ 99 → 1 ≤ b → b ≤ 99 → Rt (.tup [.int a, .int b])
def OPS : List (List Nat) := [[43], [45], [42], [60], [60, 61], [61], [97, 110, 100], [111, 114]]
inductive Ex : Nat → D → Prop
  | int {d} {i : Int} : i.natAbs ≤ 99 → Ex d (.tup [.str [105, 110, 116], .int i])
  | yes {d} : Ex d (.tup [.str [121, 101, 115]])
  | no {d} : Ex d (.tup [.str [110, 111]])
  | nil {d k} : Kd 4 k → Ex d (.tup [.str [110, 105, 108], k])
  | var {d w} : nameB w = true → Ex d (.tup [.str [118, 97, 114], .str w])
  | not {d e} : Ex d e → Ex (d + 1) (.tup [.str [110, 111, 116], e])
  | op {d s e f} : s ∈ OPS → Ex d e → Ex d f → Ex (d + 1) (.tup [.str [111, 112], .str s, e, f])
  | call {d w es} : nameB w = true → es.length ≤ 3 → (∀ e ∈ es, Ex d e) → Ex (d + 1) (.tup [.str [99, 97, 108, 108], .str w, .tup es])
  | let_ {d w e f} : nameB w = true → Ex d e → Ex d f → Ex (d + 1) (.tup [.str [108, 101, 116], .str w, e, f])
  | if_ {d e f g} : Ex d e → Ex d f → Ex d g → Ex (d + 1) (.tup [.str [105, 102], e, f, g])
  | match_ {d e f g v w} : Ex d e → Ex d f → nameB v = true → nameB w = true → Ex d g → Ex (d + 1) (.tup [.str [109, 97, 116, 99, 104], e, f, .str v, .str w, g])
  | split {d e f v w} : Ex d e → nameB v = true → nameB w = true → Ex d f → Ex (d + 1) (.tup [.str [115, 112, 108, 105, 116], e, .str v, .str w, f])
  | pay {d r e} : Rt r → Ex d e → Ex (d + 1) (.tup [.str [112, 97, 121], r, e])
  | cons {d e f} : Ex d e → Ex d f → Ex (d + 1) (.tup [.str [99, 111, 110, 115], e, f])
  | pairs {d e f} : Ex d e → Ex d f → Ex (d + 1) (.tup [.str [112, 97, 105, 114, 115], e, f])
theorem Ex.up {n m : Nat} {k : D} (h : Ex n k) (hm : n ≤ m) : Ex m k := by
  induction h generalizing m with
  | int a => exact .int a
  | yes => exact .yes
  | no => exact .no
  | nil a => exact .nil a
  | var a => exact .var a
  | not a ih => obtain ⟨j, rfl⟩ : ∃ j, m = j + 1 := ⟨m - 1, by omega⟩; exact .not (ih (by omega))
  | op a b c ih1 ih2 => obtain ⟨j, rfl⟩ : ∃ j, m = j + 1 := ⟨m - 1, by omega⟩; exact .op a (ih1 (by omega)) (ih2 (by omega))
  | call a b c ih => obtain ⟨j, rfl⟩ : ∃ j, m = j + 1 := ⟨m - 1, by omega⟩; exact .call a b fun e he => ih e he (by omega)
  | let_ a b c ih1 ih2 => obtain ⟨j, rfl⟩ : ∃ j, m = j + 1 := ⟨m - 1, by omega⟩; exact .let_ a (ih1 (by omega)) (ih2 (by omega))
  | if_ a b c ih1 ih2 ih3 => obtain ⟨j, rfl⟩ : ∃ j, m = j + 1 := ⟨m - 1, by omega⟩; exact .if_ (ih1 (by omega)) (ih2 (by omega)) (ih3 (by omega))
  | match_ a b c d e ih1 ih2 ih3 => obtain ⟨j, rfl⟩ : ∃ j, m = j + 1 := ⟨m - 1, by omega⟩; exact .match_ (ih1 (by omega)) (ih2 (by omega)) c d (ih3 (by omega))
  | split a b c d ih1 ih2 => obtain ⟨j, rfl⟩ : ∃ j, m = j + 1 := ⟨m - 1, by omega⟩; exact .split (ih1 (by omega)) b c (ih2 (by omega))
  | pay a b ih => obtain ⟨j, rfl⟩ : ∃ j, m = j + 1 := ⟨m - 1, by omega⟩; exact .pay a (ih (by omega))
  | cons a b ih1 ih2 => obtain ⟨j, rfl⟩ : ∃ j, m = j + 1 := ⟨m - 1, by omega⟩; exact .cons (ih1 (by omega)) (ih2 (by omega))
  | pairs a b ih1 ih2 => obtain ⟨j, rfl⟩ : ∃ j, m = j + 1 := ⟨m - 1, by omega⟩; exact .pairs (ih1 (by omega)) (ih2 (by omega))
theorem op_good : ∀ s ∈ OPS, goodStr s = true := by decide
theorem Rt.tp {r : D} {h : Hx} (q : Rt r) : TP h 2 r := by
  cases q
  exact .tup2 TP.int TP.int
theorem Ex.tp {d : Nat} {e : D} {h : Hx} (q : Ex d e) : TP h (2 * d + 7) e := by
  induction q with
  | int a => exact .tup2 (tp_s (by decide) (by omega)) TP.int
  | yes => exact .tup1 (tp_s (by decide) (by omega))
  | no => exact .tup1 (tp_s (by decide) (by omega))
  | nil a => exact .tup2 (tp_s (by decide) (by omega)) (a.tp.le (by omega))
  | var a => exact .tup2 (tp_s (by decide) (by omega)) (tp_s (name_good a) (by omega))
  | not a ih => exact .tup2 (tp_s (by decide) (by omega)) (ih.le (by omega))
  | op a b c ih1 ih2 => exact .tup4 (tp_s (by decide) (by omega)) (tp_s (op_good _ a) (by omega)) (ih1.le (by omega)) (ih2.le (by omega))
  | call a b c ih => exact .tup3 (tp_s (by decide) (by omega)) (tp_s (name_good a) (by omega)) (.tup fun e he => (ih e he).le (by omega))
  | let_ a b c ih1 ih2 => exact .tup4 (tp_s (by decide) (by omega)) (tp_s (name_good a) (by omega)) (ih1.le (by omega)) (ih2.le (by omega))
  | if_ a b c ih1 ih2 ih3 => exact .tup4 (tp_s (by decide) (by omega)) (ih1.le (by omega)) (ih2.le (by omega)) (ih3.le (by omega))
  | match_ a b c d e ih1 ih2 ih3 => exact .tup6 (tp_s (by decide) (by omega)) (ih1.le (by omega)) (ih2.le (by omega)) (tp_s (name_good c) (by omega)) (tp_s (name_good d) (by omega)) (ih3.le (by omega))
  | split a b c d ih1 ih2 => exact .tup5 (tp_s (by decide) (by omega)) (ih1.le (by omega)) (tp_s (name_good b) (by omega)) (tp_s (name_good c) (by omega)) (ih2.le (by omega))
  | pay a b ih => exact .tup3 (tp_s (by decide) (by omega)) (a.tp.le (by omega)) (ih.le (by omega))
  | cons a b ih1 ih2 => exact .tup3 (tp_s (by decide) (by omega)) (ih1.le (by omega)) (ih2.le (by omega))
  | pairs a b ih1 ih2 => exact .tup3 (tp_s (by decide) (by omega)) (ih1.le (by omega)) (ih2.le (by omega))
/-! ### names made -/
theorem digits_of {b : Nat} (hb : b < 10 ^ 11) : (∀ c ∈ strOfInt (b : Int), c ∈ DIG) ∧ (strOfInt (b : Int)).length ≤ 11 := by
  have e : strOfInt (b : Int) = (Nat.toDigits 10 b).map Char.toNat := by
    unfold strOfInt
    have : toString (b : Int) = b.repr := rfl
    rw [this, Nat.toList_repr]
  rw [e]
  constructor
  · intro c hc
    obtain ⟨x, hx, rfl⟩ := List.mem_map.mp hc
    have hd := Nat.isDigit_of_mem_toDigits (by decide) (by decide) hx
    simp only [Char.isDigit, Bool.and_eq_true, decide_eq_true_eq] at hd
    have h1 : 48 ≤ x.toNat := UInt32.le_iff_toNat_le.mp hd.1
    have h2 : x.toNat ≤ 57 := UInt32.le_iff_toNat_le.mp hd.2
    unfold DIG
    simp only [List.mem_cons, List.not_mem_nil, or_false]
    omega
  · rw [List.length_map]
    exact (Nat.length_toDigits_le_iff (by decide) (by decide)).mpr hb
theorem name_v {b : Nat} (hb : b < 10 ^ 11) : nameB ([118] ++ strOfInt (b : Int)) = true := by
  obtain ⟨h1, h2⟩ := digits_of hb
  unfold nameB
  simp only [List.cons_append, List.nil_append, Bool.and_eq_true, decide_eq_true_eq, List.all_eq_true, List.length_cons]
  refine ⟨⟨by decide, fun c hc => ?_⟩, by omega⟩
  rcases List.mem_cons.mp hc with rfl | hc
  · decide
  · exact dig_sig c (h1 c hc)
structure RoomOk (r m : Nat) (h : Hx) : Prop where
  ok : ∃ (a : Int) (b : Nat), h[r]? = some (.lst [.int a, .int b]) ∧ b ≤ m
theorem RoomOk.mono {r m m' : Nat} {h : Hx} (o : RoomOk r m h) (hm : m ≤ m') : RoomOk r m' h := by
  obtain ⟨a, b, e, l⟩ := o.ok
  exact ⟨a, b, e, by omega⟩
theorem RoomOk.fr {r m : Nat} {h h' : Hx} {A : List Nat} (o : RoomOk r m h) (f : Fr A h h') (hr : r ∉ A) : RoomOk r m h' := by
  obtain ⟨a, b, e, l⟩ := o.ok
  exact ⟨a, b, f.get e hr, l⟩
theorem lv {c j f : Nat} {ds : List D} {h : Hx} {Q : D → Hx → Prop} (hj : c ≤ j) (w : ∀ k, wpC (CC (k + c)) f ds h Q) : wpC (CC j) f ds h Q := by
  have := w (j - c)
  rwa [Nat.sub_add_cancel hj] at this
theorem up {j f : Nat} {ds : List D} {h : Hx} {Q : D → Hx → Prop} (hj : 1 ≤ j) (w : ∀ k, j = k + 1 → wpC (CC (k + 1)) f ds h Q) : wpC (CC j) f ds h Q := by
  obtain ⟨k, rfl⟩ : ∃ k, j = k + 1 := ⟨j - 1, by omega⟩
  exact w k rfl
theorem new_name_ok {j r m : Nat} {h : Hx} {Q : D → Hx → Prop} (hj : 1 ≤ j) (hm : m < 10 ^ 10) (o : RoomOk r m h) (q : ∀ w h', nameB w = true → Fr [r] h h' → RoomOk r (m + 1) h' → Q (.str w) h') : wpC (CC j) 11 [.ref r] h Q := by
  refine up hj fun k _ => call_ok (fn := f__law_new_name) rfl rfl ?_
  obtain ⟨a, b, e, l⟩ := o.ok
  have hr := (List.getElem?_eq_some_iff.mp e).1
  have hb : b + 1 < 10 ^ 11 := by omega
  have hl := digits_of hb
  have hlog : ((b + 1 : Nat) : Int).natAbs.log2 < 1920 := by
    rw [Int.natAbs_natCast]
    have := (Nat.log2_lt (k := 62) (show b + 1 ≠ 0 by omega)).mpr (by omega)
    omega
  have hc : ((b : Int) + 1) = ((b + 1 : Nat) : Int) := by omega
  have e2 : (h.set r (.lst [.int a, .int ((b + 1 : Nat) : Int)]))[r]? = some (.lst [.int a, .int ((b + 1 : Nat) : Int)]) := List.getElem?_set_self hr
  simp only [f__law_new_name, b__law_new_name, wSl_cons, wSl_nil, wS_asg, wS_ret, wE_bin, wE_ix, wE_var, wE_int, wE_str, wG_ix, wE_bf, wEs_cons, wEs_nil, List.map_cons, List.map_nil, List.replicate, Nat.sub_self, List.append_nil, List.getElem?_cons_zero, Option.some.injEq, exists_eq_left', get_lst e, atD_1, List.getElem?_cons_succ, wb_add, hc]
  refine ⟨_, set_lst e (j := 1) rfl, ?_⟩
  simp only [List.set_cons_succ, List.set_cons_zero, get_lst e2, atD_1, List.getElem?_cons_succ, List.getElem?_cons_zero, Option.some.injEq, exists_eq_left', wf_str, wb_str]
  refine ⟨hlog, by show 1 + (strOfInt ((b + 1 : Nat) : Int)).length ≤ LIM; unfold LIM; omega, ?_⟩
  exact q _ _ (name_v hb) (Fr.refl.set (by simp)) ⟨a, b + 1, by rw [List.getElem?_set_self hr], by omega⟩
theorem draw_ok {j p n many : Nat} {h : Hx} {Q : D → Hx → Prop} (hj : 1 ≤ j) (hn : n < 2 ^ 39) (hm : 1 ≤ many) (hm2 : many < 2 ^ 62) (o : PenOk p n h) (q : ∀ r : Nat, r < many → ∀ h', Fr [p] h h' → PenOk p (n + 1) h' → Q (.int r) h') : wpC (CC j) 7 [.ref p, .int many] h Q :=
  lv hj fun k => law_draw_ok hn hm hm2 o q
theorem pen_lt {p n : Nat} {h : Hx} (o : PenOk p n h) : p < h.length := by
  obtain ⟨c, a, dg, ct, fo, ns, h1, _⟩ := o.ok
  exact (List.getElem?_eq_some_iff.mp h1).1
theorem pen_ne {p n a : Nat} {h : Hx} {xs : List D} (o : PenOk p n h) (e : h[a]? = some (.lst xs)) : a ≠ p := by
  rintro rfl
  obtain ⟨c, a', dg, ct, fo, ns, h1, _⟩ := o.ok
  rw [e] at h1
  simp [penD] at h1
theorem pick_ok {j p n a : Nat} {xs : List D} {h : Hx} {Q : D → Hx → Prop} (hj : 2 ≤ j) (hn : n < 2 ^ 39) (hne : xs ≠ []) (hl : xs.length < 2 ^ 62) (o : PenOk p n h) (ha : h[a]? = some (.lst xs)) (q : ∀ x ∈ xs, ∀ h', Fr [p] h h' → PenOk p (n + 1) h' → Q x h') : wpC (CC j) 8 [.ref p, .ref a] h Q :=
  lv hj fun k => law_pick_ok hn hne hl o ha (pen_ne o ha) q
theorem PenOk.app {p n : Nat} {h l : Hx} (o : PenOk p n h) : PenOk p n (h ++ l) := o.fr (A := []) (Fr.app .refl) (by simp)
theorem Fr.of_app {A : List Nat} {h l h' : Hx} (f : Fr A (h ++ l) h') : Fr A h h' := (Fr.app (A := A) (h := h) .refl).trans f
theorem pick_new {j p n : Nat} {xs : List D} {h : Hx} {Q : D → Hx → Prop} (hj : 2 ≤ j) (hn : n < 2 ^ 39) (hne : xs ≠ []) (hl : xs.length < 2 ^ 62) (o : PenOk p n h) (q : ∀ x ∈ xs, ∀ h', Fr [p] h h' → PenOk p (n + 1) h' → Q x h') : wpC (CC j) 8 [.ref p, .ref h.length] (h ++ [.lst xs]) Q :=
  pick_ok hj hn hne hl o.app get_app1 fun x hx h' f o' => q x hx h' (Fr.of_app f) o'
theorem whole_ok {j p n : Nat} {h : Hx} {Q : D → Hx → Prop} (hj : 3 ≤ j) (hn : n < 2 ^ 39) (o : PenOk p n h) (q : ∀ e h', (∀ d, Ex d e) → Fr [p] h h' → PenOk p (n + 1) h' → Q e h') : wpC (CC j) 13 [.ref p] h Q := by
  refine up (by omega) fun k hk => call_ok (fn := f__law_whole_number) rfl rfl ?_
  simp [f__law_whole_number, b__law_whole_number]
  refine pick_new (by omega) hn (by simp) (by simp) o fun x hx h' f o' => ?_
  refine q _ h' (fun d => ?_) f o'
  simp at hx
  rcases hx with rfl | rfl | rfl | rfl | rfl | rfl | rfl <;> exact .int (by decide)
theorem small_kind_ok {j p n : Nat} {h : Hx} {Q : D → Hx → Prop} (hj : 3 ≤ j) (hn : n < 2 ^ 39) (o : PenOk p n h) (q : ∀ e h', Kd 2 e → Fr [p] h h' → PenOk p (n + 1) h' → Q e h') : wpC (CC j) 15 [.ref p] h Q := by
  refine up (by omega) fun k hk => call_ok (fn := f__law_small_kind) rfl rfl ?_
  simp [f__law_small_kind, b__law_small_kind]
  refine pick_new (by omega) hn (by simp) (by simp) o fun x hx h' f o' => ?_
  refine q _ h' ?_ f o'
  simp at hx
  rcases hx with rfl | rfl | rfl | rfl
  · exact .int
  · exact .bool
  · exact .list .int
  · exact .pair .int .int
def ScOk (L : Nat) (d : D) : Prop := ∃ rows, d = .tup rows ∧ rows ≠ [] ∧ rows.length ≤ L ∧ ∀ r ∈ rows, ∃ w k, r = .tup [.str w, k] ∧ nameB w = true ∧ Kd 2 k
theorem of_kind_ok {j : Nat} {sc k : D} {h : Hx} {Q : D → Hx → Prop} (hj : 1 ≤ j) (hs : ScOk 1000 sc) (hk : Kd 2 k) (q : ∀ a h' xs, Fr [] h h' → h'[a]? = some (.lst xs) → xs.length ≤ 1000 → (∀ x ∈ xs, ∃ w, x = .tup [.str [118, 97, 114], .str w] ∧ nameB w = true) → Q (.ref a) h') : wpC (CC j) 12 [sc, k] h Q := by
  obtain ⟨rows, rfl, _, hl, hr⟩ := hs
  refine up hj fun kk _ => call_ok (fn := f__law_of_kind) rfl rfl ?_
  simp [f__law_of_kind, b__law_of_kind]
  refine lc_ok (QI := fun w h1 => w = (rows, .none) ∧ h1 = h) (by simp [walkOf]) (fun acc xs h' => h' = h ∧ acc.length + xs.length ≤ 1000 ∧ (∀ x ∈ acc, ∃ w, x = .tup [.str [118, 97, 114], .str w] ∧ nameB w = true) ∧ ∀ r ∈ xs, ∃ w k, r = .tup [.str w, k] ∧ nameB w = true ∧ Kd 2 k) ?_
  rintro w h1 ⟨rfl, rfl⟩
  refine ⟨⟨rfl, by simpa using hl, by simp, hr⟩, fun _ _ _ _ => rfl, ?_, ?_⟩
  · rintro acc h' ⟨rfl, h2, h3, _⟩
    exact q _ _ acc (Fr.app .refl) get_app1 (by simpa using h2) h3
  · rintro acc x xs h' ⟨rfl, h2, h3, h4⟩
    obtain ⟨w, k2, rfl, hw, hk2⟩ := h4 x (List.mem_cons_self ..)
    refine ⟨by simp at h2; unfold LIM; omega, ?_⟩
    obtain ⟨b, eb⟩ := eq_some (h := h') (hk2.tp.le (m := 60) (by omega)) (hk.tp.le (m := 60) (by omega))
    simp [wipeD, eb]
    cases b with
    | false => exact .inl ⟨rfl, by simp at h2; omega, h3, fun r hr => h4 r (List.mem_cons_of_mem _ hr)⟩
    | true =>
      refine .inr ⟨rfl, by simp at h2; omega, fun x hx => ?_, fun r hr => h4 r (List.mem_cons_of_mem _ hr)⟩
      rcases hx with hx | rfl
      · exact h3 x hx
      · exact ⟨w, rfl, hw⟩
theorem fr_nil {h h' : Hx} {A : List Nat} (f : Fr [] h h') : Fr A h h' := f.wide (by simp)
def LeafSp (p : Nat) (sc : D) (n : Nat) : Prop := ∀ {j m : Nat} {k : D} {h : Hx} {Q : D → Hx → Prop}, n + 4 ≤ j → Kd n k → Kd 2 k → m + 2 ^ (n + 3) < 2 ^ 39 → PenOk p m h →
    (∀ e h', Ex n e → Fr [p] h h' → PenOk p (m + (2 ^ (n + 3) - 1)) h' → Q e h') → wpC (CC j) 14 [.ref p, k, sc] h Q
theorem leaf_tail {p n k' m : Nat} {sc k : D} {h0 h : Hx} {x3 : Option D} {P : Post} (hj : n + 3 ≤ k') (hn : n ≤ 10) (rec : ∀ n', n = n' + 1 → LeafSp p sc n') (hk : Kd n k) (hk3 : Kd 2 k) (hm : m + 2 ^ (n + 3) < 2 ^ 39) (o : PenOk p (m + 1) h) (fr : Fr [p] h0 h)
    (q : ∀ e h', Ex n e → Fr [p] h0 h' → PenOk p (m + (2 ^ (n + 3) - 1)) h' → P.rt e h') : wSl (CC k') FUEL (dropS b__law_leaf 2) [some (.ref p), some k, some sc, x3] h P := by
  have hpow : 8 ≤ 2 ^ (n + 3) := by
    have : 2 ^ 3 ≤ 2 ^ (n + 3) := Nat.pow_le_pow_right (by decide) (by omega)
    exact this
  simp [b__law_leaf, dropS]
  rw [eq_kd hk (by omega) (.inl rfl), eq_kd hk (by omega) (.inr rfl)]
  cases hk with
  | int =>
    refine .inr ⟨by simp, whole_ok (by omega) (by omega) o fun e h' he f o' => q e h' (he _) (fr.trans f) (o'.mono (by omega))⟩
  | bool =>
    refine .inl ⟨by simp, .inr ⟨by simp, pick_new (by omega) (by omega) (by simp) (by simp) o fun x hx h' f o' => q _ h' ?_ (fr.trans f) (o'.mono (by omega))⟩⟩
    simp at hx
    rcases hx with rfl | rfl
    · exact .yes
    · exact .no
  | list a =>
    refine .inl ⟨by simp, .inl ⟨by simp, ?_⟩⟩
    simp
    rw [eq_str (by decide) (by decide)]
    refine .inr ⟨by decide, q _ h (.nil ?_) fr (o.mono (by omega))⟩
    cases hk3 with
    | list b => exact b.up (by omega)
  | @pair n' k1 k2 a b =>
    refine .inl ⟨by simp, .inl ⟨by simp, ?_⟩⟩
    simp
    rw [eq_str (by decide) (by decide)]
    have hk3' : Kd 2 k1 ∧ Kd 2 k2 := by
      cases hk3 with
      | pair c d => exact ⟨c.up (by omega), d.up (by omega)⟩
    have hp2 : 2 ^ (n' + 1 + 3) = 2 * 2 ^ (n' + 3) := by rw [show n' + 1 + 3 = (n' + 3) + 1 by omega, Nat.pow_succ]; omega
    refine .inl ⟨by decide, rec n' rfl (by omega) a hk3'.1 (by omega) o fun e1 h1 x1 f1 o1 => ?_⟩
    refine rec n' rfl (by omega) b hk3'.2 (by omega) o1 fun e2 h2 x2 f2 o2 => ?_
    exact q _ h2 (.pairs x1 x2) ((fr.trans f1).trans f2) (o2.mono (by omega))
theorem b_leaf : b__law_leaf = .cons (nthS b__law_leaf 0) (.cons (nthS b__law_leaf 1) (dropS b__law_leaf 2)) := rfl
theorem leaf_step {p : Nat} {sc : D} (hs : ScOk 1000 sc) {n : Nat} (hn : n ≤ 10) (rec : ∀ n', n = n' + 1 → LeafSp p sc n') : LeafSp p sc n := by
  intro j m k h Q hj hk hk3 hm o q
  refine up (by omega) fun k' hk' => call_ok (fn := f__law_leaf) rfl rfl ?_
  show wSl _ _ b__law_leaf [some (.ref p), some k, some sc, none] h _
  have hpow : 8 ≤ 2 ^ (n + 3) := by
    have : 2 ^ 3 ≤ 2 ^ (n + 3) := Nat.pow_le_pow_right (by decide) (by omega)
    exact this
  rw [b_leaf]
  simp [b__law_leaf, nthS]
  refine of_kind_ok (by omega) hs hk3 fun a h1 xs f1 e1 hl hx => ?_
  have e1' : (h1 ++ [MO.lst []])[a]? = some (.lst xs) := get_app e1
  have o1 : PenOk p m (h1 ++ [.lst []]) := (o.fr f1 (by simp)).app
  have f1' : Fr [p] h (h1 ++ [.lst []]) := (fr_nil f1).app
  simp [eq_nil e1' (get_app1 (h := h1)) (fun x hx' => by obtain ⟨w, rfl, hw⟩ := hx x hx'; exact .tup2 (tp_s (by decide) (by omega)) (tp_s (name_good hw) (by omega)))]
  by_cases hxs : xs = []
  · exact .inl ⟨hxs, leaf_tail (by omega) hn rec hk hk3 hm (o1.mono (by omega)) f1' q⟩
  · refine .inr ⟨hxs, draw_ok (many := 4) (by omega) (by omega) (by omega) (by omega) o1 fun r hr h2 f2 o2 => ?_⟩
    simp
    by_cases h0 : r = 0
    · refine .inl ⟨h0, leaf_tail (by omega) hn rec hk hk3 hm o2 (f1'.trans f2) q⟩
    · refine .inr ⟨by omega, pick_ok (by omega) (by omega) hxs (by omega) o2 (f2.get e1' (by simpa using pen_ne o1 e1')) fun x hx' h3 f3 o3 => ?_⟩
      obtain ⟨w, rfl, hw⟩ := hx x hx'
      exact q _ h3 (.var hw) ((f1'.trans f2).trans f3) (o3.mono (by omega))
theorem leaf_ok {p : Nat} {sc : D} (hs : ScOk 1000 sc) : ∀ (n : Nat), n ≤ 10 → LeafSp p sc n
  | 0, hn => leaf_step hs hn fun n' e => by omega
  | n + 1, hn => leaf_step hs hn fun n' e => by
    have : n' = n := by omega
    subst this
    exact @leaf_ok p sc hs n' (by omega)
end K44
end

section
set_option autoImplicit false
set_option linter.all false
set_option Elab.async false
set_option maxRecDepth 100000
set_option maxHeartbeats 4000000
namespace K44
open Ev
/-! ### expressions drawn -/
structure GS (p r n : Nat) (h0 h : Hx) : Prop where
  fr : Fr [p, r] h0 h
  pen : PenOk p n h
  room : RoomOk r n h
  lt : p < r
section
variable {p r n : Nat} {h0 h : Hx}
theorem RoomOk.ne (o : PenOk p n h) {m : Nat} (q : RoomOk r m h) : r ≠ p := by
  obtain ⟨a, b, e, _⟩ := q.ok
  exact pen_ne o e
theorem GS.up {m : Nat} (g : GS p r n h0 h) (hm : n ≤ m) : GS p r m h0 h := ⟨g.fr, g.pen.mono hm, g.room.mono hm, g.lt⟩
theorem GS.penStep {h' : Hx} (g : GS p r n h0 h) (f : Fr [p] h h') (o : PenOk p (n + 1) h') : GS p r (n + 1) h0 h' :=
  ⟨g.fr.trans (f.wide (by simp)), o, (g.room.fr f (by simpa using g.room.ne g.pen)).mono (by omega), g.lt⟩
theorem GS.app {l : Hx} (g : GS p r n h0 h) : GS p r n h0 (h ++ l) := ⟨g.fr.app, g.pen.app, g.room.fr (A := []) (Fr.app .refl) (by simp), g.lt⟩
theorem GS.same {h' : Hx} (g : GS p r n h0 h) (f : Fr [] h h') : GS p r n h0 h' := ⟨g.fr.trans (f.wide (by simp)), g.pen.fr f (by simp), g.room.fr f (by simp), g.lt⟩
variable {j : Nat} {Q : D → Hx → Prop}
theorem g_draw {many : Nat} (hj : 1 ≤ j) (hn : n < 2 ^ 35) (hm : 1 ≤ many) (hm2 : many < 2 ^ 62) (g : GS p r n h0 h) (q : ∀ x : Nat, x < many → ∀ h', GS p r (n + 1) h0 h' → Q (.int x) h') : wpC (CC j) 7 [.ref p, .int many] h Q :=
  draw_ok hj (by omega) hm hm2 g.pen fun x hx h' f o => q x hx h' (g.penStep f o)
theorem g_pick {a : Nat} {xs : List D} (hj : 2 ≤ j) (hn : n < 2 ^ 35) (hne : xs ≠ []) (hl : xs.length < 2 ^ 62) (g : GS p r n h0 h) (ha : h[a]? = some (.lst xs)) (q : ∀ x ∈ xs, ∀ h', GS p r (n + 1) h0 h' → Q x h') : wpC (CC j) 8 [.ref p, .ref a] h Q :=
  pick_ok hj (by omega) hne hl g.pen ha fun x hx h' f o => q x hx h' (g.penStep f o)
theorem g_pickN {xs : List D} (hj : 2 ≤ j) (hn : n < 2 ^ 35) (hne : xs ≠ []) (hl : xs.length < 2 ^ 62) (g : GS p r n h0 h) (q : ∀ x ∈ xs, ∀ h', GS p r (n + 1) h0 h' → Q x h') : wpC (CC j) 8 [.ref p, .ref h.length] (h ++ [.lst xs]) Q :=
  g_pick hj hn hne hl g.app get_app1 q
theorem g_name (hj : 1 ≤ j) (hn : n < 2 ^ 33) (g : GS p r n h0 h) (q : ∀ w h', nameB w = true → GS p r (n + 1) h0 h' → Q (.str w) h') : wpC (CC j) 11 [.ref r] h Q :=
  new_name_ok hj (by omega) g.room fun w h' hw f o => q w h' hw ⟨g.fr.trans (f.wide (by simp)), (g.pen.fr f (by
    intro x hx
    simp at hx
    subst hx
    exact g.lt)).mono (by omega), o, g.lt⟩
def cost : Nat → Nat
  | 0 => 128
  | d + 1 => 4 * cost d
theorem cost_ge : ∀ d, 128 ≤ cost d
  | 0 => Nat.le_refl _
  | d + 1 => by have := cost_ge d; simp only [cost]; omega
def HeadsOk (d : D) : Prop := ∃ rows, d = .tup rows ∧ rows.length ≤ 100 ∧ ∀ x ∈ rows, ∃ w ks k, x = .tup [.str w, .tup ks, k] ∧ nameB w = true ∧ ks.length ≤ 3 ∧ (∀ q ∈ ks, Kd 2 q) ∧ Kd 2 k
theorem g_leaf {k sc : D} (hj : 7 ≤ j) (hn : n < 2 ^ 34) (hs : ScOk 1000 sc) (hk : Kd 2 k) (g : GS p r n h0 h) (q : ∀ e h', Ex 2 e → GS p r (n + 63) h0 h' → Q e h') : wpC (CC j) 14 [.ref p, k, sc] h Q :=
  leaf_ok hs 2 (by omega) (by omega) hk hk (by omega) g.pen fun e h' he f o => q e h' he ⟨g.fr.trans (f.wide (by simp)), o.mono (by omega), (g.room.fr f (by simpa using g.room.ne g.pen)).mono (by omega), g.lt⟩
theorem g_kind (hj : 3 ≤ j) (hn : n < 2 ^ 35) (g : GS p r n h0 h) (q : ∀ e h', Kd 2 e → GS p r (n + 1) h0 h' → Q e h') : wpC (CC j) 15 [.ref p] h Q :=
  small_kind_ok hj (by omega) g.pen fun e h' he f o => q e h' he (g.penStep f o)
end
theorem ScOk.le {L M : Nat} {d : D} (s : ScOk L d) (h : L ≤ M) : ScOk M d := by
  obtain ⟨rows, a, b, c, e⟩ := s
  exact ⟨rows, a, b, by omega, e⟩
/-- what an expression's draw leaves; the number stands for: the spec's f is 16, 17 or 18 -/
structure XSp (f d c : Nat) (x : Nat) (jj : Nat) : Prop where
  run : ∀ {p r j n : Nat} {k sc fs : D} {h0 h : Hx} {Q : D → Hx → Prop}, jj ≤ j → Kd 2 k → ScOk (1000 - 2 * d) sc → HeadsOk fs → n + c < 2 ^ 33 → GS p r n h0 h → (∀ e h', Ex x e → GS p r (n + c) h0 h' → Q e h') → wpC (CC j) f [.ref p, k, sc, fs, .ref r, .int d] h Q
theorem int_pred (d : Nat) : (((d + 1 : Nat) : Int) - 1) = (d : Int) := by omega
theorem ScOk.add {L : Nat} {rows more : List D} (s : ScOk L (.tup rows)) (hm : ∀ r ∈ more, ∃ w k, r = .tup [.str w, k] ∧ nameB w = true ∧ Kd 2 k) : ScOk (L + more.length) (.tup (rows ++ more)) := by
  obtain ⟨rows', e, b, c, f⟩ := s
  cases e
  exact ⟨_, rfl, by simp [b], by simp; omega, fun r hr => (List.mem_append.mp hr).elim (f r) (hm r)⟩
theorem put_ok {d jj : Nat} (hd : d ≤ 20) (X : XSp 16 d (cost d) (d + 2) jj) (hjj : 10 ≤ jj) : XSp 18 (d + 1) (3 * cost d) (d + 3) (jj + 1) := by
  refine ⟨fun {p r j n k sc fs h0 h Q} hj hk hs hf hn g q => up (by omega) fun k' hk' => call_ok (fn := f__law_put_together) rfl rfl ?_⟩
  have hc := cost_ge d
  have hs' : ScOk (1000 - 2 * d) sc := hs.le (by omega)
  have hs0 : ScOk 1000 sc := hs.le (by omega)
  simp only [f__law_put_together]
  show wSl _ _ b__law_put_together [some (.ref p), some k, some sc, some fs, some (.ref r), some (.int ((d + 1 : Nat) : Int)), none, none, none] h _
  simp only [b__law_put_together, wSl_cons, wSl_nil, wS_if, wT_cmp, wE_var, wE_tup, wEs_cons, wEs_nil, wE_str, List.getElem?_cons_zero, List.getElem?_cons_succ, Option.some.injEq, exists_eq_left', cm_eq]
  rw [eq_kd hk (by omega) (.inl rfl)]
  simp
  have X16 : ∀ {n' : Nat} {k : D} {h : Hx} {Q : D → Hx → Prop}, Kd 2 k → n' + cost d < 2 ^ 33 → GS p r n' h0 h → (∀ e h', Ex (d + 2) e → GS p r (n' + cost d) h0 h' → Q e h') → wpC (evCall fns FUEL k') 16 [.ref p, k, sc, fs, .ref r, .int d] h Q := fun hk hn g q => X.run (by omega) hk hs' hf hn g q
  by_cases hi : k = .tup [.str [105, 110, 116]]
  · rw [if_pos hi]
    refine g_pickN (by omega) (by omega) (by simp) (by simp) g fun x hx h1 g1 => X16 hk (by omega) g1 fun e1 h2 x1 g2 => ?_
    simp at hx
    rcases hx with rfl | rfl | rfl | rfl
    · rw [eq_str (by decide) (by decide)]
      refine .inl ⟨by decide, X16 hk (by omega) g2 fun e2 h3 x2 g3 => q _ h3 (.op (by decide) x1 x2) (g3.up (by omega))⟩
    · rw [eq_str (by decide) (by decide)]
      refine .inl ⟨by decide, X16 hk (by omega) g2 fun e2 h3 x2 g3 => q _ h3 (.op (by decide) x1 x2) (g3.up (by omega))⟩
    · rw [eq_str (by decide) (by decide)]
      refine .inl ⟨by decide, X16 hk (by omega) g2 fun e2 h3 x2 g3 => q _ h3 (.op (by decide) x1 x2) (g3.up (by omega))⟩
    · rw [eq_str (by decide) (by decide)]
      refine .inr ⟨by decide, g_leaf (by omega) (by omega) hs0 hk g2 fun e2 h3 x2 g3 => q _ h3 (.op (by decide) x1 (x2.up (by omega))) (g3.up (by omega))⟩
  · rw [if_neg hi, eq_kd hk (by omega) (.inr rfl)]
    cases hk with
    | int => exact absurd rfl hi
    | bool =>
      refine .inr ⟨by simp, g_draw (many := 3) (by omega) (by omega) (by omega) (by omega) g fun x hx h1 g1 => ?_⟩
      by_cases h0 : x = 0
      · refine .inr ⟨by simp [h0], X16 .bool (by omega) g1 fun e1 h2 x1 g2 => q _ h2 (.not x1) (g2.up (by omega))⟩
      · refine .inl ⟨by simp; omega, g_pickN (by omega) (by omega) (by simp) (by simp) g1 fun y hy h2 g2 => ?_⟩
        simp at hy
        rcases hy with rfl | rfl | rfl | rfl | rfl | rfl
        · exact .inr ⟨by simp, X16 .bool (by omega) g2 fun e1 h3 x1 g3 => X16 .bool (by omega) g3 fun e2 h4 x2 g4 => q _ h4 (.op (by decide) x1 x2) (g4.up (by omega))⟩
        · exact .inr ⟨by simp, X16 .bool (by omega) g2 fun e1 h3 x1 g3 => X16 .bool (by omega) g3 fun e2 h4 x2 g4 => q _ h4 (.op (by decide) x1 x2) (g4.up (by omega))⟩
        · exact .inl ⟨by simp, X16 .int (by omega) g2 fun e1 h3 x1 g3 => X16 .int (by omega) g3 fun e2 h4 x2 g4 => q _ h4 (.op (by decide) x1 x2) (g4.up (by omega))⟩
        · exact .inl ⟨by simp, X16 .int (by omega) g2 fun e1 h3 x1 g3 => X16 .int (by omega) g3 fun e2 h4 x2 g4 => q _ h4 (.op (by decide) x1 x2) (g4.up (by omega))⟩
        · exact .inl ⟨by simp, X16 .int (by omega) g2 fun e1 h3 x1 g3 => X16 .int (by omega) g3 fun e2 h4 x2 g4 => q _ h4 (.op (by decide) x1 x2) (g4.up (by omega))⟩
        · exact .inl ⟨by simp, X16 .int (by omega) g2 fun e1 h3 x1 g3 => X16 .int (by omega) g3 fun e2 h4 x2 g4 => q _ h4 (.op (by decide) x1 x2) (g4.up (by omega))⟩
    | list a =>
      refine .inl ⟨by simp, ?_⟩
      simp
      rw [eq_str (by decide) (by decide)]
      exact .inr ⟨by decide, X16 (a.up (by omega)) (by omega) g fun e1 h2 x1 g2 => X16 (.list a) (by omega) g2 fun e2 h3 x2 g3 => q _ h3 (.cons x1 x2) (g3.up (by omega))⟩
    | pair a b =>
      refine .inl ⟨by simp, ?_⟩
      simp
      rw [eq_str (by decide) (by decide)]
      exact .inl ⟨by decide, X16 (a.up (by omega)) (by omega) g fun e1 h2 x1 g2 => X16 (b.up (by omega)) (by omega) g2 fun e2 h3 x2 g3 => q _ h3 (.pairs x1 x2) (g3.up (by omega))⟩
def CK (k : D) : Prop := (∃ a, k = .tup [.str [108, 105, 115, 116], a] ∧ Kd 1 a) ∨ ∃ a b, k = .tup [.str [112, 97, 105, 114], a, b] ∧ Kd 1 a ∧ Kd 1 b
theorem CK.kd {k : D} (h : CK k) : Kd 2 k := by
  rcases h with ⟨a, rfl, ha⟩ | ⟨a, b, rfl, ha, hb⟩
  · exact .list ha
  · exact .pair ha hb
theorem taken_tail {d jj k' p r n a : Nat} {k fs : D} {rows acc : List D} {h0 H : Hx} {P : Post} (hd : d ≤ 20) (X : XSp 16 d (cost d) (d + 2) jj) (hjj : 10 ≤ jj) (hj : jj ≤ k') (hk : Kd 2 k) (hs : ScOk (1000 - 2 * (d + 1)) (.tup rows)) (hf : HeadsOk fs) (hn : n + 3 * cost d < 2 ^ 33) (g : GS p r n h0 H)
    (ea : H[a]? = some (.lst acc)) (hl : acc.length ≤ 1000) (h3 : ∀ x ∈ acc, ∃ w k, x = .tup [.str w, k] ∧ nameB w = true ∧ CK k) (q : ∀ (e : D) (h' : Hx), Ex (d + 3) e → GS p r (n + 3 * cost d) h0 h' → P.rt e h') :
    wSl (CC k') FUEL (dropS b__law_taken_apart 1) [some (.ref p), some k, some (.tup rows), some fs, some (.ref r), some (.int ((d + 1 : Nat) : Int)), some (.ref a), none, none, none, none, none, none] H P := by
  have hc := cost_ge d
  have hs0 : ScOk 1000 (.tup rows) := hs.le (by omega)
  have ea' : (H ++ [MO.lst []])[a]? = some (.lst acc) := get_app ea
  have g' : GS p r n h0 (H ++ [MO.lst []]) := g.app
  have eqn := eq_nil ea' (get_app1 (h := H)) (fun x hx => by
      obtain ⟨w, k2, rfl, hw, hk2⟩ := h3 x hx
      exact .tup2 (tp_s (name_good hw) (by omega)) (hk2.kd.tp.le (by omega)))
  simp [b__law_taken_apart, dropS, eqn]
  by_cases hacc : acc = []
  · exact .inr ⟨hacc, g_leaf (by omega) (by omega) hs0 hk g' fun e h1 x1 g1 => q e h1 (x1.up (by omega)) (g1.up (by omega))⟩
  · refine .inl ⟨hacc, g_pick (by omega) (by omega) hacc (by omega) g' ea' fun x hx h1 g1 => ?_⟩
    obtain ⟨w, k2, rfl, hw, hk2⟩ := h3 x hx
    simp [setAll]
    refine g_name (by omega) (by omega) g1 fun w1 h2 hw1 g2 => ?_
    refine g_name (by omega) (by omega) g2 fun w2 h3 hw2 g3 => ?_
    have hrl : rows ≠ [] ∧ rows.length + 2 ≤ LIM := by
      obtain ⟨rows', e, b, c, f⟩ := hs
      cases e
      exact ⟨b, by unfold LIM; omega⟩
    have hadd : ∀ k3 k4 : D, Kd 2 k3 → Kd 2 k4 → ScOk (1000 - 2 * d) (.tup (rows ++ [.tup [.str w1, k3], .tup [.str w2, k4]])) := fun k3 k4 h3 h4 => (hs.add (more := [.tup [.str w1, k3], .tup [.str w2, k4]]) (fun r hr => by
      simp at hr
      rcases hr with rfl | rfl
      · exact ⟨w1, k3, rfl, hw1, h3⟩
      · exact ⟨w2, k4, rfl, hw2, h4⟩)).le (by simp; omega)
    rcases hk2 with ⟨a1, rfl, ha1⟩ | ⟨a1, b1, rfl, ha1, hb1⟩
    · simp
      rw [eq_str (by decide) (by decide)]
      refine ⟨by decide, X.run (by omega) hk (hs.le (by omega)) hf (by omega) g3 fun e1 h4 x1 g4 => ⟨hrl, X.run (by omega) hk (hadd _ _ (ha1.up (by omega)) (.list ha1)) hf (by omega) g4 fun e2 h5 x2 g5 => q _ h5 (.match_ (.var hw) x1 hw1 hw2 x2) (g5.up (by omega))⟩⟩
    · simp
      rw [eq_str (by decide) (by decide)]
      exact .inr ⟨by decide, hrl, X.run (by omega) hk (hadd _ _ (ha1.up (by omega)) (hb1.up (by omega))) hf (by omega) g3 fun e2 h5 x2 g5 => q _ h5 (.split (.var hw) hw1 hw2 x2) (g5.up (by omega))⟩
theorem taken_ok {d jj : Nat} (hd : d ≤ 20) (X : XSp 16 d (cost d) (d + 2) jj) (hjj : 10 ≤ jj) : XSp 17 (d + 1) (3 * cost d) (d + 3) (jj + 1) := by
  refine ⟨fun {p r j n k sc fs h0 h Q} hj hk hs hf hn g q => up (by omega) fun k' hk' => call_ok (fn := f__law_taken_apart) rfl rfl ?_⟩
  have hc := cost_ge d
  have hs0 : ScOk 1000 sc := hs.le (by omega)
  obtain ⟨rows, rfl, hne, hlen, hrows⟩ := id hs
  show wSl _ _ b__law_taken_apart [some (.ref p), some k, some (.tup rows), some fs, some (.ref r), some (.int ((d + 1 : Nat) : Int)), none, none, none, none, none, none, none] h _
  have eb : b__law_taken_apart = .cons (.asg (.nm 6) (.lc [12] (.nm 12) (.seq (.var 2)) (.cons (.cmp .inn (.ix (.ix (.var 12) (.int 1)) (.int 0)) (.tup (.cons (.str [108, 105, 115, 116]) (.cons (.str [112, 97, 105, 114]) .nil)))) .nil) (.var 12))) (dropS b__law_taken_apart 1) := rfl
  rw [eb, wSl_cons, wS_asg]
  refine lc_ok (QI := fun w h1 => w = (rows, .none) ∧ h1 = h) (by simp [walkOf]) (fun acc xs h' => h' = h ∧ acc.length + xs.length ≤ 1000 ∧ (∀ x ∈ acc, ∃ w k, x = .tup [.str w, k] ∧ nameB w = true ∧ CK k) ∧ ∀ r ∈ xs, ∃ w k, r = .tup [.str w, k] ∧ nameB w = true ∧ Kd 2 k) ?_
  rintro w h1 ⟨rfl, rfl⟩
  refine ⟨⟨rfl, by simp; omega, by simp, hrows⟩, fun _ _ _ _ => rfl, ?_, ?_⟩
  · rintro acc h' ⟨rfl, h2, h3, _⟩
    simp only [wG_nm, List.set_cons_succ, List.set_cons_zero]
    exact taken_tail (k' := k') (P := { nx := fun _ h1 => Q .non h1, rt := Q }) hd X hjj (by omega) hk hs hf hn g.app get_app1 (by simpa using h2) h3 q
  · rintro acc x xs h' ⟨rfl, h2, h3, h4⟩
    obtain ⟨w, k2, rfl, hw, hk2⟩ := h4 x (List.mem_cons_self ..)
    refine ⟨by simp at h2; unfold LIM; omega, ?_⟩
    have hrest : ∀ r ∈ xs, ∃ w k, r = .tup [.str w, k] ∧ nameB w = true ∧ Kd 2 k := fun r hr => h4 r (List.mem_cons_of_mem _ hr)
    cases hk2 with
    | int => simp [wipeD]; exact ⟨by simp at h2; omega, h3, hrest⟩
    | bool => simp [wipeD]; exact ⟨by simp at h2; omega, h3, hrest⟩
    | list a =>
      simp [wipeD]
      refine ⟨by simp at h2; omega, fun x hx => ?_, hrest⟩
      rcases hx with hx | rfl
      · exact h3 x hx
      · exact ⟨w, _, rfl, hw, .inl ⟨_, rfl, a⟩⟩
    | pair a b =>
      simp [wipeD]
      refine ⟨by simp at h2; omega, fun x hx => ?_, hrest⟩
      rcases hx with hx | rfl
      · exact h3 x hx
      · exact ⟨w, _, rfl, hw, .inr ⟨_, _, rfl, a, b⟩⟩
/-- a comprehension that draws an expression for each kind -/
theorem kinds_lc {C : Call} {d jj k' p r n : Nat} {sc fs : D} {h0 h : Hx} {it : It} {ks : List D} {s : Sx} {Q : D → Hx → Prop} (X : XSp 16 d (cost d) (d + 2) jj) (hj : jj ≤ k') (hs : ScOk (1000 - 2 * d) sc) (hf : HeadsOk fs) (hn : n + ks.length * cost d < 2 ^ 33) (g : GS p r n h0 h) (hl : ks.length ≤ 3)
    (hks : ∀ q ∈ ks, Kd 2 q) (hC : C = CC k') (s0 : s[0]? = some (some (.ref p))) (s2 : s[2]? = some (some sc)) (s3 : s[3]? = some (some fs)) (s4 : s[4]? = some (some (.ref r))) (s5 : s[5]? = some (some (.int ((d + 1 : Nat) : Int)))) (hlen : 7 < s.length)
    (hi : wpI C it s h fun w h1 => w = (ks, .none) ∧ h1 = h) (q : ∀ (a : Nat) (es : List D) (h' : Hx), GS p r (n + ks.length * cost d) h0 h' → h'[a]? = some (.lst es) → es.length = ks.length → (∀ e ∈ es, Ex (d + 2) e) → Q (.ref a) h') :
    wpE C (.lc [7] (.nm 7) it .nil (.call 16 (.cons (.var 0) (.cons (.var 7) (.cons (.var 2) (.cons (.var 3) (.cons (.var 4) (.cons (.bin .sub (.var 5) (.int 1)) .nil)))))))) s h Q := by
  subst hC
  refine lc_ok hi (fun acc xs h' => acc.length + xs.length = ks.length ∧ (∀ e ∈ acc, Ex (d + 2) e) ∧ (∀ q ∈ xs, Kd 2 q) ∧ GS p r (n + acc.length * cost d) h0 h') ?_
  rintro w h1 ⟨rfl, rfl⟩
  refine ⟨⟨by simp, by simp, hks, by simpa using g⟩, fun _ _ _ _ => rfl, ?_, ?_⟩
  · rintro acc h' ⟨e1, e2, _, g1⟩
    simp at e1
    rw [e1] at g1
    exact q _ acc _ g1.app get_app1 e1 e2
  · rintro acc x xs h' ⟨e1, e2, e3, g1⟩
    have hal : acc.length < ks.length := by simp at e1; omega
    have hmul : acc.length * cost d + cost d ≤ ks.length * cost d := by
      have := Nat.mul_le_mul_right (cost d) (show acc.length + 1 ≤ ks.length by omega)
      rw [Nat.add_mul, Nat.one_mul] at this
      exact this
    refine ⟨by unfold LIM; omega, ?_⟩
    simp only [wG_nm, wTs_nil, if_true, wipeD, wE_call, wEs_cons, wEs_nil, wE_var, wE_bin, wE_int]
    have z : ∀ i : Nat, i ≠ 7 → ((s.set 7 none).set 7 (some x))[i]? = s[i]? := fun i hi => by rw [List.getElem?_set_ne (Ne.symm hi), List.getElem?_set_ne (Ne.symm hi)]
    have z7 : ((s.set 7 none).set 7 (some x))[7]? = some (some x) := List.getElem?_set_self (by simpa using hlen)
    simp only [z 0 (by decide), z 2 (by decide), z 3 (by decide), z 4 (by decide), z 5 (by decide), z7, s0, s2, s3, s4, s5, Option.some.injEq, exists_eq_left', wb_sub, int_pred]
    refine X.run hj (e3 x (List.mem_cons_self ..)) hs hf (by omega) g1 fun e h2 x2 g2 => ⟨by simp at e1 ⊢; omega, fun y hy => ?_, fun y hy => e3 y (List.mem_cons_of_mem _ hy), ?_⟩
    · rcases List.mem_append.mp hy with hy | hy
      · exact e2 y hy
      · simp at hy; subst hy; exact x2
    · rw [List.length_append, List.length_singleton, Nat.add_mul, Nat.one_mul]
      rw [Nat.add_assoc] at g2
      exact g2
end K44
end

section
set_option autoImplicit false
set_option linter.all false
set_option Elab.async false
set_option maxRecDepth 100000
set_option maxHeartbeats 4000000
namespace K44
open Ev
theorem isIn_67 {h : Hx} {x : Nat} : isIn h (.int x) (.tup [.int 6, .int 7]) = some (decide (x = 6 ∨ x = 7)) := by
  show some ([D.int 6, D.int 7].any fun z => eqFlat z (.int x)) = _
  congr 1
  show ((6 : Int) == (x : Int) || ((7 : Int) == (x : Int) || false)) = _
  rw [Bool.eq_iff_iff]
  simp
  omega
theorem expr_tail {d jj k' p r n : Nat} {k sc fs : D} {h0 h : Hx} {P : Post} (hd : d ≤ 20) (X : XSp 16 d (cost d) (d + 2) jj) (hjj : 10 ≤ jj) (hj : jj + 1 ≤ k') (hk : Kd 2 k) (hs : ScOk (1000 - 2 * (d + 1)) sc) (hf : HeadsOk fs) (hn : n + 4 * cost d < 2 ^ 33) (g : GS p r n h0 h)
    (q : ∀ (e : D) (h' : Hx), Ex (d + 3) e → GS p r (n + 4 * cost d) h0 h' → P.rt e h') :
    wSl (CC k') FUEL (dropS b__law_expr 2) [some (.ref p), some k, some sc, some fs, some (.ref r), some (.int ((d + 1 : Nat) : Int)), none, none, none, none, none, none, none, none, none] h P := by
  have hc := cost_ge d
  have hs0 : ScOk 1000 sc := hs.le (by omega)
  have hs' : ScOk (1000 - 2 * d) sc := hs.le (by omega)
  obtain ⟨rows, hrows⟩ : ∃ rows, sc = .tup rows := by
    obtain ⟨rows, e, _⟩ := hs
    exact ⟨rows, e⟩
  have X16 : ∀ {n' : Nat} {k : D} {h : Hx} {Q : D → Hx → Prop}, Kd 2 k → n' + cost d < 2 ^ 33 → GS p r n' h0 h → (∀ e h', Ex (d + 2) e → GS p r (n' + cost d) h0 h' → Q e h') → wpC (evCall fns FUEL k') 16 [.ref p, k, sc, fs, .ref r, .int d] h Q := fun hk hn g q => X.run (by omega) hk hs' hf hn g q
  have X18 := put_ok hd X hjj
  have X17 := taken_ok hd X hjj
  simp [b__law_expr, dropS]
  refine g_draw (many := 12) (by omega) (by omega) (by omega) (by omega) g fun x hx h1 g1 => ?_
  simp [isIn_67]
  by_cases h3 : x < 3
  · exact .inr ⟨by omega, g_leaf (by omega) (by omega) hs0 hk g1 fun e h2 x1 g2 => q e h2 (x1.up (by omega)) (g2.up (by omega))⟩
  · refine .inl ⟨by omega, ?_⟩
    by_cases e3 : x = 3
    · refine .inr ⟨by omega, g_kind (by omega) (by omega) g1 fun k2 h2 hk2 g2 => ?_⟩
      refine X16 hk2 (by omega) g2 fun e1 h3 x1 g3 => g_name (by omega) (by omega) g3 fun w h4 hw g4 => ?_
      simp [setAll]
      subst hrows
      have hadd : ScOk (1000 - 2 * d) (.tup (rows ++ [.tup [.str w, k2]])) := (hs.add (more := [.tup [.str w, k2]]) (fun r hr => by
        simp at hr
        subst hr
        exact ⟨w, k2, rfl, hw, hk2⟩)).le (by simp; omega)
      have hrl : rows ≠ [] ∧ rows.length + 1 ≤ LIM := by
        obtain ⟨rows', e, b, c, f⟩ := hs
        cases e
        exact ⟨b, by unfold LIM; omega⟩
      simp
      exact ⟨hrl, X.run (by omega) hk hadd hf (by omega) g4 fun e2 h5 x2 g5 => q _ h5 (.let_ hw x1 x2) (g5.up (by omega))⟩
    · refine .inl ⟨by omega, ?_⟩
      by_cases e4 : x = 4
      · refine .inr ⟨by omega, ?_⟩
        refine kinds_lc (ks := [.tup [.str [98, 111, 111, 108]], k, k]) X (by omega) hs' hf (by simp; omega) g1 (by simp) ?_ rfl rfl rfl rfl rfl (by simp) (by simp) (by simp [walkOf]) fun a es h2 g2 ea el hes => ?_
        · intro y hy
          simp at hy
          rcases hy with rfl | rfl
          · exact .bool
          · exact hk
        · match es, el, hes, ea with
          | [e1, e2, e3], _, hes, ea =>
            simp [get_lst ea]
            exact q _ h2 (.if_ (hes _ (by simp)) (hes _ (by simp)) (hes _ (by simp))) (g2.up (by simp; omega))
      · refine .inl ⟨by omega, ?_⟩
        by_cases e5 : x = 5
        · refine .inr ⟨by omega, g_pickN (by omega) (by omega) (by simp) (by simp) g1 fun y hy h2 g2 => X16 hk (by omega) g2 fun e1 h3 x1 g3 => q _ h3 (.pay ?_ x1) (g3.up (by omega))⟩
          simp at hy
          rcases hy with rfl | rfl | rfl | rfl | rfl <;> exact .mk (by decide) (by decide) (by decide)
        · refine .inl ⟨by omega, ?_⟩
          have hcast : ((d : Int) + 1) = ((d + 1 : Nat) : Int) := by omega
          simp only [hcast]
          by_cases e67 : x = 6 ∨ x = 7
          · exact .inr ⟨e67, X17.run (by omega) hk hs hf (by omega) g1 fun e h2 x1 g2 => q e h2 x1 (g2.up (by omega))⟩
          · refine .inl ⟨by omega, ?_⟩
            by_cases e8 : x = 8
            · refine .inr ⟨by omega, ?_⟩
              obtain ⟨frows, rfl, hfl, hfr⟩ := id hf
              refine lc_ok (QI := fun w h' => w = (frows, .none) ∧ h' = h1) (by simp [walkOf]) (fun acc xs h' => h' = h1 ∧ acc.length + xs.length ≤ 100 ∧ (∀ y ∈ acc, y ∈ frows) ∧ ∀ y ∈ xs, y ∈ frows) ?_
              rintro w h' ⟨rfl, rfl⟩
              refine ⟨⟨rfl, by simpa using hfl, by simp, fun y hy => hy⟩, fun _ _ _ _ => rfl, ?_, ?_⟩
              · rintro acc h'' ⟨rfl, hl, ha, _⟩
                have ea : (h'' ++ [MO.lst acc] ++ [MO.lst []])[h''.length]? = some (.lst acc) := get_app get_app1
                have eqn := eq_nil ea (get_app1 (h := h'' ++ [MO.lst acc])) (fun y hy => by
                  obtain ⟨w, ks, k2, rfl, hw, _, hks, hk2⟩ := hfr y (ha y hy)
                  exact .tup3 (tp_s (name_good hw) (by omega)) ((TP.tup (n := 10) fun z hz => (hks z hz).tp.le (by omega)).le (by omega)) (hk2.tp.le (by omega)))
                rw [eqn]
                have g' : GS p r (n + 1) h0 (h'' ++ [MO.lst acc] ++ [MO.lst []]) := g1.app.app
                by_cases hacc : acc = []
                · exact .inl ⟨by simp [hacc], X18.run (by omega) hk hs hf (by omega) g' fun e h2 x1 g2 => q e h2 x1 (g2.up (by omega))⟩
                · refine .inr ⟨by simp [hacc], g_pick (by omega) (by omega) hacc (by simp at hl; omega) g' ea fun y hy h2 g2 => ?_⟩
                  obtain ⟨w, ks, k2, rfl, hw, hkl, hks, hk2⟩ := hfr y (ha y hy)
                  simp
                  have hmul : ks.length * cost d ≤ 3 * cost d := Nat.mul_le_mul_right _ hkl
                  refine kinds_lc (ks := ks) X (by omega) hs' hf (by omega) g2 hkl hks rfl rfl rfl rfl rfl (by simp) (by simp) (by simp [walkOf]) fun a es h3 g3 ea el hes => ?_
                  rw [wf_tupL ea]
                  exact q _ h3 (.call hw (by omega) hes) (g3.up (by omega))
              · rintro acc y xs h'' ⟨rfl, hl, ha, hx⟩
                obtain ⟨w, ks, k2, rfl, hw, hkl, hks, hk2⟩ := hfr y (hx y (List.mem_cons_self ..))
                refine ⟨by simp at hl; unfold LIM; omega, ?_⟩
                obtain ⟨b, eb⟩ := eq_some (h := h'') (hk2.tp.le (m := 60) (by omega)) (hk.tp.le (m := 60) (by omega))
                simp [wipeD, eb]
                have hx' : ∀ z ∈ xs, z ∈ frows := fun z hz => hx z (List.mem_cons_of_mem _ hz)
                cases b with
                | false => exact .inl ⟨rfl, by simp at hl; omega, ha, hx'⟩
                | true =>
                  refine .inr ⟨rfl, by simp at hl; omega, fun z hz => ?_, hx'⟩
                  rcases hz with hz | rfl
                  · exact ha z hz
                  · exact hx _ (List.mem_cons_self ..)
            · exact .inl ⟨by omega, X18.run (by omega) hk hs hf (by omega) g1 fun e h2 x1 g2 => q e h2 x1 (g2.up (by omega))⟩
theorem b_expr : b__law_expr = .cons (nthS b__law_expr 0) (.cons (nthS b__law_expr 1) (dropS b__law_expr 2)) := rfl
/-- the first rows: room is less, a leaf if there is none -/
theorem expr_head {d k' p r n : Nat} {k sc fs : D} {h0 h : Hx} {P : Post} (hk' : 7 ≤ k') (hk : Kd 2 k) (hs : ScOk 1000 sc) (hn : n + 63 < 2 ^ 33) (g : GS p r n h0 h) (q : ∀ (e : D) (h' : Hx), Ex 2 e → GS p r (n + 63) h0 h' → P.rt e h')
    (tail : d ≠ 0 → ∀ h', GS p r n h0 h' → wSl (CC k') FUEL (dropS b__law_expr 2) [some (.ref p), some k, some sc, some fs, some (.ref r), some (.int (d : Int)), none, none, none, none, none, none, none, none, none] h' P) :
    wSl (CC k') FUEL b__law_expr [some (.ref p), some k, some sc, some fs, some (.ref r), some (.int (d : Int)), none, none, none, none, none, none, none, none, none] h P := by
  obtain ⟨a, b, e, l⟩ := g.room.ok
  have hr := (List.getElem?_eq_some_iff.mp e).1
  have e2 : (h.set r (.lst [.int (a - 1), .int b]))[r]? = some (.lst [.int (a - 1), .int b]) := List.getElem?_set_self hr
  have g1 : GS p r n h0 (h.set r (.lst [.int (a - 1), .int b])) := ⟨g.fr.set (by simp), g.pen.fr (Fr.refl.set (A := [r]) (by simp)) (by
    intro x hx
    simp at hx
    subst hx
    exact g.lt), ⟨a - 1, b, e2, l⟩, g.lt⟩
  rw [b_expr]
  simp [nthS, b__law_expr, get_lst e]
  refine ⟨_, set_lst e (j := 0) rfl, ?_⟩
  simp [get_lst e2]
  by_cases hd : d = 0
  · refine .inr ⟨hd, g_leaf (by omega) (by omega) hs hk g1 q⟩
  · refine .inl ⟨hd, ?_⟩
    by_cases ha : a - 1 < 0
    · exact .inr ⟨ha, g_leaf (by omega) (by omega) hs hk g1 q⟩
    · exact .inl ⟨by omega, tail hd _ g1⟩
theorem expr_ok : ∀ d : Nat, d ≤ 20 → XSp 16 d (cost d) (d + 2) (10 + 2 * d)
  | 0, _ => ⟨fun {p r j n k sc fs h0 h Q} hj hk hs hf hn g q => up (by omega) fun k' hk' => call_ok (fn := f__law_expr) rfl rfl
      (expr_head (d := 0) (by omega) hk (hs.le (by omega)) (by simp only [cost] at hn; omega) g (fun e h' he g' => q e h' he (g'.up (by simp only [cost]; omega))) fun h => absurd rfl h)⟩
  | d + 1, hd => ⟨fun {p r j n k sc fs h0 h Q} hj hk hs hf hn g q => up (by omega) fun k' hk' => call_ok (fn := f__law_expr) rfl rfl (by
      have hc := cost_ge d
      have hcc : cost (d + 1) = 4 * cost d := rfl
      rw [hcc] at hn q
      refine expr_head (d := d + 1) (by omega) hk (hs.le (by omega)) (by omega) g (fun e h' he g' => q e h' (he.up (by omega)) (g'.up (by omega))) fun _ h' g' => ?_
      exact expr_tail (by omega) (expr_ok d (by omega)) (by omega) (by omega) hk hs hf hn g' q)⟩
end K44
end

section
set_option autoImplicit false
set_option linter.all false
set_option Elab.async false
set_option maxRecDepth 100000
set_option maxHeartbeats 4000000
namespace K44
open Ev
/-! ### functions, programs drawn -/
structure PS (p n : Nat) (h0 h : Hx) : Prop where
  fr : Fr [p] h0 h
  pen : PenOk p n h
def FunOk (f : D) : Prop := ∃ w ps k b, f = .tup [.str w, .tup ps, k, b] ∧ nameB w = true ∧ 1 ≤ ps.length ∧ ps.length ≤ 3 ∧ (∀ x ∈ ps, ∃ v kk, x = .tup [.str v, kk] ∧ nameB v = true ∧ Kd 2 kk) ∧ Kd 2 k ∧ Ex 6 b
section
variable {p n j : Nat} {h0 h : Hx} {Q : D → Hx → Prop}
theorem PS.up {m : Nat} (g : PS p n h0 h) (hm : n ≤ m) : PS p m h0 h := ⟨g.fr, g.pen.mono hm⟩
theorem PS.app {l : Hx} (g : PS p n h0 h) : PS p n h0 (h ++ l) := ⟨g.fr.app, g.pen.app⟩
theorem PS.step {h' : Hx} {m : Nat} (g : PS p n h0 h) (f : Fr [p] h h') (o : PenOk p m h') : PS p m h0 h' := ⟨g.fr.trans f, o⟩
theorem PS.same {h' : Hx} (g : PS p n h0 h) (f : Fr [] h h') : PS p n h0 h' := ⟨g.fr.trans (f.wide (by simp)), g.pen.fr f (by simp)⟩
theorem p_draw {many : Nat} (hj : 1 ≤ j) (hn : n < 2 ^ 35) (hm : 1 ≤ many) (hm2 : many < 2 ^ 62) (g : PS p n h0 h) (q : ∀ x : Nat, x < many → ∀ h', Fr [p] h h' → PS p (n + 1) h0 h' → Q (.int x) h') : wpC (CC j) 7 [.ref p, .int many] h Q :=
  draw_ok hj (by omega) hm hm2 g.pen fun x hx h' f o => q x hx h' f (g.step f o)
theorem p_pick {a : Nat} {xs : List D} (hj : 2 ≤ j) (hn : n < 2 ^ 35) (hne : xs ≠ []) (hl : xs.length < 2 ^ 62) (g : PS p n h0 h) (ha : h[a]? = some (.lst xs)) (q : ∀ x ∈ xs, ∀ h', Fr [p] h h' → PS p (n + 1) h0 h' → Q x h') : wpC (CC j) 8 [.ref p, .ref a] h Q :=
  pick_ok hj (by omega) hne hl g.pen ha fun x hx h' f o => q x hx h' f (g.step f o)
theorem p_pickN {xs : List D} (hj : 2 ≤ j) (hn : n < 2 ^ 35) (hne : xs ≠ []) (hl : xs.length < 2 ^ 62) (g : PS p n h0 h) (q : ∀ x ∈ xs, ∀ h', Fr [p] h h' → PS p (n + 1) h0 h' → Q x h') : wpC (CC j) 8 [.ref p, .ref h.length] (h ++ [.lst xs]) Q :=
  p_pick hj hn hne hl g.app get_app1 fun x hx h' f g' => q x hx h' (Fr.of_app f) g'
theorem p_whole (hj : 3 ≤ j) (hn : n < 2 ^ 35) (g : PS p n h0 h) (q : ∀ e h', (∀ d, Ex d e) → Fr [p] h h' → PS p (n + 1) h0 h' → Q e h') : wpC (CC j) 13 [.ref p] h Q :=
  whole_ok hj (by omega) g.pen fun e h' he f o => q e h' he f (g.step f o)
theorem ints_ok (hj : 1 ≤ j) (q : Q (.tup [.str [108, 105, 115, 116], .tup [.str [105, 110, 116]]]) h) : wpC (CC j) 19 [] h Q := by
  refine up hj fun k _ => call_ok (fn := f__law_ints) rfl rfl ?_
  simp [f__law_ints, b__law_ints]
  exact q
/-- an expression with a new room -/
theorem p_expr {d : Nat} {a : Int} {k sc fs : D} (hj : 10 + 2 * d ≤ j) (hd : d ≤ 20) (hn : n + cost d < 2 ^ 33) (hk : Kd 2 k) (hs : ScOk (1000 - 2 * d) sc) (hf : HeadsOk fs) {r : Nat} (hr : h[r]? = some (.lst [.int a, .int 0])) (hr0 : h0.length ≤ r) (hlt : p < r) (g : PS p n h0 h)
    (q : ∀ e h', Ex (d + 2) e → Fr [p, r] h h' → PS p (n + cost d) h0 h' → Q e h') : wpC (CC j) 16 [.ref p, k, sc, fs, .ref r, .int d] h Q :=
  (expr_ok d hd).run hj hk hs hf hn ⟨Fr.refl, g.pen, ⟨a, 0, hr, Nat.zero_le _⟩, hlt⟩ fun e h' he g' => q e h' he g'.fr ⟨g.fr.over g'.fr (by
    intro x hx
    simp at hx
    rcases hx with rfl | rfl
    · exact .inl (by simp)
    · exact .inr hr0), g'.pen⟩
theorem b_walk : b__law_walk_function = .cons (nthS b__law_walk_function 0) (.cons (nthS b__law_walk_function 1) (.cons (nthS b__law_walk_function 2) (dropS b__law_walk_function 3))) := rfl
def againD (nm : List Nat) : D := .tup [.str [99, 97, 108, 108], .str nm, .tup [.tup [.str [118, 97, 114], .str [121, 115]]]]
theorem again_ok {nm : List Nat} (h : nameB nm = true) (d : Nat) : Ex (d + 1) (againD nm) := .call h (by simp) (fun y hy => by simp at hy; subst hy; exact .var (by decide))
def intsD' : D := .tup [.str [108, 105, 115, 116], .tup [.str [105, 110, 116]]]
theorem kd_ints : Kd 2 intsD' := .list .int
theorem walk_tail {k' r x : Nat} {nm : List Nat} {e : D} {P : Post} {x7 x8 x9 x10 : Option D} (hk' : 20 ≤ k') (hn : n + 10 < 2 ^ 33) (hx : x < 8) (hnm : nameB nm = true) (he : Ex 3 e) (g : PS p n h0 h) (q : ∀ e h', FunOk e → PS p (n + 10) h0 h' → P.rt e h') :
    wSl (CC k') FUEL (dropS b__law_walk_function 3) [some (.ref p), some (.str nm), some intsD', some (.int x), some (.ref r), some e, some (againD nm), x7, x8, x9, x10] h P := by
  have hag := again_ok hnm
  have one : ∀ {k b : D}, Kd 2 k → Ex 6 b → FunOk (.tup [.str nm, .tup [.tup [.str [120, 115], intsD']], k, b]) := fun hk hb => ⟨nm, _, _, _, rfl, hnm, by simp, by simp, fun y hy => by
    simp at hy
    subst hy
    exact ⟨_, _, rfl, by decide, kd_ints⟩, hk, hb⟩
  have vx : ∀ d, Ex d (.tup [.str [118, 97, 114], .str [120]]) := fun d => .var (by decide)
  have vxs : ∀ d, Ex d (.tup [.str [118, 97, 114], .str [120, 115]]) := fun d => .var (by decide)
  simp [b__law_walk_function, dropS]
  by_cases h3 : x < 3
  · refine .inr ⟨by omega, p_pickN (by omega) (by omega) (by simp) (by simp) g fun s hs h1 f1 g1 => p_whole (by omega) (by omega) g1 fun w h2 hw f2 g2 => ?_⟩
    simp at hs
    rcases hs with rfl | rfl
    · exact q _ h2 (one .int (.match_ (vxs 5) (hw _) (by decide) (by decide) (.op (by decide) (he.up (by omega)) (hag 3)))) (g2.up (by omega))
    · exact q _ h2 (one .int (.match_ (vxs 5) (hw _) (by decide) (by decide) (.op (by decide) (he.up (by omega)) (hag 3)))) (g2.up (by omega))
  · refine .inl ⟨by omega, ?_⟩
    by_cases h5 : x < 5
    · refine .inr ⟨by omega, ?_⟩
      have hnil : ∀ d, Ex d (.tup [.str [110, 105, 108], .tup [.str [105, 110, 116]]]) := fun d => .nil .int
      by_cases e3 : x = 3
      · right
        refine ⟨by omega, ?_⟩
        exact q _ h (one kd_ints (.match_ (vxs 5) (hnil _) (by decide) (by decide) (.cons (he.up (by omega)) (hag 3)))) (g.up (by omega))
      · left
        refine ⟨by omega, ?_⟩
        exact q _ h (one kd_ints (.match_ (vxs 5) (hnil _) (by decide) (by decide) (.if_ (.op (by decide) (vx 3) (.int (by decide))) (.cons (he.up (by omega)) (hag 2)) (hag 3)))) (g.up (by omega))
    · refine .inl ⟨by omega, ?_⟩
      by_cases e5 : x = 5
      · refine .inr ⟨by omega, ?_⟩
        exact q _ h (one .int (.match_ (vxs 5) (.int (by decide)) (by decide) (by decide) (.op (by decide) (hag 3) (hag 3)))) (g.up (by omega))
      · refine .inl ⟨by omega, ?_⟩
        by_cases e6 : x = 6
        · refine .inr ⟨by omega, ?_⟩
          refine q _ h ⟨nm, _, _, _, rfl, hnm, by simp, by simp, fun y hy => ?_, kd_ints, .match_ (vxs 5) (.var (by decide)) (by decide) (by decide) (.cons (vx 4) (.call hnm (by simp) fun y hy => ?_))⟩ (g.up (by omega))
          · simp at hy
            rcases hy with rfl | rfl <;> exact ⟨_, _, rfl, by decide, kd_ints⟩
          · simp at hy
            rcases hy with rfl | rfl <;> exact Ex.var (d := 3) (by decide)
        · refine .inl ⟨by omega, p_pickN (by omega) (by omega) (by simp) (by simp) g fun y hy h1 f1 g1 => ?_⟩
          refine q _ h1 (one .int (.match_ (vxs 5) (.int (by decide)) (by decide) (by decide) (.pay ?_ (hag 3)))) (g1.up (by omega))
          simp at hy
          rcases hy with rfl | rfl | rfl | rfl <;> exact .mk (by decide) (by decide) (by decide)
theorem walk_ok {nm : List Nat} (hj : 30 ≤ j) (hn : n + 1000 < 2 ^ 33) (hnm : nameB nm = true) (g : PS p n h0 h) (q : ∀ e h', FunOk e → Fr [p] h h' → PS p (n + 1000) h0 h' → Q e h') : wpC (CC j) 20 [.ref p, .str nm] h Q := by
  refine up (by omega) fun k' hk' => call_ok (fn := f__law_walk_function) rfl rfl ?_
  show wSl _ _ b__law_walk_function [some (.ref p), some (.str nm), none, none, none, none, none, none, none, none, none] h _
  rw [b_walk]
  simp [b__law_walk_function, nthS]
  refine ints_ok (by omega) (p_draw (h0 := h) (many := 8) (by omega) (by omega) (by omega) (by omega) ⟨.refl, g.pen⟩ fun x hx h1 f1 g1 => ?_)
  simp [setAll]
  refine p_expr (d := 1) (a := 4) (h0 := h) (by omega) (by omega) (by simp only [cost]; omega) .int ⟨_, rfl, by simp, by simp, fun r hr => ?_⟩ ⟨[], rfl, by simp, by simp⟩ get_app1 f1.1 (pen_lt g1.pen) g1.app fun e h2 x1 f2 g2 => ?_
  · simp at hr
    subst hr
    exact ⟨_, _, rfl, by decide, .int⟩
  · have hc : cost 1 = 512 := rfl
    rw [hc] at g2
    exact walk_tail (by omega) (by omega) hx hnm x1 g2 fun e h3 he g3 => q e h3 he g3.fr ⟨g.fr.trans g3.fr, g3.pen.mono (by omega)⟩
theorem count_ok {nm : List Nat} (hj : 10 ≤ j) (hn : n + 10 < 2 ^ 33) (hnm : nameB nm = true) (g : PS p n h0 h) (q : ∀ e h', FunOk e → Fr [p] h h' → PS p (n + 10) h0 h' → Q e h') : wpC (CC j) 21 [.ref p, .str nm] h Q := by
  refine up (by omega) fun k' hk' => call_ok (fn := f__law_count_function) rfl rfl ?_
  simp [f__law_count_function, b__law_count_function]
  have vn : ∀ d, Ex d (.tup [.str [118, 97, 114], .str [110]]) := fun d => .var (by decide)
  have hag : ∀ d, Ex (d + 2) (.tup [.str [99, 97, 108, 108], .str nm, .tup [.tup [.str [111, 112], .str [45], .tup [.str [118, 97, 114], .str [110]], .tup [.str [105, 110, 116], .int 1]]]]) := fun d => .call hnm (by simp) fun y hy => by
    simp at hy
    subst hy
    exact .op (by decide) (vn d) (.int (by decide))
  refine p_pickN (by omega) (by omega) (by simp) (by simp) g fun y hy h1 f1 g1 => ?_
  refine q _ h1 ⟨nm, _, _, _, rfl, hnm, by simp, by simp, fun z hz => ?_, .int, .if_ (.op (by decide) (vn 4) (.int (by decide))) (.int (by decide)) ?_⟩ f1 (g1.up (by omega))
  · simp at hz
    subst hz
    exact ⟨_, _, rfl, by decide, .int⟩
  · simp at hy
    rcases hy with rfl | rfl | rfl
    · exact hag 3
    · exact .op (by decide) (vn 4) (hag 2)
    · exact .pay (.mk (by decide) (by decide) (by decide)) (hag 2)
theorem nest_ok {nm inner : List Nat} (hj : 2 ≤ j) (hnm : nameB nm = true) (hin : nameB inner = true) (q : ∀ e, FunOk e → Q e h) : wpC (CC j) 22 [.ref p, .str nm, .str inner] h Q := by
  refine up (by omega) fun k' hk' => call_ok (fn := f__law_nest_function) rfl rfl ?_
  simp [f__law_nest_function, b__law_nest_function]
  refine ints_ok (by omega) ?_
  have v : ∀ d w, nameB w = true → Ex d (.tup [.str [118, 97, 114], .str w]) := fun d w h => .var h
  refine q _ ⟨nm, _, _, _, rfl, hnm, by simp, by simp, fun z hz => ?_, .int, .match_ (v 5 _ (by decide)) (.int (by decide)) (by decide) (by decide) (.op (by decide) (.call hin (by simp) fun y hy => ?_) (.call hnm (by simp) fun y hy => ?_))⟩
  · simp at hz
    subst hz
    exact ⟨_, _, rfl, by decide, .list (.list .int)⟩
  · simp at hy
    subst hy
    exact v 3 _ (by decide)
  · simp at hy
    subst hy
    exact v 3 _ (by decide)
end
end K44
end

section
set_option autoImplicit false
set_option linter.all false
set_option Elab.async false
set_option maxRecDepth 100000
set_option maxHeartbeats 4000000
namespace K44
open Ev
theorem name_a {b : Nat} (hb : b < 10 ^ 11) : nameB ([97] ++ strOfInt (b : Int)) = true := by
  obtain ⟨h1, h2⟩ := digits_of hb
  unfold nameB
  simp only [List.cons_append, List.nil_append, Bool.and_eq_true, decide_eq_true_eq, List.all_eq_true, List.length_cons]
  refine ⟨⟨by decide, fun c hc => ?_⟩, by omega⟩
  rcases List.mem_cons.mp hc with rfl | hc
  · decide
  · exact dig_sig c (h1 c hc)
theorem log_small {b : Nat} (hb : b < 10 ^ 11) : ((b : Nat) : Int).natAbs.log2 < 1920 := by
  rw [Int.natAbs_natCast]
  have := log2_small (j := b) (by omega)
  by_cases h0 : b = 0
  · subst h0; decide
  · have := (Nat.log2_lt h0 (k := 62)).mpr (by omega)
    omega
section
variable {p n j : Nat} {h0 h : Hx} {Q : D → Hx → Prop}
theorem rng_take {m : Nat} {x : D} {xs : List D} {i : Nat} (e : x :: xs = (rngD 0 m).drop i) : i < m ∧ x = .int i ∧ xs = (rngD 0 m).drop (i + 1) := by
  have el : (rngD 0 m).length = m := by simp [rngD]
  have hlt : i < m := by
    have := congrArg List.length e
    rw [List.length_drop, el] at this
    simp at this; omega
  rw [List.drop_eq_getElem_cons (by rw [el]; exact hlt)] at e
  obtain ⟨a, b⟩ := List.cons.inj e
  exact ⟨hlt, by rw [a]; simp [rngD], b⟩
theorem rng_end {m i : Nat} (e : [] = (rngD 0 m).drop i) : m ≤ i := by
  have := congrArg List.length e
  simp [rngD] at this
  omega
theorem free_ok {nm : List Nat} {fs : D} {wide : Int} (hj : 40 ≤ j) (hn : n + 10000 < 2 ^ 33) (hnm : nameB nm = true) (hf : HeadsOk fs) (g : PS p n h0 h) (q : ∀ e h', FunOk e → Fr [p] h h' → PS p (n + 10000) h0 h' → Q e h') : wpC (CC j) 23 [.ref p, .str nm, fs, .int wide] h Q := by
  refine up (by omega) fun k' hk' => call_ok (fn := f__law_free_function) rfl rfl ?_
  show wSl _ _ b__law_free_function [some (.ref p), some (.str nm), some fs, some (.int wide), none, none, none, none, none, none] h _
  simp [b__law_free_function]
  refine lc_ok (QI := fun w h1 => ∃ m : Nat, 1 ≤ m ∧ m ≤ 3 ∧ w = (rngD 0 m, .none) ∧ PS p (n + 1) h h1) ?_ (fun acc xs h' => ∃ m : Nat, 1 ≤ m ∧ m ≤ 3 ∧ xs = (rngD 0 m).drop acc.length ∧ acc.length ≤ m ∧ (∀ y ∈ acc, Kd 2 y) ∧ PS p (n + 1 + acc.length) h h') ?_
  · simp
    refine p_pickN (h0 := h) (by omega) (by omega) (by simp) (by simp) ⟨.refl, g.pen⟩ fun x hx h1 f1 g1 => ?_
    simp at hx
    rcases hx with rfl | rfl | rfl | rfl
    · exact ⟨1, rfl, by decide, 1, by decide, by decide, rfl, g1⟩
    · exact ⟨2, rfl, by decide, 2, by decide, by decide, rfl, g1⟩
    · exact ⟨1, rfl, by decide, 1, by decide, by decide, rfl, g1⟩
    · exact ⟨3, rfl, by decide, 3, by decide, by decide, rfl, g1⟩
  · rintro w h1 ⟨m, hm1, hm3, rfl, g1⟩
    refine ⟨⟨m, hm1, hm3, rfl, by simp, by simp, g1⟩, fun _ _ _ _ => rfl, ?_, ?_⟩
    · rintro acc h2 ⟨m, hm1, hm3, hx, hl, hk, g2⟩
      have hlen : acc.length = m := by have := rng_end hx; omega
      have g3 : PS p (n + 5) h (h2 ++ [.lst acc]) := (g2.up (by omega)).app
      have ea : (h2 ++ [MO.lst acc])[h2.length]? = some (.lst acc) := get_app1
      generalize hH : h2 ++ [MO.lst acc] = H at g3 ea
      refine lc_ok (QI := fun w h3 => w = (rngD 0 m, .none) ∧ h3 = H) ?_ (fun acc2 xs h' => h' = H ∧ xs = (rngD 0 m).drop acc2.length ∧ acc2.length ≤ m ∧ ∀ y ∈ acc2, ∃ v kk, y = .tup [.str v, kk] ∧ nameB v = true ∧ Kd 2 kk) ?_
      · simp
        rw [wf_lenL ea]
        simp [hlen]
        omega
      · rintro w h3 ⟨rfl, rfl⟩
        refine ⟨⟨rfl, rfl, by simp, by simp⟩, fun _ _ _ _ => rfl, ?_, ?_⟩
        · rintro acc2 h4 ⟨rfl, hx2, hl2, hk2⟩
          have hlen2 : acc2.length = m := by have := rng_end hx2; omega
          rw [wf_tupL get_app1]
          refine small_kind_ok (by omega) (by omega) g3.app.pen fun k h5 hk5 f5 o5 => ?_
          simp [setAll]
          have g5 : PS p (n + 6) h h5 := ⟨g3.app.fr.trans f5, o5⟩
          refine p_expr (d := 3) (a := wide) (h0 := h) (by omega) (by omega) (by simp only [cost]; omega) hk5 ⟨acc2, rfl, by rintro rfl; simp at hlen2; omega, by omega, hk2⟩ hf get_app1 g5.fr.1 (pen_lt g5.pen) g5.app fun e h6 x6 f6 g6 => ?_
          have hc : cost 3 = 8192 := rfl
          rw [hc] at g6
          exact q _ h6 ⟨nm, _, _, _, rfl, hnm, by omega, by omega, hk2, hk5, x6.up (by omega)⟩ g6.fr ⟨g.fr.trans g6.fr, g6.pen.mono (by omega)⟩
        · rintro acc2 x xs h4 ⟨rfl, hx2, hl2, hk2⟩
          obtain ⟨hlt, rfl, rfl⟩ := rng_take hx2
          refine ⟨by unfold LIM; omega, ?_⟩
          have hb : acc2.length < 10 ^ 11 := by omega
          have h9 := digits_of hb
          obtain ⟨y, hy⟩ : ∃ y, acc[acc2.length]? = some y := ⟨_, List.getElem?_eq_getElem (by omega)⟩
          simp [wipeD, get_lst ea, hy, log_small hb]
          refine ⟨by simpa using log_small hb, by have := h9.2; unfold LIM; omega, by omega, fun z hz => ?_⟩
          rcases hz with hz | rfl
          · exact hk2 z hz
          · exact ⟨_, _, rfl, name_a hb, hk y (List.mem_of_getElem? hy)⟩
    · rintro acc x xs h2 ⟨m, hm1, hm3, hx, hl, hk, g2⟩
      obtain ⟨hlt, rfl, rfl⟩ := rng_take hx
      refine ⟨by unfold LIM; omega, ?_⟩
      simp [wipeD]
      refine ints_ok (by omega) (ints_ok (by omega) (ints_ok (by omega) ?_))
      refine p_pickN (h0 := h) (by omega) (by omega) (by simp) (by simp) g2 fun y hy h3 f3 g3 => ⟨m, hm1, hm3, rfl, by omega, fun z hz => ?_, by simpa [Nat.add_assoc] using g3⟩
      rcases hz with hz | rfl
      · exact hk z hz
      · simp at hy
        rcases hy with rfl | rfl | rfl | rfl
        · exact .int
        · exact kd_ints
        · exact .bool
        · exact .pair .int (.list .int)
/-! fares -/
def FarOk (d : D) : Prop := ∃ rows, d = .tup rows ∧ rows ≠ [] ∧ rows.length ≤ 10 ∧ ∀ r ∈ rows, ∃ s x, r = .tup [.str s, x] ∧ nameB s = true ∧ Rt x
theorem rt_of : ∀ x ∈ [D.tup [.int 0, .int 1], .tup [.int 0, .int 1], .tup [.int 1, .int 1], .tup [.int 1, .int 2], .tup [.int 2, .int 1]], Rt x := by
  intro x hx
  simp at hx
  rcases hx with rfl | rfl | rfl | rfl <;> exact .mk (by decide) (by decide) (by decide)
theorem fares_ok (hj : 10 ≤ j) (hn : n + 100 < 2 ^ 33) (g : PS p n h0 h) (q : ∀ e h', FarOk e → Fr [p] h h' → PS p (n + 100) h0 h' → Q e h') : wpC (CC j) 10 [.ref p] h Q := by
  refine up (by omega) fun k' hk' => call_ok (fn := f__law_fares) rfl rfl ?_
  show wSl _ _ b__law_fares [some (.ref p), none, none, none] h _
  simp [b__law_fares]
  obtain ⟨H, a, hH, ha⟩ : ∃ (H : Hx) (a : Nat), h ++ [MO.lst [D.tup [.int 0, .int 1], .tup [.int 0, .int 1], .tup [.int 1, .int 1], .tup [.int 1, .int 2], .tup [.int 2, .int 1]]] = H ∧ h.length = a := ⟨_, _, rfl, rfl⟩
  have ea : H[a]? = some (.lst [D.tup [.int 0, .int 1], .tup [.int 0, .int 1], .tup [.int 1, .int 1], .tup [.int 1, .int 2], .tup [.int 2, .int 1]]) := by rw [← hH, ← ha]; exact get_app1
  have gH : PS p n h H := by rw [← hH]; exact PS.app ⟨.refl, g.pen⟩
  have e2 : ∀ l : List D, h ++ [MO.lst [D.tup [.int 0, .int 1], .tup [.int 0, .int 1], .tup [.int 1, .int 1], .tup [.int 1, .int 2], .tup [.int 2, .int 1]], MO.lst l] = H ++ [.lst l] := fun l => by rw [← hH]; simp
  have e3 : h.length + 1 = H.length := by rw [← hH]; simp
  rw [e2, e3, ha]
  refine p_pickN (h0 := h) (by omega) (by omega) (by simp) (by simp) gH fun x hx h1 f1 g1 => ?_
  have ea1 := f1.get ea (by simpa using pen_ne gH.pen ea)
  refine lc_ok (QI := fun w h2 => w = ([D.str [99, 111, 110, 115], .str [109, 97, 116, 99, 104], .str [111, 112], .str [108, 101, 116], .str [112, 97, 105, 114], .str [105, 102]], .none) ∧ h2 = h1) (by simp [walkOf]) (fun acc xs h' => acc.length + xs.length ≤ 6 ∧ (∀ y ∈ xs, ∃ s, y = .str s ∧ nameB s = true) ∧ (∀ y ∈ acc, ∃ s z, y = .tup [.str s, z] ∧ nameB s = true ∧ Rt z) ∧ PS p (n + 1 + acc.length) h h' ∧ h'[a]? = some (.lst [D.tup [.int 0, .int 1], .tup [.int 0, .int 1], .tup [.int 1, .int 1], .tup [.int 1, .int 2], .tup [.int 2, .int 1]])) ?_
  rintro w h2 ⟨rfl, rfl⟩
  refine ⟨⟨by simp, ?_, by simp, by simpa using g1, ea1⟩, fun _ _ _ _ => rfl, ?_, ?_⟩
  · intro y hy
    simp at hy
    rcases hy with rfl | rfl | rfl | rfl | rfl | rfl <;> exact ⟨_, rfl, by decide⟩
  · rintro acc h3 ⟨hl, _, hr, g3, _⟩
    rw [wf_tupL get_app1]
    simp at hl
    simp
    refine ⟨by unfold LIM; omega, q _ _ ⟨_, rfl, by simp, by simp; omega, fun r hr' => ?_⟩ g3.app.fr ⟨g.fr.trans g3.app.fr, g3.app.pen.mono (by omega)⟩⟩
    rcases List.mem_cons.mp hr' with rfl | hr'
    · refine ⟨_, x, rfl, by decide, ?_⟩
      simp at hx
      rcases hx with rfl | rfl | rfl <;> exact .mk (by decide) (by decide) (by decide)
    · exact hr r hr'
  · rintro acc y xs h3 ⟨hl, hs, hr, g3, e4⟩
    obtain ⟨s, rfl, hns⟩ := hs y (List.mem_cons_self ..)
    refine ⟨by simp at hl; unfold LIM; omega, ?_⟩
    simp [wipeD]
    refine p_pick (h0 := h) (by omega) (by simp at hl; omega) (by simp) (by simp) g3 e4 fun z hz h4 f4 g4 => ⟨by simp at hl; omega, fun y hy => hs y (List.mem_cons_of_mem _ hy), fun y hy => ?_, by simpa [Nat.add_assoc] using g4, f4.get e4 (by simpa using pen_ne g3.pen e4)⟩
    rcases hy with hy | rfl
    · exact hr y hy
    · exact ⟨s, z, rfl, hns, rt_of z hz⟩
/-! heads, programs -/
theorem heads_ok {a : Nat} {fl : List D} (hj : 1 ≤ j) (ha : h[a]? = some (.lst fl)) (hl : fl.length ≤ 100) (hfl : ∀ f ∈ fl, FunOk f) (q : ∀ e h', HeadsOk e → Fr [] h h' → Q e h') : wpC (CC j) 24 [.ref a] h Q := by
  refine up (by omega) fun k' hk' => call_ok (fn := f__law_heads) rfl rfl ?_
  show wSl _ _ b__law_heads [some (.ref a), none, none, none, none, none, none] h _
  simp [b__law_heads]
  refine lc_ok (QI := fun w h2 => w = (fl, .at_ a fl) ∧ h2 = h) (by simp [walkOf, ha]) (fun acc xs h' => acc.length + xs.length ≤ 100 ∧ (∀ y ∈ xs, FunOk y) ∧ (∀ x ∈ acc, ∃ w ks k, x = .tup [.str w, .tup ks, k] ∧ nameB w = true ∧ ks.length ≤ 3 ∧ (∀ q ∈ ks, Kd 2 q) ∧ Kd 2 k) ∧ Fr [] h h') ?_
  rintro w h2 ⟨rfl, rfl⟩
  refine ⟨⟨by simpa using hl, hfl, by simp, .refl⟩, fun _ _ h' hh => by simp [Src.ok, hh.2.2.2.get ha (by simp)], ?_, ?_⟩
  · rintro acc h3 ⟨hl, _, hr, f3⟩
    rw [wf_tupL get_app1]
    exact q _ _ ⟨acc, rfl, by simpa using hl, hr⟩ f3.app
  · rintro acc y xs h3 ⟨hl, hs, hr, f3⟩
    obtain ⟨w, ps, k, b, rfl, hw, hp1, hp3, hps, hk, hb⟩ := hs y (List.mem_cons_self ..)
    refine ⟨by simp at hl; unfold LIM; omega, ?_⟩
    simp [wipeD]
    refine lc_ok (QI := fun w h4 => w = (ps, .none) ∧ h4 = h3) (by simp [walkOf]) (fun acc2 xs2 h' => h' = h3 ∧ acc2.length + xs2.length = ps.length ∧ (∀ y ∈ acc2, Kd 2 y) ∧ ∀ x ∈ xs2, ∃ v kk, x = .tup [.str v, kk] ∧ nameB v = true ∧ Kd 2 kk) ?_
    rintro w2 h4 ⟨rfl, rfl⟩
    refine ⟨⟨rfl, by simp, by simp, hps⟩, fun _ _ _ _ => rfl, ?_, ?_⟩
    · rintro acc2 h5 ⟨rfl, hl2, hk2, _⟩
      rw [wf_tupL get_app1]
      simp at hl2 hl
      refine ⟨by omega, fun z hz => hs z (List.mem_cons_of_mem _ hz), fun z hz => ?_, f3.app⟩
      rcases hz with hz | rfl
      · exact hr z hz
      · exact ⟨w, acc2, k, rfl, hw, by omega, hk2, hk⟩
    · rintro acc2 y2 xs2 h5 ⟨rfl, hl2, hk2, hx2⟩
      obtain ⟨v, kk, rfl, hv, hkk⟩ := hx2 y2 (List.mem_cons_self ..)
      refine ⟨by simp at hl2; unfold LIM; omega, ?_⟩
      simp [wipeD]
      simp at hl2
      refine ⟨by omega, fun z hz => ?_, fun z hz => hx2 z (List.mem_cons_of_mem _ hz)⟩
      rcases hz with hz | rfl
      · exact hk2 z hz
      · exact hkk
def PrOk (d : D) : Prop := ∃ fa fl, d = .tup [fa, .tup fl] ∧ FarOk fa ∧ fl.length ≤ 4 ∧ ∀ f ∈ fl, FunOk f
theorem FunOk.tp {f : D} {h : Hx} (o : FunOk f) : TP h 40 f := by
  obtain ⟨w, ps, k, b, rfl, hw, hp1, hp3, hps, hk, hb⟩ := o
  exact .tup4 (tp_s (name_good hw) (by omega)) ((TP.tup (n := 10) fun x hx => by
    obtain ⟨v, kk, rfl, hv, hkk⟩ := hps x hx
    exact (TP.tup2 (n := 9) (tp_s (name_good hv) (by omega)) (hkk.tp.le (by omega))).le (by omega)).le (by omega)) (hk.tp.le (by omega)) (hb.tp.le (by omega))
structure PI (p m : Nat) (h0 : Hx) (a : Nat) (fl : List D) (h : Hx) : Prop where
  ps : PS p m h0 h
  at_ : h[a]? = some (.lst fl)
  new : h0.length ≤ a
  lt : p < h0.length
  ok : ∀ f ∈ fl, FunOk f
theorem PI.up {m a : Nat} {fl : List D} (g : PI p n h0 a fl h) (hm : n ≤ m) : PI p m h0 a fl h := ⟨g.ps.up hm, g.at_, g.new, g.lt, g.ok⟩
theorem PI.step {m a : Nat} {fl : List D} {h' : Hx} (g : PI p n h0 a fl h) (f : Fr [p] h h') (g' : PS p m h0 h') : PI p m h0 a fl h' := ⟨g', f.get g.at_ (by have := g.lt; have := g.new; simp; omega), g.new, g.lt, g.ok⟩
theorem PI.app {a : Nat} {fl : List D} {l : Hx} (g : PI p n h0 a fl h) : PI p n h0 a fl (h ++ l) := ⟨g.ps.app, get_app g.at_, g.new, g.lt, g.ok⟩
theorem PI.same {a : Nat} {fl : List D} {h' : Hx} (g : PI p n h0 a fl h) (f : Fr [] h h') : PI p n h0 a fl h' := ⟨g.ps.same f, f.get g.at_ (by simp), g.new, g.lt, g.ok⟩
theorem PI.put {a : Nat} {fl : List D} {f : D} (g : PI p n h0 a fl h) (hf : FunOk f) : PI p n h0 a (fl ++ [f]) (h.set a (.lst (fl ++ [f]))) := ⟨⟨g.ps.fr.setNew g.new, g.ps.pen.fr (Fr.refl.set (A := [a]) (by simp)) (by
    intro x hx
    simp at hx
    subst hx
    have := g.lt
    have := g.new
    omega)⟩, List.getElem?_set_self (List.getElem?_eq_some_iff.mp g.at_).1, g.new, g.lt, fun y hy => (List.mem_append.mp hy).elim (g.ok y) fun z => by simp at z; subst z; exact hf⟩
theorem PI.app_m {a : Nat} {fl : List D} (g : PI p n h0 a fl h) : hasM h Bm.append (D.ref a) = true := by simp [hasM, g.at_]
theorem PI.nil {a : Nat} {fl : List D} (g : PI p n h0 a fl h) : eqD (h ++ [MO.lst []]) (.ref a) (.ref h.length) = some (decide (fl = [])) :=
  eq_nil (get_app g.at_) get_app1 fun x hx => (g.ok x hx).tp.le (by omega)
section
variable {k' a x : Nat} {P : Post} {fl : List D}
theorem pr1 (hk : 40 ≤ k') (hn : n + 1000 < 2 ^ 33) (hl : fl.length ≤ 10) (g : PI p n h0 a fl h) (q : ∀ fl' h', fl'.length ≤ fl.length + 1 → PI p (n + 1000) h0 a fl' h' → P.nx [some (.ref p), some (.ref a), some (.int x)] h') : wS (CC k') FUEL (nthS b__law_program 1) [some (.ref p), some (.ref a), some (.int x)] h P := by
  simp [nthS, b__law_program]
  by_cases hx : x < 5
  · refine .inr ⟨by omega, g.app_m, walk_ok (by omega) hn (by decide) g.ps fun e h1 he f1 g1 => ?_⟩
    have g2 := g.step f1 g1
    rw [wm_app g2.at_]
    exact ⟨by unfold LIM; omega, q _ _ (by simp) (g2.put he)⟩
  · exact .inl ⟨by omega, q _ _ (by omega) (g.up (by omega))⟩
theorem pr2 (hk : 40 ≤ k') (hn : n + 1000 < 2 ^ 33) (hl : fl.length ≤ 10) (g : PI p n h0 a fl h) (q : ∀ fl' h', fl'.length ≤ fl.length + 1 → PI p (n + 10) h0 a fl' h' → P.nx [some (.ref p), some (.ref a), some (.int x)] h') : wS (CC k') FUEL (nthS b__law_program 2) [some (.ref p), some (.ref a), some (.int x)] h P := by
  simp [nthS, b__law_program]
  by_cases hx : x = 5
  · refine .inr ⟨by omega, g.app_m, count_ok (by omega) (by omega) (by decide) g.ps fun e h1 he f1 g1 => ?_⟩
    have g2 := g.step f1 g1
    rw [wm_app g2.at_]
    exact ⟨by unfold LIM; omega, q _ _ (by simp) (g2.put he)⟩
  · exact .inl ⟨by omega, q _ _ (by omega) (g.up (by omega))⟩
theorem pr3 (hk : 40 ≤ k') (hn : n + 1000 < 2 ^ 33) (hl : fl.length ≤ 10) (g : PI p n h0 a fl h) (q : ∀ fl' h', fl'.length ≤ fl.length + 1 → PI p (n + 10) h0 a fl' h' → P.nx [some (.ref p), some (.ref a), some (.int x)] h') : wS (CC k') FUEL (nthS b__law_program 3) [some (.ref p), some (.ref a), some (.int x)] h P := by
  simp [nthS, b__law_program, g.nil]
  by_cases hfl : fl = []
  · exact .inl ⟨hfl, q _ _ (by omega) (g.app.up (by omega))⟩
  · refine .inr ⟨hfl, ?_⟩
    obtain ⟨f, rest, rfl⟩ : ∃ f rest, fl = f :: rest := by
      cases fl with
      | nil => exact absurd rfl hfl
      | cons f rest => exact ⟨f, rest, rfl⟩
    have g1 := g.app (l := [MO.lst []])
    obtain ⟨w, ps, k, b, rfl, hw, hp1, hp3, hps, hk3, hb⟩ := g.ok _ (List.mem_cons_self ..)
    generalize h ++ [MO.lst []] = H at g1
    have q0 := q _ _ (Nat.le_succ _) (g1.up (m := n + 10) (by omega))
    obtain ⟨y, ps', rfl⟩ : ∃ y ps', ps = y :: ps' := by
      cases ps with
      | nil => simp at hp1
      | cons y ps' => exact ⟨y, ps', rfl⟩
    obtain ⟨v, kk, rfl, hv, hkk⟩ := hps _ (List.mem_cons_self ..)
    simp [get_lst g1.at_]
    rw [eq_kd hk3 (by omega) (.inl rfl)]
    by_cases e1 : k = .tup [.str [105, 110, 116]]
    · refine .inr ⟨by simp [e1], ?_⟩
      by_cases e2 : ps' = []
      · refine .inr ⟨by simp [e2], ints_ok (by omega) ?_⟩
        obtain ⟨bb, eb⟩ := eq_some (h := H) (hkk.tp.le (m := 60) (by omega)) (kd_ints.tp.le (m := 60) (by omega))
        unfold intsD' at eb
        rw [eb]
        cases bb with
        | false => exact .inl ⟨rfl, q0⟩
        | true =>
          refine .inr ⟨rfl, p_draw (many := 4) (by omega) (by omega) (by omega) (by omega) g1.ps fun z hz h1 f1 g2 => ?_⟩
          have g3 := g1.step f1 g2
          by_cases hz0 : z = 0
          · refine .inr ⟨by simp [hz0], g3.app_m, ?_⟩
            simp [get_lst g3.at_]
            refine nest_ok (by omega) (by decide) hw fun e he => ?_
            rw [wm_app g3.at_]
            refine ⟨by simp at hl ⊢; unfold LIM; omega, q _ _ (by simp) ((g3.put he).up (by omega))⟩
          · exact .inl ⟨by simp; omega, q _ _ (by omega) (g3.up (by omega))⟩
      · refine .inl ⟨?_, q0⟩
        have : ps'.length ≠ 0 := fun z => e2 (List.length_eq_zero_iff.mp z)
        omega
    · exact .inl ⟨by simp [e1], q0⟩
theorem pr4 (hk : 45 ≤ k') (hn : n + 15000 < 2 ^ 33) (hl : fl.length ≤ 10) (g : PI p n h0 a fl h) (q : ∀ fl' h', fl'.length ≤ fl.length + 1 → PI p (n + 12000) h0 a fl' h' → P.nx [some (.ref p), some (.ref a), some (.int x)] h') : wS (CC k') FUEL (nthS b__law_program 4) [some (.ref p), some (.ref a), some (.int x)] h P := by
  simp [nthS, b__law_program, g.nil]
  have g1 := g.app (l := [MO.lst []])
  generalize h ++ [MO.lst []] = H at g1
  have go : ∀ {m : Nat} {h1 : Hx}, PI p m h0 a fl h1 → m ≤ n + 10 → hasM h1 Bm.append (D.ref a) = true ∧ wpC (CC k') 24 [.ref a] h1 fun x_1 h1 => wpC (CC k') 8 [.ref p, .ref h1.length] (h1 ++ [MO.lst [.int 6, .int 9, .int 4]]) fun x_2 h1 =>
      wpC (CC k') 23 [.ref p, .str [102, 114, 101, 101], x_1, x_2] h1 fun x_3 h1 => Wp (bmethod Bm.append (.ref a) [x_3] h1) fun _ h1 => P.nx [some (.ref p), some (.ref a), some (.int x)] h1 := fun {m h1} g2 hm => by
    refine ⟨g2.app_m, heads_ok (by omega) g2.at_ (by omega) g2.ok fun hd h2 hhd f2 => ?_⟩
    have g3 := g2.same f2
    refine p_pickN (by omega) (by omega) (by simp) (by simp) g3.ps fun y hy h3 f3 g4 => ?_
    have g5 := g3.step f3 g4
    obtain ⟨wd, rfl⟩ : ∃ wd : Int, y = .int wd := by
      simp at hy
      rcases hy with rfl | rfl | rfl <;> exact ⟨_, rfl⟩
    refine free_ok (by omega) (by omega) (by decide) hhd g5.ps fun e h4 he f4 g6 => ?_
    have g7 := g5.step f4 g6
    rw [wm_app g7.at_]
    exact ⟨by unfold LIM; omega, q _ _ (by simp) ((g7.put he).up (by omega))⟩
  by_cases hfl : fl = []
  · exact .inr ⟨hfl, go g1 (by omega)⟩
  · refine .inl ⟨hfl, p_draw (many := 2) (by omega) (by omega) (by omega) (by omega) g1.ps fun z hz h1 f1 g2 => ?_⟩
    have g3 := g1.step f1 g2
    by_cases hz0 : z = 0
    · exact .inr ⟨by simp [hz0], go g3 (by omega)⟩
    · exact .inl ⟨by simp; omega, q _ _ (by omega) (g3.up (by omega))⟩
end
theorem b_program : b__law_program = .cons (nthS b__law_program 0) (.cons (nthS b__law_program 1) (.cons (nthS b__law_program 2) (.cons (nthS b__law_program 3) (.cons (nthS b__law_program 4) (dropS b__law_program 5))))) := rfl
theorem program_ok (hj : 50 ≤ j) (hn : n + 20000 < 2 ^ 33) (g : PS p n h0 h) (q : ∀ e h', PrOk e → Fr [p] h h' → PS p (n + 20000) h0 h' → Q e h') : wpC (CC j) 25 [.ref p] h Q := by
  refine up (by omega) fun k' hk' => call_ok (fn := f__law_program) rfl rfl ?_
  show wSl _ _ b__law_program [some (.ref p), none, none] h _
  rw [b_program]
  have e0 : nthS b__law_program 0 = .par [1, 2] (.cons (.lst .nil) (.cons (.call 7 (.cons (.var 0) (.cons (.int 8) .nil))) .nil)) := rfl
  rw [wSl_cons, e0, wS_par]
  simp only [wEs_cons, wEs_nil, wE_lst, wE_call, wE_var, wE_int, List.getElem?_cons_zero, Option.some.injEq, exists_eq_left']
  refine ⟨by decide, p_draw (h0 := h) (many := 8) (by omega) (by omega) (by omega) (by omega) ⟨Fr.app .refl, g.pen.app⟩ fun x hx h1 f1 g1 => ⟨_, rfl, ?_⟩⟩
  have i1 : PI p (n + 1) h h.length [] h1 := ⟨g1, f1.get get_app1 (by have := pen_lt g.pen; simp; omega), Nat.le_refl _, pen_lt g.pen, by simp⟩
  rw [wSl_cons]
  refine pr1 (by omega) (by omega) (by simp) i1 fun fl2 h2 l2 i2 => ?_
  dsimp only
  rw [wSl_cons]
  refine pr2 (by omega) (by omega) (by simp at l2; omega) i2 fun fl3 h3 l3 i3 => ?_
  dsimp only
  rw [wSl_cons]
  refine pr3 (by omega) (by omega) (by simp at l2; omega) i3 fun fl4 h4 l4 i4 => ?_
  dsimp only
  rw [wSl_cons]
  refine pr4 (by omega) (by omega) (by simp at l2; omega) i4 fun fl5 h5 l5 i5 => ?_
  simp [b__law_program, dropS]
  refine p_draw (many := 4) (by omega) (by omega) (by omega) (by omega) i5.ps fun z hz h6 f6 g6 => ?_
  have i6 := i5.step f6 g6
  have fin : ∀ {m a : Nat} {fl : List D} {h' : Hx}, PI p m h a fl h' → m ≤ n + 15000 → fl.length ≤ 4 → wpC (evCall fns FUEL k') 10 [.ref p] h' fun x h1 => Wp (builtin Bf.tuple [.ref a] h1) fun x_1 h1 => Q (.tup [x, x_1]) h1 := fun {m a fl h'} i hm hl => by
    refine fares_ok (by omega) (by omega) i.ps fun e h7 he f7 g7 => ?_
    have i7 := i.step f7 g7
    rw [wf_tupL i7.at_]
    exact q _ h7 ⟨e, fl, rfl, he, hl, i7.ok⟩ i7.ps.fr ⟨g.fr.trans i7.ps.fr, i7.ps.pen.mono (by omega)⟩
  have hl5 : fl5.length ≤ 4 := by simp at l2; omega
  by_cases hz0 : z = 0
  · refine .inr ⟨by simp [hz0], fl5, i6.at_, ?_⟩
    have i7 := i6.app (l := [MO.lst fl5.reverse])
    exact fin (a := h6.length) ⟨i7.ps, get_app1, i6.ps.fr.1, pen_lt g.pen, fun f hf => i6.ok f (List.mem_reverse.mp hf)⟩ (by omega) (by simpa using hl5)
  · exact .inl ⟨by simp; omega, fin i6 (by omega) hl5⟩
end
end K44
end

section
set_option autoImplicit false
set_option linter.all false
set_option Elab.async false
set_option maxRecDepth 100000
set_option maxHeartbeats 4000000
namespace K44
open Ev
/-! ### words of trees -/
def Wl (h : Hx) (m : Nat) (d : D) : Prop := ∃ a ws, d = .ref a ∧ h[a]? = some (.lst (ws.map .str)) ∧ ws ≠ [] ∧ ws.length ≤ m ∧ ∀ w ∈ ws, wordB w = true
def PN (p : Nat) (pn : D) : Prop := pn = .non ∨ pn = .ref p
section
variable {p n m : Nat} {h0 h : Hx} {d : D}
theorem Wl.fr {h' : Hx} (x : Wl h m d) (o : PenOk p n h) (f : Fr [p] h h') : Wl h' m d := by
  obtain ⟨a, ws, rfl, e, r⟩ := x
  exact ⟨a, ws, rfl, f.get e (by simpa using pen_ne o e), r⟩
theorem Wl.same {h' : Hx} (x : Wl h m d) (f : Fr [] h h') : Wl h' m d := by
  obtain ⟨a, ws, rfl, e, r⟩ := x
  exact ⟨a, ws, rfl, f.get e (by simp), r⟩
theorem Wl.app {l : Hx} (x : Wl h m d) : Wl (h ++ l) m d := x.same (Fr.app .refl)
theorem Wl.up {m' : Nat} (x : Wl h m d) (hm : m ≤ m') : Wl h m' d := by
  obtain ⟨a, ws, rfl, e, r1, r2, r3⟩ := x
  exact ⟨a, ws, rfl, e, r1, by omega, r3⟩
theorem Wl.new {ws : List (List Nat)} (h1 : ws ≠ []) (h2 : ws.length ≤ m) (h3 : ∀ w ∈ ws, wordB w = true) : Wl (h ++ [.lst (ws.map .str)]) m (.ref h.length) := ⟨_, ws, rfl, get_app1, h1, h2, h3⟩
theorem cat_ok {m' : Nat} {d' : D} {Q : D → Hx → Prop} (x : Wl h m d) (y : Wl h m' d') (hm : m + m' ≤ LIM) (q : ∀ e h', Wl h' (m + m') e → Fr [] h h' → Q e h') : Wp (binop .add d d' h) Q := by
  obtain ⟨a, ws, rfl, e, r1, r2, r3⟩ := x
  obtain ⟨b, vs, rfl, f, t1, t2, t3⟩ := y
  rw [wb_lst e f]
  refine ⟨by simp; omega, q _ _ ⟨_, ws ++ vs, rfl, by simp, by simp [r1], by simp; omega, fun w hw => (List.mem_append.mp hw).elim (r3 w) (t3 w)⟩ (Fr.app .refl)⟩
/-- one more word -/
theorem catN_ok {ws : List (List Nat)} {Q : D → Hx → Prop} (x : Wl h m d) (h1 : ws ≠ []) (h3 : ∀ w ∈ ws, wordB w = true) (hm : m + ws.length ≤ LIM) (q : ∀ e h', Wl h' (m + ws.length) e → Fr [] h h' → Q e h') : Wp (binop .add d (.ref h.length) (h ++ [.lst (ws.map .str)])) Q :=
  cat_ok x.app (Wl.new h1 (Nat.le_refl _) h3) hm fun e h' w f => q e h' w ((Fr.app .refl).trans f)
theorem catF_ok {ws : List (List Nat)} {h1 : Hx} {Q : D → Hx → Prop} (x : Wl h1 m d) (y : Wl h1 ws.length (.ref h.length)) (hm : ws.length + m ≤ LIM) (q : ∀ e h', Wl h' (ws.length + m) e → Fr [] h1 h' → Q e h') : Wp (binop .add (.ref h.length) d h1) Q := cat_ok y x hm q
end
section
variable {p n m j : Nat} {h0 h : Hx} {C : Call} {s : Sx} {d : D} {Q : D → Hx → Prop}
theorem paren_ok {i : Nat} (hi : s[i]? = some (some d)) (x : Wl h m d) (hm : m + 2 ≤ LIM) (q : ∀ e h', Wl h' (m + 2) e → Fr [] h h' → Q e h') :
    wpE C (.bin .add (.bin .add (.lst (.cons (.str [40]) .nil)) (.var i)) (.lst (.cons (.str [41]) .nil))) s h Q := by
  simp [hi]
  have w1 : Wl (h ++ [MO.lst [D.str [40]]]) 1 (.ref h.length) := Wl.new (ws := [[40]]) (by simp) (by simp) (by decide)
  refine cat_ok w1 x.app (by omega) fun e h1 w f1 => ?_
  refine catN_ok (ws := [[41]]) w (by simp) (by decide) (by simp; omega) fun e2 h2 w2 f2 => q _ _ (w2.up (by simp; omega)) (((Fr.app .refl).trans f1).trans f2)
/-- with strokes round it or not, as it is drawn -/
theorem maybe_ok {i : Nat} {k many : Nat} {pn : D} (hk : 1 ≤ k) (hC : C = CC k) (hmany : 1 ≤ many) (hmany2 : many < 2 ^ 62) (hp : PN p pn) (hn : n < 2 ^ 34) (s0 : s[0]? = some (some pn)) (hi : s[i]? = some (some d)) (x : Wl h m d) (hm : m + 2 ≤ LIM) (g : PS p n h0 h) (q : ∀ e h', Wl h' (m + 2) e → PS p (n + 1) h0 h' → Q e h') :
    wpE C (.ife (.and_ (.isnN (.var 0)) (.cmp .eq (.call 7 (.cons (.var 0) (.cons (.int many) .nil))) (.int 0))) (.bin .add (.bin .add (.lst (.cons (.str [40]) .nil)) (.var i)) (.lst (.cons (.str [41]) .nil))) (.var i)) s h Q := by
  subst hC
  rcases hp with rfl | rfl
  · simp only [wE_ife, wT_and, wT_isnN, wE_var, s0, Option.some.injEq, exists_eq_left', decide_true, Bool.not_true, Bool.false_eq_true, if_false, hi]
    exact q _ _ (x.up (by omega)) (g.up (by omega))
  · simp only [wE_ife, wT_and, wT_isnN, wE_var, s0, Option.some.injEq, exists_eq_left', reduceCtorEq, decide_false, Bool.not_false, if_true, wT_cmp, wE_call, wEs_cons, wEs_nil, wE_int]
    refine p_draw (many := many) hk (by omega) hmany hmany2 g fun z hz h1 f1 g1 => ⟨_, eq_int (h := h1), ?_⟩
    have x1 := x.fr g.pen f1
    by_cases hz0 : (z : Int) = 0
    · simp only [hz0, decide_true, if_true]
      exact paren_ok hi x1 hm fun e h2 w f => q e h2 w (g1.same f)
    · simp only [hz0, decide_false, Bool.false_eq_true, if_false, wE_var, hi, Option.some.injEq, exists_eq_left']
      exact q _ _ (x1.up (by omega)) g1
def kw : Nat → Nat
  | 0 => 3
  | n + 1 => 3 + 2 * kw n
theorem kw_le : ∀ n, n ≤ 5 → kw n ≤ 200 := by decide
structure KwSp (n : Nat) : Prop where
  run : ∀ {p m j : Nat} {pn k : D} {h0 h : Hx} {Q : D → Hx → Prop}, n + 2 ≤ j → Kd n k → PN p pn → m + kw n < 2 ^ 33 → PS p m h0 h → (∀ d h', Wl h' (kw n) d → PS p (m + kw n) h0 h' → Fr [p] h h' → Q d h') → wpC (CC j) 27 [pn, k] h Q
theorem Kd.parts {n : Nat} {k : D} (h : Kd n k) : ∃ s ps, k = .tup (.str s :: ps) ∧ nameB s = true ∧ ps.length ≤ 2 ∧ (n = 0 → ps = []) ∧ ∀ n', n = n' + 1 → ∀ q ∈ ps, Kd n' q := by
  cases h with
  | int => exact ⟨_, _, rfl, by decide, by simp, fun _ => rfl, by simp⟩
  | bool => exact ⟨_, _, rfl, by decide, by simp, fun _ => rfl, by simp⟩
  | list a => exact ⟨_, _, rfl, by decide, by simp, by simp, fun n' e q hq => by
      have : n' = _ := (Nat.succ.inj e).symm
      subst this
      simp at hq; subst hq; exact a⟩
  | pair a b => exact ⟨_, _, rfl, by decide, by simp, by simp, fun n' e q hq => by
      have : n' = _ := (Nat.succ.inj e).symm
      subst this
      simp at hq
      rcases hq with rfl | rfl
      · exact a
      · exact b⟩
theorem word_name {w : List Nat} (h : nameB w = true) : wordB w = true := by simp [wordB, h]
theorem kind_step {n : Nat} (hn5 : n ≤ 5) (rec : ∀ n', n = n' + 1 → KwSp n') : KwSp n := by
  refine ⟨fun {p m j pn k h0 h Q} hj hk hp hm g q => up (by omega) fun k' hk' => call_ok (fn := f__law_kind_words) rfl rfl ?_⟩
  obtain ⟨s, ps, rfl, hs, hpl, hz, hps⟩ := hk.parts
  have hkw := kw_le n hn5
  show wSl _ _ b__law_kind_words [some pn, some (.tup (.str s :: ps)), none, none] h _
  simp [b__law_kind_words]
  have w0 : Wl (h ++ [MO.lst [D.str s]]) 1 (.ref h.length) := Wl.new (ws := [s]) (by simp) (by simp) (by simpa using word_name hs)
  have g0 : PS p m h (h ++ [MO.lst [D.str s]]) := PS.app ⟨.refl, g.pen⟩
  -- each part's words at most u
  obtain ⟨u, hu, hrec⟩ : ∃ u, 1 + ps.length * u + 2 ≤ kw n ∧ ∀ q ∈ ps, ∀ {m : Nat} {h1 : Hx} {Q : D → Hx → Prop}, m + u < 2 ^ 33 → PS p m h h1 → (∀ d h', Wl h' u d → PS p (m + u) h h' → Fr [p] h1 h' → Q d h') → wpC (CC k') 27 [pn, q] h1 Q := by
    cases n with
    | zero =>
      rw [hz rfl]
      exact ⟨0, by decide, by simp⟩
    | succ n' =>
      refine ⟨kw n', ?_, fun q hq {m h1 Q} hm g1 q1 => (rec n' rfl).run (by omega) (hps n' rfl q hq) hp hm g1 q1⟩
      have := Nat.mul_le_mul_right (kw n') hpl
      simp only [kw]
      omega
  refine for_ok (Q := fun w h1 => w = (ps, .none) ∧ h1 = h ++ [MO.lst [D.str s]]) ?_ (fun xs st h' => ∃ d x3, st = [some pn, some (.tup (.str s :: ps)), some d, x3] ∧ xs.length ≤ ps.length ∧ (∀ y ∈ xs, y ∈ ps) ∧ Wl h' (1 + (ps.length - xs.length) * u) d ∧ PS p (m + (ps.length - xs.length) * u) h h') ?_
  · simp [slice, walkOf]
  · rintro w h1 ⟨rfl, rfl⟩
    refine ⟨⟨_, none, rfl, Nat.le_refl _, fun _ hy => hy, by simpa using w0, by simpa using g0⟩, fun _ _ _ _ => rfl, ?_, ?_⟩
    · rintro st h2 ⟨d, x3, rfl, _, _, w1, g1⟩
      simp only [List.length_nil, Nat.sub_zero] at w1 g1
      simp only [wSl_cons, wSl_nil, wS_ret]
      have hb : ps.length * u ≤ 200 := by omega
      have z := maybe_ok (i := 2) (s := [some pn, some (.tup (.str s :: ps)), some d, x3]) (many := 8) (k := k') (Q := Q) (by omega) rfl (by omega) (by omega) hp (by omega) rfl rfl w1 (by unfold LIM; omega) g1 fun e h3 w3 g3 => q e h3 (w3.up (by omega)) ⟨g.fr.trans g3.fr, g3.pen.mono (by omega)⟩ g3.fr
      simpa using z
    · rintro y xs st h2 ⟨d, x3, rfl, hl, hmem, w1, g1⟩
      simp only [List.length_cons] at hl w1 g1
      have hb : ps.length * u ≤ 200 := by omega
      have hmul : (ps.length - (xs.length + 1)) * u + u = (ps.length - xs.length) * u := by
        have : ps.length - xs.length = (ps.length - (xs.length + 1)) + 1 := by omega
        rw [this, Nat.add_mul, Nat.one_mul]
      have hle : (ps.length - xs.length) * u ≤ ps.length * u := Nat.mul_le_mul_right _ (by omega)
      simp only [wSl_cons, wSl_nil, wS_asg, wE_bin, wE_var, wE_call, wEs_cons, wEs_nil, wG_nm, List.set_cons_succ, List.set_cons_zero, List.getElem?_cons_zero, List.getElem?_cons_succ, Option.some.injEq, exists_eq_left']
      refine hrec y (hmem y (List.mem_cons_self ..)) (by omega) g1 fun d2 h3 w2 g2 f2 => ?_
      refine cat_ok (w1.fr g1.pen f2) w2 (by unfold LIM; omega) fun e h4 w4 f4 => ⟨e, _, rfl, by omega, fun z hz => hmem z (List.mem_cons_of_mem _ hz), w4.up (by omega), (g2.same f4).up (by omega)⟩
theorem kind_ok : ∀ n, n ≤ 5 → KwSp n
  | 0, h => kind_step h fun n' e => by omega
  | n + 1, h => kind_step h fun n' e => by
    have : n' = n := by omega
    subst this
    exact kind_ok n' (by omega)
/-! levels, words of expressions -/
theorem level_ok {d : Nat} {e : D} (hj : 1 ≤ j) (he : Ex d e) (q : ∀ (l : Int) h', Fr [] h h' → Q (.int l) h') : wpC (CC j) 28 [e] h Q := by
  refine up (by omega) fun k' hk' => call_ok (fn := f__law_level) rfl rfl ?_
  show wSl _ _ b__law_level [some e] h _
  have op : ∀ (e : List D) (s : List Nat), e[0]? = some (.str [111, 112]) → e[1]? = some (.str s) → s ∈ OPS → wSl (CC k') FUEL b__law_level [some (.tup e)] h { nx := fun _ h1 => Q .non h1, rt := Q } := fun e s h0 h1 hs => by
    simp [b__law_level, h0, h1]
    rw [eq_str (by decide) (by decide)]
    have hk : (dPut (dPut (dPut (dPut (dPut [] (D.str [111, 114]) (D.int 1)) (D.str [97, 110, 100]) (D.int 2)) (D.str [43]) (D.int 4)) (D.str [45]) (D.int 4)) (D.str [42]) (D.int 5)) = [(D.str [111, 114], D.int 1), (D.str [97, 110, 100], D.int 2), (D.str [43], D.int 4), (D.str [45], D.int 4), (D.str [42], D.int 5)] := by decide
    rw [hk]
    refine .inr ⟨by decide, ?_, by simp [hasM], ?_⟩
    · rintro a b (⟨rfl, _⟩ | ⟨rfl, _⟩ | ⟨rfl, _⟩ | ⟨rfl, _⟩ | ⟨rfl, _⟩) <;> decide
    · have hg : isKey (.str s) = true := op_good _ hs
      have hw : ∀ l : Int, (dGet [(D.str [111, 114], D.int 1), (D.str [97, 110, 100], D.int 2), (D.str [43], D.int 4), (D.str [45], D.int 4), (D.str [42], D.int 5)] (.str s)).getD (.int 3) = .int l → Wp (bmethod .get (.ref h.length) [.str s, .int 3] (h ++ [.dic false [(D.str [111, 114], D.int 1), (D.str [97, 110, 100], D.int 2), (D.str [43], D.int 4), (D.str [45], D.int 4), (D.str [42], D.int 5)]])) Q := fun l hl => by
        simp only [bmethod, get_app1, hg, if_true, Wp_ok, hl]
        exact q l _ (Fr.app .refl)
      simp [OPS] at hs
      rcases hs with rfl | rfl | rfl | rfl | rfl | rfl | rfl | rfl
      · exact hw 4 (by decide)
      · exact hw 4 (by decide)
      · exact hw 5 (by decide)
      · exact hw 3 (by decide)
      · exact hw 3 (by decide)
      · exact hw 3 (by decide)
      · exact hw 2 (by decide)
      · exact hw 1 (by decide)
  have nop : ∀ (e : List D) (s : List Nat), e[0]? = some (.str s) → goodStr s = true → s ≠ [111, 112] → wSl (CC k') FUEL b__law_level [some (.tup e)] h { nx := fun _ h1 => Q .non h1, rt := Q } := fun e s h0 hs hne => by
    simp [b__law_level, h0]
    rw [eq_str hs (by decide), eq_str hs (by decide)]
    have e7 := isIn_strs (h := h) (w := s) (l := [[108, 101, 116], [105, 102], [109, 97, 116, 99, 104], [115, 112, 108, 105, 116], [112, 97, 121], [99, 111, 110, 115], [112, 97, 105, 114, 115]])
    simp only [List.map_cons, List.map_nil] at e7
    rw [e7]
    refine .inl ⟨by simp [hne], ?_⟩
    by_cases h1 : s = [110, 111, 116]
    · exact .inr ⟨by simp [h1], q 6 _ .refl⟩
    · refine .inl ⟨by simp [h1], ?_⟩
      by_cases h2 : s ∈ [[108, 101, 116], [105, 102], [109, 97, 116, 99, 104], [115, 112, 108, 105, 116], [112, 97, 121], [99, 111, 110, 115], [112, 97, 105, 114, 115]]
      · exact .inr ⟨by simpa using h2, q 0 _ .refl⟩
      · exact .inl ⟨by simpa using h2, q 7 _ .refl⟩
  cases he with
  | int _ => exact nop _ _ rfl (by decide) (by decide)
  | yes => exact nop _ _ rfl (by decide) (by decide)
  | no => exact nop _ _ rfl (by decide) (by decide)
  | nil _ => exact nop _ _ rfl (by decide) (by decide)
  | var _ => exact nop _ _ rfl (by decide) (by decide)
  | not _ => exact nop _ _ rfl (by decide) (by decide)
  | op hs _ _ => exact op _ _ rfl rfl hs
  | call _ _ _ => exact nop _ _ rfl (by decide) (by decide)
  | let_ _ _ _ => exact nop _ _ rfl (by decide) (by decide)
  | if_ _ _ _ => exact nop _ _ rfl (by decide) (by decide)
  | match_ _ _ _ _ _ => exact nop _ _ rfl (by decide) (by decide)
  | split _ _ _ _ => exact nop _ _ rfl (by decide) (by decide)
  | pay _ _ => exact nop _ _ rfl (by decide) (by decide)
  | cons _ _ => exact nop _ _ rfl (by decide) (by decide)
  | pairs _ _ => exact nop _ _ rfl (by decide) (by decide)
end
end K44
end

section
set_option autoImplicit false
set_option linter.all false
set_option Elab.async false
set_option maxRecDepth 100000
set_option maxHeartbeats 4000000
namespace K44
open Ev
theorem num_ok : ∀ n : Nat, n < 100 → numB (strOfInt (n : Int)) = true := by decide +kernel
theorem word_num {w : List Nat} (h : numB w = true) : wordB w = true := by simp [wordB, h]
theorem num_abs {i : Int} (h : i.natAbs ≤ 99) : wordB (strOfInt (if i < 0 then -i else i)) = true ∧ (if i < 0 then -i else i).natAbs.log2 < 1920 := by
  have e : (if i < 0 then -i else i) = ((i.natAbs : Nat) : Int) := by split <;> omega
  rw [e]
  exact ⟨word_num (num_ok _ (by omega)), log_small (by omega)⟩
section
variable {p n m j : Nat} {h0 h : Hx} {Q : D → Hx → Prop}
theorem ratio_ok {r : D} (hj : 1 ≤ j) (hr : Rt r) (g : PS p m h0 h) (q : ∀ d h', Wl h' 4 d → Fr [] h h' → Q d h') : wpC (CC j) 26 [r] h Q := by
  refine up hj fun k' hk' => call_ok (fn := f__law_ratio_words) rfl rfl ?_
  cases hr with
  | @mk a b ha hb1 hb2 =>
    obtain ⟨na, la⟩ := num_abs ha
    have nb : wordB (strOfInt b) = true := by
      have := num_ok b.natAbs (by omega)
      rw [show ((b.natAbs : Nat) : Int) = b by omega] at this
      exact word_num this
    have lb : b.natAbs.log2 < 1920 := by
      have := log_small (b := b.natAbs) (by omega)
      rw [show ((b.natAbs : Nat) : Int) = b by omega] at this
      exact this
    simp [f__law_ratio_words, b__law_ratio_words, la, lb]
    have w1 : Wl (h ++ [MO.lst [D.str (strOfInt (if a < 0 then -a else a))]]) 1 (.ref h.length) := Wl.new (ws := [strOfInt (if a < 0 then -a else a)]) (by simp) (by simp) (by simpa using na)
    have tail : ∀ (x : D) (h1 : Hx), Wl h1 3 x → Fr [] h h1 → (0 ≤ a ∧ Q x h1 ∨ a < 0 ∧ Wp (binop .add (.ref h1.length) x (h1 ++ [.lst [.str [45]]])) Q) := fun x h1 wx f1 => by
      by_cases h0 : a < 0
      · have w2 : Wl (h1 ++ [MO.lst [D.str [45]]]) 1 (.ref h1.length) := Wl.new (ws := [[45]]) (by simp) (by simp) (by decide)
        exact .inr ⟨h0, cat_ok w2 wx.app (by decide) fun e h2 w3 f3 => q e h2 w3 ((f1.trans (Fr.app .refl)).trans f3)⟩
      · exact .inl ⟨by omega, q x h1 (wx.up (by omega)) f1⟩
    by_cases hb : b = 1
    · refine .inl ⟨hb, ?_⟩
      rw [wb_lst (i := [D.str (strOfInt (if a < 0 then -a else a))]) (j := []) (by simp) (by simp)]
      refine ⟨Nat.le_of_ble_eq_true rfl, tail _ _ ⟨_, [strOfInt (if a < 0 then -a else a)], rfl, by simp, by simp, by simp, by simpa using na⟩ (Fr.app (Fr.app .refl))⟩
    · refine .inr ⟨hb, ?_⟩
      rw [wb_lst (i := [D.str (strOfInt (if a < 0 then -a else a))]) (j := [D.str [47], D.str (strOfInt b)]) (by simp) (by simp)]
      refine ⟨Nat.le_of_ble_eq_true rfl, tail _ _ ⟨_, [strOfInt (if a < 0 then -a else a), [47], strOfInt b], rfl, by simp, by simp, by simp, ?_⟩ (Fr.app (Fr.app .refl))⟩
      intro w hw
      simp at hw
      rcases hw with rfl | rfl | rfl
      · exact na
      · decide
      · exact nb
def WE : Nat → Nat
  | 0 => 100
  | d + 1 => 3 * WE d + 30
theorem WE_ge : ∀ d, 100 ≤ WE d
  | 0 => Nat.le_refl _
  | d + 1 => by have := WE_ge d; simp only [WE]; omega
theorem WE_mono : ∀ d, WE d ≤ WE (d + 1) := fun d => by simp only [WE]; omega
theorem WE_le : ∀ d, d ≤ 8 → WE d ≤ 1000000 := by decide
/-- f: 30 (an expression's words), 29 (with strokes or not) -/
structure XwSp (d : Nat) : Prop where
  run : ∀ {p m j : Nat} {pn e : D} {h0 h : Hx} {Q : D → Hx → Prop}, 3 * d + 9 ≤ j → Ex d e → PN p pn → m + WE d < 2 ^ 33 → PS p m h0 h → (∀ x h', Wl h' (WE d) x → PS p (m + WE d) h0 h' → Fr [p] h h' → Q x h') → wpC (CC j) 30 [pn, e] h Q
structure AtSp (d : Nat) : Prop where
  run : ∀ {p m j : Nat} {pn e : D} {lev : Int} {h0 h : Hx} {Q : D → Hx → Prop}, 3 * d + 10 ≤ j → Ex d e → PN p pn → m + (WE d + 2) < 2 ^ 33 → PS p m h0 h → (∀ x h', Wl h' (WE d + 2) x → PS p (m + (WE d + 2)) h0 h' → Fr [p] h h' → Q x h') → wpC (CC j) 29 [pn, e, .int lev] h Q
theorem at_step {d : Nat} (hd : d ≤ 8) (X : XwSp d) : AtSp d := by
  refine ⟨fun {p m j pn e lev h0 h Q} hj he hp hm g q => up (by omega) fun k' hk' => call_ok (fn := f__law_words_at) rfl rfl ?_⟩
  have hw := WE_le d hd
  show wSl _ _ b__law_words_at [some pn, some e, some (.int lev), none] h _
  simp [b__law_words_at]
  refine X.run (h0 := h) (by omega) he hp (by omega) ⟨.refl, g.pen⟩ fun x h1 w1 g1 f1 => ?_
  refine level_ok (by omega) he fun l h2 f2 => ?_
  have w2 := w1.same f2
  have g2 := g1.same f2
  have fin : ∀ {e h'}, Wl h' (WE d + 2) e → PS p (m + WE d + 1) h h' → Q e h' := fun {e h'} w3 g3 => q e h' w3 ⟨g.fr.trans g3.fr, g3.pen.mono (by omega)⟩ g3.fr
  have par := paren_ok (s := [some pn, some e, some (.int lev), some x]) (C := CC k') (i := 3) (Q := Q) rfl w2 (by unfold LIM; omega) fun e h3 w3 f3 => fin w3 ((g2.same f3).up (by omega))
  have may := maybe_ok (i := 3) (s := [some pn, some e, some (.int lev), some x]) (many := 9) (k := k') (Q := Q) (by omega) rfl (by omega) (by omega) hp (by omega) rfl rfl w2 (by unfold LIM; omega) g2 fun e h3 w3 g3 => fin w3 (g3.up (by omega))
  simp at par may
  by_cases hl : l < lev
  · exact .inr ⟨by simp [hl], par⟩
  · exact .inl ⟨by simp [hl], may⟩
/-- words so far: x, its number c; the draws so far -/
structure Ws (p n : Nat) (h0 : Hx) (c : Nat) (x : D) (h : Hx) : Prop where
  ps : PS p n h0 h
  wl : Wl h c x
theorem Ws.lits {ws : List (List Nat)} (g : PS p n h0 h) (h1 : ws ≠ []) (h3 : ∀ w ∈ ws, wordB w = true) : Ws p n h0 ws.length (.ref h.length) (h ++ [.lst (ws.map .str)]) := ⟨g.app, Wl.new h1 (Nat.le_refl _) h3⟩
/-- x + the words of e -/
theorem Ws.at_ {d k' c : Nat} {lev : Int} {x pn e : D} (X : AtSp d) (hd : d ≤ 8) (hk : 3 * d + 10 ≤ k') (he : Ex d e) (hp : PN p pn) (hn : n + (WE d + 2) < 2 ^ 33) (hc : c ≤ 5000000) (g : Ws p n h0 c x h) (q : ∀ y h', Ws p (n + (WE d + 2)) h0 (c + (WE d + 2)) y h' → Q y h') :
    wpC (CC k') 29 [pn, e, .int lev] h fun y h1 => Wp (binop .add x y h1) Q := by
  have hw := WE_le d hd
  exact X.run hk he hp hn g.ps fun y h1 w1 g1 f1 => cat_ok (g.wl.fr g.ps.pen f1) w1 (by unfold LIM; omega) fun z h2 w2 f2 => q z h2 ⟨g1.same f2, w2⟩
/-- x + [words] -/
theorem Ws.more {ws : List (List Nat)} {c : Nat} {x : D} (g : Ws p n h0 c x h) (h1 : ws ≠ []) (h3 : ∀ w ∈ ws, wordB w = true) (hc : c + ws.length ≤ 6000000) (q : ∀ y h', Ws p n h0 (c + ws.length) y h' → Q y h') : Wp (binop .add x (.ref h.length) (h ++ [.lst (ws.map .str)])) Q :=
  catN_ok g.wl h1 h3 (by unfold LIM; omega) fun e h' w f => q e h' ⟨g.ps.same f, w⟩
theorem Ex.head {d : Nat} {e : D} (he : Ex d e) : ∃ s xs, e = .tup (.str s :: xs) ∧ goodStr s = true := by
  cases he <;> exact ⟨_, _, rfl, by decide⟩
theorem Wl.len {x : D} (w : Wl h m x) : ∃ (c : Nat) (ws : List (List Nat)), x = .ref c ∧ h[c]? = some (.lst (ws.map .str)) ∧ ws ≠ [] := by
  obtain ⟨a, ws, rfl, e, r, _⟩ := w
  exact ⟨a, ws, rfl, e, r⟩
theorem word_good {w : List Nat} (h : wordB w = true) : goodStr w = true := by
  unfold wordB at h
  simp only [Bool.or_eq_true] at h
  rcases h with (h | h) | h
  · exact name_good h
  · unfold numB at h
    simp only [Bool.and_eq_true, decide_eq_true_eq, List.all_eq_true] at h
    unfold goodStr
    simp only [Bool.and_eq_true, decide_eq_true_eq, List.all_eq_true]
    exact ⟨fun c hc => sig_good c (dig_sig c (h.1.2 c hc)), by unfold LIM; omega⟩
  · unfold sgnB at h
    simp only [Bool.or_eq_true, decide_eq_true_eq] at h
    rcases h with (rfl | rfl) | h
    · decide
    · decide
    · split at h
      · simp only [decide_eq_true_eq] at h
        exact good_one (one_good _ h)
      · cases h
theorem map_str_inj : ∀ {a b : List (List Nat)}, a.map D.str = b.map D.str → a = b
  | [], [], _ => rfl
  | [], _ :: _, h => by simp at h
  | _ :: _, [], h => by simp at h
  | x :: a, y :: b, h => by
    simp only [List.map_cons, List.cons.injEq, D.str.injEq] at h
    rw [h.1, map_str_inj h.2]
theorem two_ok {k' u : Nat} {pn e f : D} {s : List Nat} (hs : s = [99, 111, 110, 115] ∨ s = [112, 97, 105, 114, 115]) (g : PS p n h0 h) (hu : u ≤ 1000010) {x y : D} (wx : Wl h u x) (wy : Wl h u y) (he : ∃ s xs, e = .tup (.str s :: xs) ∧ goodStr s = true) (q : ∀ z h', Ws p n h0 (3 + 2 * u) z h' → Q z h') :
    wSl (CC k') FUEL (dropS b__law_form_words 7) [some pn, some (.tup [.str s, e, f]), some (.str s), none, some x, some y] h { nx := fun _ h1 => Q .non h1, rt := Q } := by
  obtain ⟨s1, xs1, rfl, hs1⟩ := he
  obtain ⟨cx, wsx, rfl, ex, nx⟩ := wx.len
  obtain ⟨cy, wsy, rfl, ey, ny⟩ := wy.len
  have hsw : wordB s = true := by rcases hs with rfl | rfl <;> decide
  simp [b__law_form_words, dropS]
  rw [eq_str hs1 (by decide), wf_lenL ex]
  have fin : ∀ {u1 : Nat} {x : D} {h1 : Hx}, Wl h1 u1 x → Fr [] h h1 → u1 ≤ u + 2 → Wp (binop .add (.ref h1.length) x (h1 ++ [.lst [.str s]])) fun z h2 => Wp (binop .add z (.ref cy) h2) Q := fun {u1 x h1} w1 f1 hu1 => by
    have w2 : Wl (h1 ++ [MO.lst [D.str s]]) 1 (.ref h1.length) := Wl.new (ws := [s]) (by simp) (by simp) (by simpa using hsw)
    refine cat_ok w2 w1.app (by unfold LIM; omega) fun z h2 w3 f3 => ?_
    have f4 : Fr [] h h2 := (f1.trans (Fr.app .refl)).trans f3
    refine cat_ok w3 (wy.same f4) (by unfold LIM; omega) fun z2 h3 w5 f5 => q _ _ ⟨g.same (f4.trans f5), w5.up (by omega)⟩
  obtain ⟨w0, ws0, rfl⟩ : ∃ w0 ws0, wsy = w0 :: ws0 := by
    cases wsy with
    | nil => exact absurd rfl ny
    | cons a b => exact ⟨a, b, rfl⟩
  by_cases h1 : s1 = [118, 97, 114]
  · refine .inr ⟨by simp [h1], ?_⟩
    by_cases h2 : wsx.length = 1
    · refine .inr ⟨by simp [h2], D.str w0, by rw [get_lst ey]; simp, ?_⟩
      have hw0 : wordB w0 = true := by
        obtain ⟨a', ws', e1, e2, _, _, r3⟩ := wy
        cases e1
        rw [ey] at e2
        have e3 := MO.lst.inj (Option.some.inj e2)
        have e4 : ws' = w0 :: ws0 := (map_str_inj e3).symm
        exact r3 w0 (by rw [e4]; exact List.mem_cons_self ..)
      rw [eq_str (word_good hw0) (by decide)]
      by_cases h3 : w0 = [40]
      · refine .inr ⟨by simp [h3], ?_⟩
        have w2 : Wl (h ++ [MO.lst [D.str [40]]]) 1 (.ref h.length) := Wl.new (ws := [[40]]) (by simp) (by simp) (by decide)
        refine cat_ok w2 wx.app (by unfold LIM; omega) fun z h2 w3 f3 => ?_
        refine catN_ok (ws := [[41]]) w3 (by simp) (by decide) (by unfold LIM; simp; omega) fun z2 h3 w4 f4 => ?_
        exact fin w4 (((Fr.app .refl).trans f3).trans f4) (by simp; omega)
      · exact .inl ⟨by simp [h3], fin wx .refl (by omega)⟩
    · exact .inl ⟨by simp; omega, fin wx .refl (by omega)⟩
  · exact .inl ⟨by simp [h1], fin wx .refl (by omega)⟩
theorem form_ok {d : Nat} {pn e : D} (hd : d ≤ 7) (X : AtSp d) (hj : 3 * d + 11 ≤ j) (hp : PN p pn) (hn : n + 3 * (WE d + 2) < 2 ^ 33) (g : PS p n h0 h) (q : ∀ x h', Ws p (n + 3 * (WE d + 2)) h0 (3 * (WE d + 2) + 18) x h' → Q x h')
    (he : Ex (d + 1) e) (hs : ∃ s xs, e = .tup (.str s :: xs) ∧ s ∈ [[108, 101, 116], [105, 102], [109, 97, 116, 99, 104], [115, 112, 108, 105, 116], [112, 97, 121], [99, 111, 110, 115], [112, 97, 105, 114, 115]]) : wpC (CC j) 31 [pn, e] h Q := by
  refine up (by omega) fun k' hk' => call_ok (fn := f__law_form_words) rfl rfl ?_
  have hw := WE_le d (by omega)
  have hw0 := WE_ge d
  show wSl _ _ b__law_form_words [some pn, some e, none, none, none, none] h _
  have up3 : ∀ {n' c : Nat} {x : D} {h' : Hx}, Ws p n' h0 c x h' → n' ≤ n + 3 * (WE d + 2) → c ≤ 3 * (WE d + 2) + 18 → Q x h' := fun w h1 h2 => q _ _ ⟨w.ps.up h1, w.wl.up h2⟩
  have A := fun {n' c : Nat} {lev : Int} {x e : D} {h : Hx} {Q : D → Hx → Prop} (he : Ex d e) (hn : n' ≤ n + 2 * (WE d + 2)) (hc : c ≤ 4000000) (g : Ws p n' h0 c x h) (q : ∀ y h', Ws p (n' + (WE d + 2)) h0 (c + (WE d + 2)) y h' → Q y h') => Ws.at_ (lev := lev) (Q := Q) X (by omega) (k' := k') (by omega) he hp (by omega) (by omega) g q
  have two : ∀ {s : List Nat} (e f : D), s = [99, 111, 110, 115] ∨ s = [112, 97, 105, 114, 115] → Ex d e → Ex d f → wSl (CC k') FUEL b__law_form_words [some pn, some (.tup [.str s, e, f]), none, none, none, none] h { nx := fun _ h1 => Q .non h1, rt := Q } := fun {s} e f hs he hf => by
    have eb : b__law_form_words = .cons (nthS b__law_form_words 0) (.cons (nthS b__law_form_words 1) (.cons (nthS b__law_form_words 2) (.cons (nthS b__law_form_words 3) (.cons (nthS b__law_form_words 4) (.cons (nthS b__law_form_words 5) (.cons (nthS b__law_form_words 6) (dropS b__law_form_words 7))))))) := rfl
    have T1 := fun {n x y h1} (g1 : PS p n h0 h1) (wx : Wl h1 (WE d + 2) x) (wy : Wl h1 (WE d + 2) y) q => two_ok (k' := k') (pn := pn) (Q := Q) hs g1 (by omega) wx wy (f := f) he.head q
    rw [eb]
    generalize dropS b__law_form_words 7 = T at T1
    have gs : goodStr s = true ∧ s ≠ [108, 101, 116] ∧ s ≠ [105, 102] ∧ s ≠ [109, 97, 116, 99, 104] ∧ s ≠ [115, 112, 108, 105, 116] ∧ s ≠ [112, 97, 121] := by rcases hs with rfl | rfl <;> decide
    simp [nthS, b__law_form_words]
    rw [eq_str gs.1 (by decide), eq_str gs.1 (by decide), eq_str gs.1 (by decide), eq_str gs.1 (by decide), eq_str gs.1 (by decide)]
    refine .inl ⟨by simp [gs.2.1], .inl ⟨by simp [gs.2.2.1], .inl ⟨by simp [gs.2.2.2.1], .inl ⟨by simp [gs.2.2.2.2.1], .inl ⟨by simp [gs.2.2.2.2.2], ?_⟩⟩⟩⟩⟩
    refine X.run (by omega) he hp (by omega) g fun x h1 wx g1 f1 => X.run (by omega) hf hp (by omega) g1 fun y h2 wy g2 f2 => ⟨_, rfl, ?_⟩
    exact T1 g2 (wx.fr g1.pen f2) wy fun z h3 w3 => up3 w3 (by omega) (by omega)
  cases he with
  | @let_ _ w e f hw e1 f1 =>
    simp [b__law_form_words]
    rw [eq_str (by decide) (by decide)]
    refine .inr ⟨by decide, ?_⟩
    have w0 := Ws.lits (ws := [[108, 101, 116], w, [61]]) g (by simp) (by simp; exact ⟨by decide, word_name hw, by decide⟩)
    refine A e1 (by omega) (by simp) w0 fun y h1 g1 => g1.more (ws := [[105, 110]]) (by simp) (by decide) (by simp; omega) fun y2 h2 g2 => A f1 (by omega) (by simp; omega) g2 fun y3 h3 g3 => up3 g3 (by omega) (by simp; omega)
  | @if_ _ e f gg e1 f1 g1 =>
    simp [b__law_form_words]
    rw [eq_str (by decide) (by decide), eq_str (by decide) (by decide)]
    refine .inl ⟨by decide, .inr ⟨by decide, ?_⟩⟩
    have w0 := Ws.lits (ws := [[105, 102]]) g (by simp) (by decide)
    exact A e1 (by omega) (by simp) w0 fun y h1 w1 => w1.more (ws := [[116, 104, 101, 110]]) (by simp) (by decide) (by simp; omega) fun y2 h2 w2 => A f1 (by omega) (by simp; omega) w2 fun y3 h3 w3 => w3.more (ws := [[101, 108, 115, 101]]) (by simp) (by decide) (by simp; omega) fun y4 h4 w4 => A g1 (by omega) (by simp; omega) w4 fun y5 h5 w5 => up3 w5 (by omega) (by simp; omega)
  | @match_ _ e f gg v w e1 f1 hv hw' g1 =>
    simp [b__law_form_words]
    rw [eq_str (by decide) (by decide), eq_str (by decide) (by decide), eq_str (by decide) (by decide)]
    refine .inl ⟨by decide, .inl ⟨by decide, .inr ⟨by decide, ?_⟩⟩⟩
    have w0 := Ws.lits (ws := [[109, 97, 116, 99, 104]]) g (by simp) (by decide)
    exact A e1 (by omega) (by simp) w0 fun y h1 w1 => w1.more (ws := [[123], [110, 105, 108], [45, 62]]) (by simp) (by decide) (by simp; omega) fun y2 h2 w2 => A f1 (by omega) (by simp; omega) w2 fun y3 h3 w3 => w3.more (ws := [[124], [99, 111, 110, 115], v, w, [45, 62]]) (by simp) (by simp; exact ⟨by decide, by decide, word_name hv, word_name hw', by decide⟩) (by simp; omega) fun y4 h4 w4 => A g1 (by omega) (by simp; omega) w4 fun y5 h5 w5 => w5.more (ws := [[125]]) (by simp) (by decide) (by simp; omega) fun y6 h6 w6 => up3 w6 (by omega) (by simp; omega)
  | @split _ e f v w e1 hv hw' f1 =>
    simp [b__law_form_words]
    rw [eq_str (by decide) (by decide), eq_str (by decide) (by decide), eq_str (by decide) (by decide), eq_str (by decide) (by decide)]
    refine .inl ⟨by decide, .inl ⟨by decide, .inl ⟨by decide, .inr ⟨by decide, ?_⟩⟩⟩⟩
    have w0 := Ws.lits (ws := [[115, 112, 108, 105, 116]]) g (by simp) (by decide)
    exact A e1 (by omega) (by simp) w0 fun y h1 w1 => w1.more (ws := [[105, 110, 116, 111], v, w, [105, 110]]) (by simp) (by simp; exact ⟨by decide, word_name hv, word_name hw', by decide⟩) (by simp; omega) fun y2 h2 w2 => A f1 (by omega) (by simp; omega) w2 fun y3 h3 w3 => up3 w3 (by omega) (by simp; omega)
  | @pay _ r e hr e1 =>
    simp [b__law_form_words]
    rw [eq_str (by decide) (by decide), eq_str (by decide) (by decide), eq_str (by decide) (by decide), eq_str (by decide) (by decide), eq_str (by decide) (by decide)]
    refine .inl ⟨by decide, .inl ⟨by decide, .inl ⟨by decide, .inl ⟨by decide, .inr ⟨by decide, ?_⟩⟩⟩⟩⟩
    have w0 := Ws.lits (ws := [[112, 97, 121]]) g (by simp) (by decide)
    refine ratio_ok (by omega) hr w0.ps fun x1 h1 wx f1 => cat_ok (w0.wl.same f1) wx (Nat.le_of_ble_eq_true rfl) fun y h2 wy f2 => ?_
    have w1 : Ws p n h0 5 y h2 := ⟨(w0.ps.same f1).same f2, wy.up (by simp)⟩
    exact w1.more (ws := [[105, 110]]) (by simp) (by decide) (by decide) fun y2 h3 w2 => A e1 (by omega) (by decide) w2 fun y3 h4 w3 => up3 w3 (by omega) (by simp; omega)
  | @cons _ e f e1 f1 => exact two _ _ (.inl rfl) e1 f1
  | @pairs _ e f e1 f1 => exact two _ _ (.inr rfl) e1 f1
  | _ => simp at hs
end
end K44
end

section
set_option autoImplicit false
set_option linter.all false
set_option Elab.async false
set_option maxRecDepth 100000
set_option maxHeartbeats 4000000
namespace K44
open Ev
theorem op_word : ∀ s ∈ OPS, wordB s = true := by decide
section
variable {p n m j : Nat} {h0 h : Hx} {Q : D → Hx → Prop}
theorem num_pos {i : Int} (h : i.natAbs ≤ 99) (hi : 0 ≤ i) : wordB (strOfInt i) = true ∧ i.natAbs.log2 < 1920 := by
  have := num_abs h
  rw [if_neg (by omega)] at this
  exact this
theorem num_neg {i : Int} (h : i.natAbs ≤ 99) (hi : i < 0) : wordB (strOfInt (-i)) = true ∧ (-i).natAbs.log2 < 1920 := by
  have := num_abs h
  rw [if_pos hi] at this
  exact this
theorem Ws.none_ {c : Nat} {x : D} (g : Ws p n h0 c x h) (hc : c ≤ 6000000) (q : ∀ y h', Ws p n h0 c y h' → Q y h') : Wp (binop .add x (.ref h.length) (h ++ [.lst []])) Q := by
  obtain ⟨a, ws, rfl, e, r1, r2, r3⟩ := g.wl
  rw [wb_lst (get_app e) get_app1]
  refine ⟨by simp; unfold LIM; omega, q _ _ ⟨g.ps.app.app, _, ws, rfl, by simp, r1, r2, r3⟩⟩
/-- a call's words -/
theorem call_words {d k' : Nat} {pn : D} {w : List Nat} {es : List D} {P : Post} (hd : d ≤ 7) (X : AtSp d) (hk : 3 * d + 10 ≤ k') (hp : PN p pn) (hw : nameB w = true) (hl : es.length ≤ 3) (hes : ∀ e ∈ es, Ex d e) (hn : n + 3 * (WE d + 2) < 2 ^ 33) (g : PS p n h0 h) (q : ∀ x h', Ws p (n + 3 * (WE d + 2)) h0 (3 * (WE d + 2) + 9) x h' → P.rt x h') :
    wSl (CC k') FUEL (bodyOf (nthS b__law_expr_words 7)) [some pn, some (.tup [.str [99, 97, 108, 108], .str w, .tup es]), some (.str [99, 97, 108, 108]), none, none, none] h P := by
  have hW := WE_le d (by omega)
  simp [bodyOf, nthS, b__law_expr_words]
  have w0 := Ws.lits (ws := [w, [40]]) g (by simp) (by simp; exact ⟨word_name hw, by decide⟩)
  refine for_ok (Q := fun w1 h1 => w1 = (rngD 0 es.length, .none) ∧ h1 = h ++ [MO.lst [D.str w, D.str [40]]]) ?_ (fun xs st h' => ∃ (i : Nat) (x : D) (x5 : Option D), xs = (rngD 0 es.length).drop i ∧ i ≤ es.length ∧ st = [some pn, some (.tup [.str [99, 97, 108, 108], .str w, .tup es]), some (.str [99, 97, 108, 108]), none, some x, x5] ∧ Ws p (n + i * (WE d + 2)) h0 (2 + i * (WE d + 2 + 1)) x h') ?_
  · simp
    omega
  · rintro w1 h1 ⟨rfl, rfl⟩
    refine ⟨⟨0, _, none, rfl, Nat.zero_le _, rfl, by simpa using w0⟩, fun _ _ _ _ => rfl, ?_, ?_⟩
    · rintro st h2 ⟨i, x, x5, hx, hi, rfl, g2⟩
      have e : i = es.length := by have := rng_end hx; omega
      subst e
      have h3 : es.length * (WE d + 2) ≤ 3 * (WE d + 2) := Nat.mul_le_mul_right _ hl
      have h4 : es.length * (WE d + 2 + 1) ≤ 3 * (WE d + 2 + 1) := Nat.mul_le_mul_right _ hl
      simp
      exact g2.more (ws := [[41]]) (by simp) (by decide) (by simp; omega) fun y h3 g3 => q y h3 ⟨g3.ps.up (by omega), g3.wl.up (by simp; omega)⟩
    · rintro y xs st h2 ⟨i, x, x5, hx, hi, rfl, g2⟩
      obtain ⟨hlt, rfl, rfl⟩ := rng_take hx
      obtain ⟨e, he⟩ : ∃ e, es[i]? = some e := ⟨_, List.getElem?_eq_getElem hlt⟩
      have hee := hes e (List.mem_of_getElem? he)
      have h3 : i * (WE d + 2) + (WE d + 2) ≤ 3 * (WE d + 2) := by
        have := Nat.mul_le_mul_right (WE d + 2) (show i + 1 ≤ 3 by omega)
        rw [Nat.add_mul, Nat.one_mul] at this
        exact this
      have h4 : i * (WE d + 2 + 1) + (WE d + 2 + 1) ≤ 3 * (WE d + 2 + 1) := by
        have := Nat.mul_le_mul_right (WE d + 2 + 1) (show i + 1 ≤ 3 by omega)
        rw [Nat.add_mul, Nat.one_mul] at this
        exact this
      simp [he]
      have fin : ∀ {x1 : D} {h1 : Hx}, Ws p (n + i * (WE d + 2)) h0 (2 + i * (WE d + 2 + 1) + 1) x1 h1 → wpC (CC k') 29 [pn, e, .int 0] h1 fun y h2 => Wp (binop .add x1 y h2) fun d_1 h1 => ∃ i_1, min (i + 1) (rngD 0 es.length).length = min i_1 (rngD 0 es.length).length ∧ i_1 ≤ es.length ∧ Ws p (n + i_1 * (WE d + 2)) h0 (2 + i_1 * (WE d + 2 + 1)) d_1 h1 := fun {x1 h1} g3 =>
        Ws.at_ X (by omega) hk hee hp (by omega) (by omega) g3 fun y h4 g4 => ⟨i + 1, rfl, hlt, g4.ps.up (by rw [Nat.add_mul, Nat.one_mul]; omega), g4.wl.up (by rw [Nat.add_mul, Nat.one_mul]; omega)⟩
      by_cases h0 : i = 0
      · refine .inl ⟨h0, g2.none_ (by omega) fun y h3 g3 => fin ⟨g3.ps, g3.wl.up (by omega)⟩⟩
      · refine .inr ⟨by omega, g2.more (ws := [[44]]) (by simp) (by decide) (by simp; omega) fun y h3 g3 => fin ⟨g3.ps, g3.wl.up (by simp)⟩⟩
theorem eqs {h : Hx} {a b : List Nat} : eqD h (.str a) (.str b) = if goodStr a = true ∧ goodStr b = true then some (decide (a = b)) else none := by
  by_cases ha : goodStr a = true
  · by_cases hb : goodStr b = true
    · rw [if_pos ⟨ha, hb⟩]; exact eq_str ha hb
    · rw [if_neg (fun z => hb z.2)]
      show (match (if goodStr a = true then some (P.str a) else none), (if goodStr b = true then some (P.str b) else none) with
        | some p, some q => some (P.eqv p q)
        | _, _ => none) = _
      rw [if_neg hb]; split <;> simp_all
  · rw [if_neg (fun z => ha z.1)]
    show (match (if goodStr a = true then some (P.str a) else none), (if goodStr b = true then some (P.str b) else none) with
        | some p, some q => some (P.eqv p q)
        | _, _ => none) = _
    rw [if_neg ha]
theorem b_ew : b__law_expr_words = .cons (nthS b__law_expr_words 0) (.cons (nthS b__law_expr_words 1) (.cons (nthS b__law_expr_words 2) (.cons (nthS b__law_expr_words 3) (.cons (nthS b__law_expr_words 4) (.cons (nthS b__law_expr_words 5) (.cons (nthS b__law_expr_words 6) (.cons (.iff (.cmp .eq (.var 2) (.str [99, 97, 108, 108])) (bodyOf (nthS b__law_expr_words 7)) .nil) (dropS b__law_expr_words 8)))))))) := rfl
theorem ew_step {d : Nat} (hd : d ≤ 8) (rec : ∀ d', d = d' + 1 → AtSp d') : XwSp d := by
  refine ⟨fun {p m j pn e h0 h Q} hj he hp hm g q => up (by omega) fun k' hk' => call_ok (fn := f__law_expr_words) rfl rfl ?_⟩
  have hW := WE_le d (by omega)
  have hW0 := WE_ge d
  have g0 : PS p m h h := ⟨.refl, g.pen⟩
  have fin : ∀ {x h'} {n' c : Nat}, Ws p n' h c x h' → n' ≤ m + WE d → c ≤ WE d → Q x h' := fun {x h' n' c} w h1 h2 => q x h' (w.wl.up h2) ⟨g.fr.trans w.ps.fr, w.ps.pen.mono h1⟩ w.ps.fr
  have lit : ∀ {ws : List (List Nat)}, ws ≠ [] → (∀ w ∈ ws, wordB w = true) → ws.length ≤ 10 → Q (.ref h.length) (h ++ [.lst (ws.map .str)]) := fun {ws} h1 h3 h2 => fin (Ws.lits g0 h1 h3) (by omega) (by omega)
  show wSl _ _ b__law_expr_words [some pn, some e, none, none, none, none] h _
  rw [b_ew]
  obtain ⟨B7, hB7⟩ : ∃ B, B = bodyOf (nthS b__law_expr_words 7) := ⟨_, rfl⟩
  obtain ⟨T8, hT8⟩ : ∃ B, B = dropS b__law_expr_words 8 := ⟨_, rfl⟩
  rw [← hB7, ← hT8]
  have hT : T8 = .cons (.ret (.call 31 (.cons (.var 0) (.cons (.var 1) .nil)))) .nil := hT8.trans rfl
  have form : ∀ {d' : Nat} {e : D} {s : D}, d = d' + 1 → Ex d e → (∃ s xs, e = .tup (.str s :: xs) ∧ s ∈ [[108, 101, 116], [105, 102], [109, 97, 116, 99, 104], [115, 112, 108, 105, 116], [112, 97, 121], [99, 111, 110, 115], [112, 97, 105, 114, 115]]) →
      wSl (evCall fns FUEL k') FUEL T8 [some pn, some e, some s, none, none, none] h { nx := fun x h1 => Q D.non h1, rt := Q } := fun {d' e s} hd' he hs => by
    subst hd'
    rw [hT]
    simp
    have e4 : WE (d' + 1) = 3 * WE d' + 30 := rfl
    exact form_ok (d := d') (by omega) (rec d' rfl) (by omega) hp (by omega) g0 (fun x h' w => fin w (by omega) (by omega)) he hs
  have two : ∀ {d' : Nat}, d = d' + 1 → WE d = 3 * WE d' + 30 := fun h => by subst h; rfl
  cases he with
  | @int _ i hi =>
    simp [nthS, b__law_expr_words, eqs, goodStr, goodSign]
    by_cases h0 : 0 ≤ i
    · have := num_pos hi h0
      exact .inl ⟨h0, this.2, lit (ws := [strOfInt i]) (by simp) (by simpa using this.1) (by simp)⟩
    · have := num_neg hi (by omega)
      exact .inr ⟨by omega, by simpa using this.2, lit (ws := [[45], strOfInt (-i)]) (by simp) (by simp; exact ⟨by decide, this.1⟩) (by simp)⟩
  | yes =>
    simp [nthS, b__law_expr_words, eqs, goodStr, goodSign]
    exact lit (ws := [[121, 101, 115]]) (by simp) (by decide) (by simp)
  | no =>
    simp [nthS, b__law_expr_words, eqs, goodStr, goodSign]
    exact lit (ws := [[110, 111]]) (by simp) (by decide) (by simp)
  | @nil _ k hk =>
    simp [nthS, b__law_expr_words, eqs, goodStr, goodSign]
    have w0 := Ws.lits (ws := [[110, 105, 108]]) g0 (by simp) (by decide)
    have hk4 : kw 4 = 93 := by decide
    refine (kind_ok 4 (by omega)).run (by omega) hk hp (by omega) w0.ps fun x h1 w1 g1 f1 => cat_ok (w0.wl.fr w0.ps.pen f1) w1 (by rw [hk4]; decide) fun y h2 w2 f2 => fin ⟨g1.same f2, w2⟩ (by omega) (by rw [hk4]; simp; omega)
  | @var _ w hw =>
    simp [nthS, b__law_expr_words, eqs, goodStr, goodSign]
    exact lit (ws := [w]) (by simp) (by simpa using word_name hw) (by simp)
  | @not d' e h1 =>
    simp [nthS, b__law_expr_words, eqs, goodStr, goodSign]
    have e2 := two rfl
    have w0 := Ws.lits (ws := [[110, 111, 116]]) g0 (by simp) (by decide)
    exact Ws.at_ (rec d' rfl) (by omega) (by omega) h1 hp (by omega) (by simp) w0 fun y h2 w2 => fin w2 (by omega) (by simp; omega)
  | @op d' s e f hs h1 h2 =>
    simp [nthS, b__law_expr_words, eqs, goodStr, goodSign]
    have e2 := two rfl
    have hW' := WE_le d' (by omega)
    refine level_ok (by omega) (.op hs h1 h2 : Ex (d' + 1) _) fun l h3 f3 => ?_
    have g3 := g0.same f3
    have go : ∀ lev : Int, wpC (evCall fns FUEL k') 29 [pn, e, .int lev] h3 fun x h1 => Wp (binop .add x (.ref h1.length) (h1 ++ [.lst [.str s]])) fun x h1 => Wp (binop .add (.int l) (.int 1) h1) fun x_1 h1 => wpC (evCall fns FUEL k') 29 [pn, f, x_1] h1 fun y h2 => Wp (binop .add x y h2) Q := fun lev => by
      refine (rec d' rfl).run (by omega) h1 hp (by omega) g3 fun x h4 w4 g4 f4 => ?_
      have w5 : Ws p (m + (WE d' + 2)) h (WE d' + 2) x h4 := ⟨g4, w4⟩
      refine w5.more (ws := [s]) (by simp) (by simpa using op_word s hs) (by simp; omega) fun y h5 w6 => ?_
      simp only [wb_add]
      exact Ws.at_ (rec d' rfl) (by omega) (by omega) h2 hp (by omega) (by simp; omega) w6 fun y h2 w2 => fin w2 (by omega) (by simp; omega)
    simp
    by_cases h3 : l = 3
    · exact .inr ⟨h3, go _⟩
    · exact .inl ⟨h3, go _⟩
  | @call d' w es hw hl hes =>
    simp [nthS, b__law_expr_words, eqs, goodStr, goodSign]
    have e2 := two rfl
    rw [hB7]
    exact call_words (by omega) (rec d' rfl) (by omega) hp hw hl hes (by omega) g0 fun x h1 w1 => fin w1 (by omega) (by omega)
  | @let_ d' w e f hw h1 h2 =>
    simp [nthS, b__law_expr_words, eqs, goodStr, goodSign]
    exact form rfl (.let_ hw h1 h2) ⟨_, _, rfl, by simp⟩
  | @if_ d' e f g h1 h2 h3 =>
    simp [nthS, b__law_expr_words, eqs, goodStr, goodSign]
    exact form rfl (.if_ h1 h2 h3) ⟨_, _, rfl, by simp⟩
  | @match_ d' e f g v w h1 h2 h3 h4 h5 =>
    simp [nthS, b__law_expr_words, eqs, goodStr, goodSign]
    exact form rfl (.match_ h1 h2 h3 h4 h5) ⟨_, _, rfl, by simp⟩
  | @split d' e f v w h1 h2 h3 h4 =>
    simp [nthS, b__law_expr_words, eqs, goodStr, goodSign]
    exact form rfl (.split h1 h2 h3 h4) ⟨_, _, rfl, by simp⟩
  | @pay d' r e h1 h2 =>
    simp [nthS, b__law_expr_words, eqs, goodStr, goodSign]
    exact form rfl (.pay h1 h2) ⟨_, _, rfl, by simp⟩
  | @cons d' e f h1 h2 =>
    simp [nthS, b__law_expr_words, eqs, goodStr, goodSign]
    exact form rfl (.cons h1 h2) ⟨_, _, rfl, by simp⟩
  | @pairs d' e f h1 h2 =>
    simp [nthS, b__law_expr_words, eqs, goodStr, goodSign]
    exact form rfl (.pairs h1 h2) ⟨_, _, rfl, by simp⟩
theorem ew_ok : ∀ d : Nat, d ≤ 8 → XwSp d
  | 0, h => ew_step h fun d' e => by omega
  | d + 1, h => ew_step h fun d' e => by
    have : d' = d := by omega
    subst this
    exact at_step (by omega) (ew_ok d' (by omega))
theorem at_ok {d : Nat} (h : d ≤ 8) : AtSp d := at_step h (ew_ok d h)
end
end K44
end

section
set_option autoImplicit false
set_option linter.all false
set_option Elab.async false
set_option maxRecDepth 100000
set_option maxHeartbeats 4000000
namespace K44
open Ev
/-! ### texts without bad words -/
def NB (x : List Nat) : Prop := ∀ n c, ∃ toks n' c', restT (splitC 10 x) n c = toks ++ [tokD t_end [] n' c']
theorem NB_nil : NB [] := fun n c => ⟨[], n, c, rfl⟩
theorem NB_nl {r : List Nat} (h : NB r) : NB (10 :: r) := fun n c => by
  obtain ⟨t, a, b, e⟩ := h (n + 1) 0
  refine ⟨t, a, b, ?_⟩
  rw [← e]
  simp only [splitC, if_true]
  cases q : splitC 10 r with
  | nil => exact absurd q (split_ne 10 r)
  | cons l ls => exact rest_next
theorem split_ex (r : List Nat) : ∃ l ls, splitC 10 r = l :: ls := by
  cases q : splitC 10 r with
  | nil => exact absurd q (split_ne 10 r)
  | cons l ls => exact ⟨l, ls, rfl⟩
theorem NB_blank {r : List Nat} (h : NB r) : NB (32 :: r) := fun n c => by
  obtain ⟨l, ls, q⟩ := split_ex r
  obtain ⟨t, a, b, e⟩ := h n (c + 1)
  refine ⟨t, a, b, ?_⟩
  rw [split_cons (by decide) q, rest_blank, ← q, e]
theorem split_pre : ∀ {w r l : List Nat} {ls : List (List Nat)}, 10 ∉ w → splitC 10 r = l :: ls → splitC 10 (w ++ r) = (w ++ l) :: ls
  | [], _, _, _, _, e => e
  | c :: w, r, l, ls, h, e => by
    have h' : c ≠ 10 ∧ 10 ∉ w := by simp at h; exact ⟨fun z => h.1 z.symm, h.2⟩
    exact split_cons h'.1 (split_pre h'.2 e)
theorem NB_hash {w r : List Nat} (hw : 10 ∉ w) (h : NB r) : NB (35 :: w ++ 10 :: r) := fun n c => by
  obtain ⟨l, ls, q⟩ := split_ex r
  have q2 : splitC 10 (10 :: r) = [] :: l :: ls := by simp [splitC, q]
  obtain ⟨t, a, b, e⟩ := h (n + 1) 0
  refine ⟨t, a, b, ?_⟩
  rw [split_pre (w := 35 :: w) (by simp; exact hw) q2, List.append_nil, rest_hash, rest_next, ← q, e]
theorem NB_hash0 {w : List Nat} (hw : 10 ∉ w) : NB (35 :: w) := fun n c => by
  have q := split_pre (w := 35 :: w) (r := []) (l := []) (ls := []) (by simp; exact hw) rfl
  simp only [List.append_nil] at q
  rw [q, rest_hash, rest_end]
  exact ⟨[], n, _, rfl⟩
/-- what may stand behind a word -/
def Safe (w r : List Nat) : Prop := ∀ x, r[0]? = some x → (∀ y, w.getLast? = some y → y ∈ SIG → x ∉ SIG) ∧ w ++ [x] ≠ [60, 61] ∧ w ++ [x] ≠ [45, 62]
theorem span_all {w l S : List Nat} (hw : ∀ c ∈ w, c ∈ S) (hl : ∀ x, l[0]? = some x → x ∉ S) : span (w ++ l) S = w.length := by
  have e : (w ++ l).takeWhile (fun c => decide (c ∈ S)) = w := by
    induction w with
    | nil =>
      cases l with
      | nil => rfl
      | cons x l => simp [List.takeWhile, hl x rfl]
    | cons c w ih =>
      simp [List.takeWhile, hw c (List.mem_cons_self ..)]
      exact ih fun c hc => hw c (List.mem_cons_of_mem _ hc)
  unfold span
  rw [e]
theorem nl_sig : (10 : Nat) ∉ SIG := by decide
theorem one_not : ∀ c ∈ ONE, c ∉ LET ∧ c ∉ DIG ∧ c ∉ SIG ∧ c ≠ 10 ∧ c ≠ 35 ∧ c ≠ 32 := by decide
theorem sig_not : ∀ c ∈ SIG, c ≠ 10 ∧ c ≠ 35 ∧ c ≠ 32 := by decide
theorem dig_not : ∀ c ∈ DIG, c ∉ LET := by decide
theorem head_of {r l : List Nat} {ls : List (List Nat)} {x : Nat} (q : splitC 10 r = l :: ls) (h : l[0]? = some x) : r[0]? = some x := by
  have e := split_eq q
  rw [e]
  rw [List.getElem?_append_left (List.getElem?_eq_some_iff.mp h).1]
  exact h
theorem word_at {w r l : List Nat} {ls : List (List Nat)} (hw : wordB w = true) (hs : Safe w r) (q : splitC 10 r = l :: ls) : (∃ s, wordAt (w ++ l) = .good s w) ∧ ∃ c w', w = c :: w' ∧ c ≠ 35 ∧ c ≠ 32 ∧ 10 ∉ w := by
  unfold wordB at hw
  simp only [Bool.or_eq_true] at hw
  rcases hw with (hw | hw) | hw
  · unfold nameB at hw
    cases w with
    | nil => simp at hw
    | cons c w' =>
      simp only [Bool.and_eq_true, decide_eq_true_eq, List.all_eq_true] at hw
      have hl : ∀ x, l[0]? = some x → x ∉ SIG := fun x hx => (hs x (head_of q hx)).1 _ (List.getLast?_eq_some_getLast (by simp)) (hw.1.2 _ (List.getLast_mem _))
      have hsp := span_all (w := c :: w') (S := SIG) (fun c hc => hw.1.2 c hc) hl
      refine ⟨⟨(if isOwn (c :: w') then t_own else t_name), ?_⟩, c, w', rfl, (sig_not c (let_sig c hw.1.1)).2.1, (sig_not c (let_sig c hw.1.1)).2.2, fun z => nl_sig (hw.1.2 _ z)⟩
      show wordAt (c :: (w' ++ l)) = _
      simp only [wordAt, hw.1.1, if_true]
      rw [show c :: (w' ++ l) = (c :: w') ++ l from rfl, hsp, if_neg (by omega)]
      rw [show ((c :: w') ++ l).take (c :: w').length = c :: w' from by simp]
  · unfold numB at hw
    cases w with
    | nil => simp at hw
    | cons c w' =>
      simp only [Bool.and_eq_true, decide_eq_true_eq, List.all_eq_true] at hw
      have cD := hw.1.2 c (List.mem_cons_self ..)
      have hl : ∀ x, l[0]? = some x → x ∉ DIG := fun x hx hd => (hs x (head_of q hx)).1 _ (List.getLast?_eq_some_getLast (by simp)) (dig_sig _ (hw.1.2 _ (List.getLast_mem _))) (dig_sig _ hd)
      have hsp := span_all (w := c :: w') (S := DIG) (fun c hc => hw.1.2 c hc) hl
      refine ⟨⟨t_number, ?_⟩, c, w', rfl, (sig_not c (dig_sig c cD)).2.1, (sig_not c (dig_sig c cD)).2.2, fun z => nl_sig (dig_sig _ (hw.1.2 _ z))⟩
      show wordAt (c :: (w' ++ l)) = _
      simp only [wordAt, if_neg (dig_not c cD), if_pos cD]
      rw [show c :: (w' ++ l) = (c :: w') ++ l from rfl, hsp, if_neg (by
        have := hw.1.1
        simp at this ⊢
        refine ⟨by simpa using hw.2, ?_⟩
        intro a
        rcases this with z | z
        · simp [z] at a
        · exact z)]
      rw [show ((c :: w') ++ l).take (c :: w').length = c :: w' from by simp]
  · unfold sgnB at hw
    simp only [Bool.or_eq_true, decide_eq_true_eq] at hw
    rcases hw with (hw | hw) | hw
    · subst hw
      exact ⟨⟨_, rfl⟩, 60, [61], rfl, by decide⟩
    · subst hw
      exact ⟨⟨_, rfl⟩, 45, [62], rfl, by decide⟩
    · match w, hw with
      | [c], hw =>
        simp only [decide_eq_true_eq] at hw
        have o := one_not c hw
        refine ⟨⟨t_sign, ?_⟩, c, [], rfl, o.2.2.2.2.1, o.2.2.2.2.2, by simpa using fun z => o.2.2.2.1 z.symm⟩
        show wordAt (c :: l) = _
        simp only [wordAt, if_neg o.1, if_neg o.2.1, if_pos hw]
        rw [if_neg]
        cases l with
        | nil => simp
        | cons x l =>
          have := hs x (head_of q rfl)
          simp at this ⊢
          exact this.2
theorem NB_word {w r : List Nat} (hw : wordB w = true) (hs : Safe w r) (h : NB r) : NB (w ++ r) := fun n c => by
  obtain ⟨l, ls, q⟩ := split_ex r
  obtain ⟨⟨s, e⟩, x, w', ew, h1, h2, h10⟩ := word_at hw hs q
  obtain ⟨t, a, b, et⟩ := h n (c + w.length)
  refine ⟨tokD s w n c :: t, a, b, ?_⟩
  rw [split_pre h10 q]
  subst ew
  rw [show (x :: w') ++ l = x :: (w' ++ l) from rfl] at e ⊢
  rw [rest_word h1 h2 e]
  rw [show (x :: (w' ++ l)).drop (x :: w').length = l from by simp, ← q, et]
  rfl
end K44
end

section
set_option autoImplicit false
set_option linter.all false
set_option Elab.async false
set_option maxRecDepth 100000
set_option maxHeartbeats 4000000
namespace K44
open Ev
theorem kw2 : kw 2 = 21 := by decide
section
variable {p n j : Nat} {h0 h : Hx} {Q : D → Hx → Prop}
theorem Ws.kind {k' c : Nat} {x pn k : D} (hk' : 4 ≤ k') (hk : Kd 2 k) (hp : PN p pn) (hn : n + 21 < 2 ^ 33) (hc : c ≤ 5000000) (g : Ws p n h0 c x h) (q : ∀ y h', Ws p (n + 21) h0 (c + 21) y h' → Q y h') :
    wpC (CC k') 27 [pn, k] h fun y h1 => Wp (binop .add x y h1) Q :=
  (kind_ok 2 (by omega)).run (by omega) hk hp (by rw [kw2]; exact hn) g.ps fun y h1 w1 g1 f1 => cat_ok (g.wl.fr g.ps.pen f1) w1 (by rw [kw2]; unfold LIM; omega) fun z h2 w2 f2 => q z h2 ⟨by rw [kw2] at g1; exact g1.same f2, by rw [kw2] at w2; exact w2⟩
theorem Ws.up {n' c c' : Nat} {x : D} (g : Ws p n h0 c x h) (hn : n ≤ n') (hc : c ≤ c') : Ws p n' h0 c' x h := ⟨g.ps.up hn, g.wl.up hc⟩
theorem WE6 : WE 6 = 83820 := by decide
theorem fun_ok {pn f : D} (hj : 40 ≤ j) (hf : FunOk f) (hp : PN p pn) (hn : n + 84000 < 2 ^ 33) (g : PS p n h0 h) (q : ∀ x h', Ws p (n + 84000) h0 84000 x h' → Fr [p] h h' → Q x h') : wpC (CC j) 32 [pn, f] h Q := by
  refine up (by omega) fun k' hk' => call_ok (fn := f__law_function_words) rfl rfl ?_
  obtain ⟨w, ps, k, b, rfl, hw, hp1, hp3, hps, hk, hb⟩ := hf
  have g0 : PS p n h h := ⟨.refl, g.pen⟩
  show wSl _ _ b__law_function_words [some pn, some (.tup [.str w, .tup ps, k, b]), none, none, none, none, none, none] h _
  simp [b__law_function_words]
  have w0 := Ws.lits (ws := [[102, 117, 110], w, [40]]) g0 (by simp) (by simp; exact ⟨by decide, word_name hw, by decide⟩)
  refine for_ok (Q := fun w1 h1 => w1 = (rngD 0 ps.length, .none) ∧ h1 = h ++ [MO.lst [D.str [102, 117, 110], D.str w, D.str [40]]]) ?_ (fun xs st h' => ∃ (i : Nat) (x : D) (x7 : Option D), xs = (rngD 0 ps.length).drop i ∧ i ≤ ps.length ∧ st = [some pn, some (.tup [.str w, .tup ps, k, b]), some (.str w), some (.tup ps), some k, some b, some x, x7] ∧ Ws p (n + i * 24) h (3 + i * 24) x h') ?_
  · simp
    omega
  · rintro w1 h1 ⟨rfl, rfl⟩
    refine ⟨⟨0, _, none, rfl, Nat.zero_le _, rfl, by simpa using w0⟩, fun _ _ _ _ => rfl, ?_, ?_⟩
    · rintro st h2 ⟨i, x, x7, hx, hi, rfl, g2⟩
      have e : i = ps.length := by have := rng_end hx; omega
      subst e
      simp
      refine (g2.up (n' := n + 72) (c' := 75) (by omega) (by omega)).more (ws := [[41], [58]]) (by simp) (by decide) (by simp) fun y h3 g3 => ?_
      refine g3.kind (by omega) hk hp (by omega) (by simp) fun y h4 g4 => ?_
      refine g4.more (ws := [[61]]) (by simp) (by decide) (by simp) fun y h5 g5 => ?_
      refine g5.at_ (at_ok (by omega)) (by omega) (by omega) hb hp (by rw [WE6]; omega) (by simp) fun y h6 g6 => ?_
      refine g6.more (ws := [[59]]) (by simp) (by decide) (by rw [WE6]; simp) fun y h7 g7 => ?_
      have g8 := g7.up (n' := n + 84000) (c' := 84000) (by rw [WE6]; omega) (by rw [WE6]; simp)
      exact q y h7 ⟨⟨g.fr.trans g8.ps.fr, g8.ps.pen⟩, g8.wl⟩ g8.ps.fr
    · rintro y xs st h2 ⟨i, x, x7, hx, hi, rfl, g2⟩
      obtain ⟨hlt, rfl, rfl⟩ := rng_take hx
      obtain ⟨e, he⟩ : ∃ e, ps[i]? = some e := ⟨_, List.getElem?_eq_getElem hlt⟩
      obtain ⟨v, kk, rfl, hv, hkk⟩ := hps e (List.mem_of_getElem? he)
      simp [he]
      have fin : ∀ {x1 : D} {h1 : Hx}, Ws p (n + i * 24) h (3 + i * 24 + 1) x1 h1 → Wp (binop .add x1 (.ref h1.length) (h1 ++ [.lst [.str v, .str [58]]])) fun x h1 => wpC (CC k') 27 [pn, kk] h1 fun y h2 => Wp (binop .add x y h2) fun d_1 h1 => ∃ i_1, min (i + 1) (rngD 0 ps.length).length = min i_1 (rngD 0 ps.length).length ∧ i_1 ≤ ps.length ∧ Ws p (n + i_1 * 24) h (3 + i_1 * 24) d_1 h1 := fun {x1 h1} g3 =>
        g3.more (ws := [v, [58]]) (by simp) (by simp; exact ⟨word_name hv, by decide⟩) (by simp; omega) fun y h4 g4 =>
          g4.kind (by omega) hkk hp (by omega) (by simp; omega) fun y h5 g5 => ⟨i + 1, rfl, hlt, g5.up (by omega) (by simp; omega)⟩
      by_cases h0 : i = 0
      · refine .inl ⟨h0, g2.none_ (by omega) fun y h3 g3 => fin (g3.up (by omega) (by omega))⟩
      · refine .inr ⟨by omega, g2.more (ws := [[44]]) (by simp) (by decide) (by simp; omega) fun y h3 g3 => fin (g3.up (by omega) (by simp))⟩
end
end K44
end

section
set_option autoImplicit false
set_option linter.all false
set_option Elab.async false
set_option maxRecDepth 100000
set_option maxHeartbeats 4000000
namespace K44
open Ev
section
variable {p n j : Nat} {h0 h : Hx} {Q : D → Hx → Prop}
/-- at least c words -/
def LB (h : Hx) (c : Nat) (d : D) : Prop := ∃ a ws, d = .ref a ∧ h[a]? = some (.lst ws) ∧ c ≤ ws.length
theorem LB.same {c : Nat} {d : D} {h' : Hx} (x : LB h c d) (f : Fr [] h h') : LB h' c d := by
  obtain ⟨a, ws, rfl, e, r⟩ := x
  exact ⟨a, ws, rfl, f.get e (by simp), r⟩
theorem LB.fr {c : Nat} {d : D} {h' : Hx} (x : LB h c d) (o : PenOk p n h) (f : Fr [p] h h') : LB h' c d := by
  obtain ⟨a, ws, rfl, e, r⟩ := x
  exact ⟨a, ws, rfl, f.get e (by simpa using pen_ne o e), r⟩
theorem LB.up {c c' : Nat} {d : D} (x : LB h c d) (hc : c' ≤ c) : LB h c' d := by
  obtain ⟨a, ws, rfl, e, r⟩ := x
  exact ⟨a, ws, rfl, e, by omega⟩
theorem catL_ok {m m' c : Nat} {d d' : D} {Q : D → Hx → Prop} (x : Wl h m d) (y : Wl h m' d') (lb : LB h c d) (hm : m + m' ≤ LIM) (q : ∀ e h', Wl h' (m + m') e → Fr [] h h' → LB h' (c + 1) e → Q e h') : Wp (binop .add d d' h) Q := by
  obtain ⟨a, ws, rfl, e, r1, r2, r3⟩ := x
  obtain ⟨b, vs, rfl, f, t1, t2, t3⟩ := y
  obtain ⟨a', us, ea, eu, lu⟩ := lb
  cases ea
  rw [e] at eu
  cases eu
  have hv : 1 ≤ vs.length := by cases vs with
    | nil => exact absurd rfl t1
    | cons _ _ => simp
  rw [wb_lst e f]
  refine ⟨by simp; omega, q _ _ ⟨_, ws ++ vs, rfl, by simp, by simp [r1], by simp; omega, fun w hw => (List.mem_append.mp hw).elim (r3 w) (t3 w)⟩ (Fr.app .refl) ⟨_, _, rfl, get_app1, by simp at lu ⊢; omega⟩⟩
theorem b_tw : b__law_tree_words = .cons (nthS b__law_tree_words 0) (.cons (nthS b__law_tree_words 1) (dropS b__law_tree_words 2)) := rfl
theorem fares_words {k' : Nat} {pn : D} {rows fl : List D} {P : Post} (hk : 5 ≤ k') (hp : PN p pn) (hrl : rows.length ≤ 10) (hrows : ∀ r ∈ rows, ∃ s x, r = .tup [.str s, x] ∧ nameB s = true ∧ Rt x) (hn : n + 10 < 2 ^ 33) (g : PS p n h h)
    (q : ∀ x x3 x4 x5 h', Ws p (n + 10) h 62 x h' → LB h' (if pn = .non then 2 + rows.length else 2) x → P.nx [some pn, some (.tup [.tup rows, .tup fl]), some x, x3, x4, x5, none] h') :
    wS (CC k') FUEL (nthS b__law_tree_words 1) [some pn, some (.tup [.tup rows, .tup fl]), some (.ref h.length), none, none, none, none] (h ++ [MO.lst [D.str [102, 97, 114, 101, 115], D.str [123]]]) P := by
  simp [b__law_tree_words, nthS]
  have w0 := Ws.lits (ws := [[102, 97, 114, 101, 115], [123]]) g (by simp) (by simp; decide)
  refine for_ok (Q := fun w1 h1 => w1 = (rows, .none) ∧ h1 = h ++ [MO.lst [D.str [102, 97, 114, 101, 115], D.str [123]]]) ?_ (fun xs st h' => ∃ (i : Nat) (x : D) (x3 x4 x5 : Option D), xs = rows.drop i ∧ i ≤ rows.length ∧ st = [some pn, some (.tup [.tup rows, .tup fl]), some x, x3, x4, x5, none] ∧ Ws p (n + i) h (2 + i * 6) x h' ∧ LB h' (if pn = .non then 2 + i else 2) x) ?_
  · simp
    rfl
  · rintro w1 h1 ⟨rfl, rfl⟩
    refine ⟨⟨0, _, none, none, none, rfl, Nat.zero_le _, rfl, by simpa using w0, _, _, rfl, get_app1, by simp⟩, fun _ _ _ _ => rfl, ?_, ?_⟩
    · rintro st h2 ⟨i, x, x3, x4, x5, hx, hi, rfl, g2, lb⟩
      have hi2 : i = rows.length := by
        have := congrArg List.length hx
        simp at this; omega
      subst hi2
      exact q _ _ _ _ _ (g2.up (by omega) (by omega)) lb
    · rintro y xs st h2 ⟨i, x, x3, x4, x5, hx, hi, rfl, g2, lb⟩
      have hlt : i < rows.length := by
        have := congrArg List.length hx
        simp at this; omega
      rw [List.drop_eq_getElem_cons hlt] at hx
      obtain ⟨rfl, rfl⟩ := List.cons.inj hx
      obtain ⟨s, r, er, hs, hr⟩ := hrows _ (List.getElem_mem hlt)
      rw [er]
      have gc : goodStr [99, 97, 108, 108] = true := by decide
      simp [eqs, name_good hs, gc]
      have grow : ∀ {h3 : Hx} {y : D} {Q : D → Hx → Prop}, Ws p (n + i + 1) h (2 + i * 6) y h3 → LB h3 (if pn = .non then 2 + i else 2) y → (∀ y h4, Ws p (n + i + 1) h (2 + i * 6 + 6) y h4 → LB h4 (if pn = .non then 2 + (i + 1) else 2) y → Q y h4) → Wp (binop .add y (.ref h3.length) (h3 ++ [.lst [.str s]])) fun x h1 => wpC (CC k') 26 [r] h1 fun y h2 => Wp (binop .add x y h2) fun x h1 => Wp (binop .add x (.ref h1.length) (h1 ++ [.lst [.str [59]]])) Q := fun {h3 y Q} g3 lb q' =>
        catL_ok g3.wl.app (Wl.new (ws := [s]) (m := 1) (by simp) (by simp) (by simpa using word_name hs)) (lb.same (Fr.app .refl)) (by unfold LIM; omega) fun y h4 w4 f4 lb4 => ratio_ok (by omega) hr (g3.ps.app.same f4) fun z h5 w5 f5 => catL_ok (w4.same f5) w5 (lb4.same f5) (by unfold LIM; omega) fun y h6 w6 f6 lb6 =>
          catL_ok w6.app (Wl.new (ws := [[59]]) (m := 1) (by simp) (by simp) (by decide)) (lb6.same (Fr.app .refl)) (by unfold LIM; omega) fun y h7 w7 f7 lb7 => q' y h7 ⟨((((g3.ps.app.same f4).same f5).same f6).app).same f7, w7.up (by omega)⟩ (lb7.up (by split <;> omega))
      have leaf : ∀ (b : Bool) {K : D → Hx → Prop}, (∀ y h4, Ws p (n + i + 1) h (2 + i * 6 + 6) y h4 → LB h4 (if pn = .non then 2 + (i + 1) else 2) y → K y h4) →
          if pn = .non then Wp (binop .add x (.ref h2.length) (h2 ++ [.lst [.str s]])) fun x h1 => wpC (CC k') 26 [r] h1 fun y h2 => Wp (binop .add x y h2) fun x h1 => Wp (binop .add x (.ref h1.length) (h1 ++ [.lst [.str [59]]])) K
          else (truth h2 (.bl b) = some false ∧ Wp (binop .add x (.ref h2.length) (h2 ++ [.lst [.str s]])) fun x h1 => wpC (CC k') 26 [r] h1 fun y h2 => Wp (binop .add x y h2) fun x h1 => Wp (binop .add x (.ref h1.length) (h1 ++ [.lst [.str [59]]])) K) ∨
            truth h2 (.bl b) = some true ∧ wpC (CC k') 7 [pn, .int 2] h2 fun x_1 h1 => (eqD h1 x_1 (.int 0) = some false ∧ K x h1) ∨ eqD h1 x_1 (.int 0) = some true ∧ Wp (binop .add x (.ref h1.length) (h1 ++ [.lst [.str s]])) fun x h1 => wpC (CC k') 26 [r] h1 fun y h2 => Wp (binop .add x y h2) fun x h1 => Wp (binop .add x (.ref h1.length) (h1 ++ [.lst [.str [59]]])) K := fun b {K} hK => by
        have g3 := g2.up (n' := n + i + 1) (c' := 2 + i * 6) (by omega) (by omega)
        by_cases hpn : pn = .non
        · rw [if_pos hpn]
          exact grow g3 lb hK
        · rw [if_neg hpn]
          have hpp : pn = .ref p := hp.resolve_left hpn
          cases b with
          | false => exact .inl ⟨rfl, grow g3 lb hK⟩
          | true =>
            refine .inr ⟨rfl, ?_⟩
            rw [hpp]
            refine p_draw (h0 := h) (many := 2) (by omega) (by omega) (by omega) (by omega) g2.ps fun z hz h3 f3 g4 => ?_
            have w3 : Ws p (n + i + 1) h (2 + i * 6) x h3 := ⟨g4, g2.wl.fr g2.ps.pen f3⟩
            by_cases z0 : z = 0
            · subst z0
              exact .inr ⟨by simp, grow w3 (lb.fr g2.ps.pen f3) hK⟩
            · exact .inl ⟨by simp [z0], hK _ _ (w3.up (by omega) (by omega)) (by rw [if_neg hpn] at lb ⊢; exact lb.fr g2.ps.pen f3)⟩
      by_cases hc : s = [99, 97, 108, 108]
      · refine .inr ⟨hc, ?_⟩
        obtain ⟨b, hb⟩ := eq_some (h := h2) (hr.tp.le (by omega)) ((TP.tup2 TP.int TP.int : TP h2 5 (.tup [.int 1, .int 1])).le (by omega))
        cases b with
        | false => exact .inl ⟨hb, leaf false fun y h4 g4 lb4 => ⟨i + 1, rfl, hlt, g4.up (by omega) (by omega), lb4⟩⟩
        | true => exact .inr ⟨hb, leaf true fun y h4 g4 lb4 => ⟨i + 1, rfl, hlt, g4.up (by omega) (by omega), lb4⟩⟩
      · refine .inl ⟨hc, ?_⟩
        obtain ⟨b, hb⟩ := eq_some (h := h2) (hr.tp.le (by omega)) ((TP.tup2 TP.int TP.int : TP h2 5 (.tup [.int 0, .int 1])).le (by omega))
        cases b with
        | false => exact .inl ⟨hb, leaf false fun y h4 g4 lb4 => ⟨i + 1, rfl, hlt, g4.up (by omega) (by omega), lb4⟩⟩
        | true => exact .inr ⟨hb, leaf true fun y h4 g4 lb4 => ⟨i + 1, rfl, hlt, g4.up (by omega) (by omega), lb4⟩⟩
end
end K44
end

section
set_option autoImplicit false
set_option linter.all false
set_option Elab.async false
set_option maxRecDepth 100000
set_option maxHeartbeats 4000000
namespace K44
open Ev
theorem eqvs_len : ∀ {a b : List P}, P.eqvs a b = true → a.length = b.length
  | [], [], _ => rfl
  | [], _ :: _, h => by simp [P.eqvs] at h
  | _ :: _, [], h => by simp [P.eqvs] at h
  | x :: a, y :: b, h => by
    simp [P.eqvs] at h
    simp [eqvs_len h.2]
theorem eq_lists {h : Hx} {a b : Nat} {xs ys : List D} (ha : h[a]? = some (.lst xs)) (hb : h[b]? = some (.lst ys)) (t : ∀ x ∈ xs, TP h 59 x) (u : ∀ x ∈ ys, TP h 59 x) : ∃ k, eqD h (.ref a) (.ref b) = some k ∧ (k = true → xs.length = ys.length) := by
  obtain ⟨r, e⟩ := allSome_ok t
  obtain ⟨s, f⟩ := allSome_ok u
  have e1 : toP h 60 (.ref a) = some (.lst r) := by simp [toP, ha, e]
  have e2 : toP h 60 (.ref b) = some (.lst s) := by simp [toP, hb, f]
  refine ⟨P.eqvs r s, by simp only [eqD, e1, e2, P.eqv], fun k => ?_⟩
  rw [← allSome_len e, ← allSome_len f]
  exact eqvs_len k
/-- words, maybe none -/
def Wz (h : Hx) (m : Nat) (d : D) : Prop := ∃ (a : Nat) (ws : List (List Nat)), d = .ref a ∧ h[a]? = some (.lst (ws.map .str)) ∧ ws.length ≤ m ∧ ∀ w ∈ ws, wordB w = true
section
variable {p n m j : Nat} {h0 h : Hx} {d : D} {Q : D → Hx → Prop}
theorem Wl.z (x : Wl h m d) : Wz h m d := by
  obtain ⟨a, ws, rfl, e, r1, r2, r3⟩ := x
  exact ⟨a, ws, rfl, e, r2, r3⟩
theorem Wz.up {m' : Nat} (x : Wz h m d) (hm : m ≤ m') : Wz h m' d := by
  obtain ⟨a, ws, rfl, e, r2, r3⟩ := x
  exact ⟨a, ws, rfl, e, by omega, r3⟩
theorem Wz.same {h' : Hx} (x : Wz h m d) (f : Fr [] h h') : Wz h' m d := by
  obtain ⟨a, ws, rfl, e, r⟩ := x
  exact ⟨a, ws, rfl, f.get e (by simp), r⟩
theorem Wz.fr {h' : Hx} (x : Wz h m d) (o : PenOk p n h) (f : Fr [p] h h') : Wz h' m d := by
  obtain ⟨a, ws, rfl, e, r⟩ := x
  exact ⟨a, ws, rfl, f.get e (by simpa using pen_ne o e), r⟩
theorem catZ_ok {m' : Nat} {d' : D} {Q : D → Hx → Prop} (x : Wz h m d) (y : Wl h m' d') (hm : m + m' ≤ LIM) (q : ∀ e h', Wz h' (m + m') e → Fr [] h h' → Q e h') : Wp (binop .add d d' h) Q := by
  obtain ⟨a, ws, rfl, e, r2, r3⟩ := x
  obtain ⟨b, vs, rfl, f, t1, t2, t3⟩ := y
  rw [wb_lst e f]
  refine ⟨by simp; omega, q _ _ ⟨_, ws ++ vs, rfl, by simp, by simp; omega, fun w hw => (List.mem_append.mp hw).elim (r3 w) (t3 w)⟩ (Fr.app .refl)⟩
theorem tree_ok {pn t : D} (hj : 45 ≤ j) (ht : PrOk t) (hp : PN p pn) (hn : n + 340000 < 2 ^ 33) (g : PS p n h0 h) (q : ∀ x h', Wz h' 340000 x → PS p (n + 340000) h0 h' → Fr [p] h h' → Q x h') : wpC (CC j) 33 [pn, t] h Q := by
  refine up (by omega) fun k' hk' => call_ok (fn := f__law_tree_words) rfl rfl ?_
  obtain ⟨fa, fl, rfl, ⟨rows, rfl, hr0, hrl, hrows⟩, hfl, hfs⟩ := ht
  have g0 : PS p n h h := ⟨.refl, g.pen⟩
  show wSl _ _ b__law_tree_words [some pn, some (.tup [.tup rows, .tup fl]), none, none, none, none, none] h _
  rw [b_tw]
  obtain ⟨S1, hS1⟩ : ∃ S, S = nthS b__law_tree_words 1 := ⟨_, rfl⟩
  rw [← hS1]
  simp [nthS, b__law_tree_words]
  rw [hS1]
  refine fares_words (by omega) hp hrl hrows (by omega) g0 fun x x3 x4 x5 h1 g1 lb1 => ?_
  simp [dropS, b__law_tree_words]
  refine catL_ok g1.wl.app (Wl.new (ws := [[125]]) (m := 1) (by simp) (by simp) (by decide)) (lb1.same (Fr.app .refl)) (by unfold LIM; omega) fun y h2 w2 f2 lb2 => ?_
  have g2 : PS p (n + 10) h h2 := g1.ps.app.same f2
  have loop : ∀ (x : D) (h3 : Hx) (x3 x4 x5 : Option D), Wz h3 63 x → PS p (n + 11) h h3 → wS (CC k') FUEL (.for_ (.nm 6) (.seq (.ix (.var 1) (.int 1))) (.cons (.asg (.nm 2) (.bin .add (.var 2) (.call 32 (.cons (.var 0) (.cons (.var 6) .nil))))) .nil)) [some pn, some (.tup [.tup rows, .tup fl]), some x, x3, x4, x5, none] h3 { nx := fun s1 h1 => ∃ d, s1[2]? = some (some d) ∧ Q d h1, rt := Q } := fun x h3 x3 x4 x5 wx g3 => by
    refine for_ok (Q := fun w1 h1 => w1 = (fl, .none) ∧ h1 = h3) ?_ (fun xs st h' => ∃ (i : Nat) (x : D) (x6 : Option D), xs = fl.drop i ∧ i ≤ fl.length ∧ st = [some pn, some (.tup [.tup rows, .tup fl]), some x, x3, x4, x5, x6] ∧ Wz h' (63 + i * 84000) x ∧ PS p (n + 11 + i * 84000) h h') ?_
    · simp
      rfl
    · rintro w1 h4 ⟨rfl, rfl⟩
      refine ⟨⟨0, _, none, rfl, Nat.zero_le _, rfl, by simpa using wx, by simpa using g3⟩, fun _ _ _ _ => rfl, ?_, ?_⟩
      · rintro st h5 ⟨i, x, x6, hx, hi, rfl, w5, g5⟩
        simp
        exact q x h5 (w5.up (by omega)) ⟨g.fr.trans g5.fr, g5.pen.mono (by omega)⟩ g5.fr
      · rintro y xs st h5 ⟨i, x, x6, hx, hi, rfl, w5, g5⟩
        have hlt : i < fl.length := by
          have := congrArg List.length hx
          simp at this; omega
        rw [List.drop_eq_getElem_cons hlt] at hx
        obtain ⟨rfl, rfl⟩ := List.cons.inj hx
        simp
        refine fun_ok (by omega) (hfs _ (List.getElem_mem hlt)) hp (by omega) g5 fun z h6 g6 f6 => ?_
        refine catZ_ok (w5.fr g5.pen f6) g6.wl (by unfold LIM; omega) fun e h7 w7 f7 => ?_
        exact ⟨i + 1, rfl, hlt, w7.up (by omega), (g6.ps.same f7).up (by omega)⟩
  have gw : ∀ w : List Nat, wordB w = true → ∀ {H : Hx}, TP H 59 (.str w) := fun w hw {H} => TP.str (word_good hw)
  obtain ⟨a, ws, rfl, ea, r1, r2, r3⟩ := w2
  obtain ⟨a', us, ea', eu, lu⟩ := lb2
  cases ea'
  rw [ea] at eu
  cases eu
  obtain ⟨b, hb, hbl⟩ := eq_lists (h := h2 ++ [MO.lst [D.str [102, 97, 114, 101, 115], D.str [123], D.str [125]]]) (get_app ea) get_app1 (by
    intro x hx
    obtain ⟨w, hw, rfl⟩ := List.mem_map.mp hx
    exact gw w (r3 w hw)) (by
    intro x hx
    simp at hx
    rcases hx with rfl | rfl | rfl <;> exact TP.str (by decide))
  have f2' : Fr [] h2 (h2 ++ [MO.lst [D.str [102, 97, 114, 101, 115], D.str [123], D.str [125]]]) := Fr.app .refl
  have wz : Wz h2 63 (.ref a) := ⟨a, ws, rfl, ea, r2, r3⟩
  cases b with
  | false => exact .inl ⟨hb, loop _ _ _ _ _ (wz.same f2') ((g2.same f2').up (by omega))⟩
  | true =>
    refine .inr ⟨hb, ?_⟩
    have hl3 := hbl rfl
    simp at hl3 lu
    have hrp : 1 ≤ rows.length := by cases rows with
      | nil => exact absurd rfl hr0
      | cons _ _ => simp
    have hpn : pn ≠ .non := fun z => by rw [if_pos z] at lu; omega
    have hpp : pn = .ref p := hp.resolve_left hpn
    rw [hpp]
    rw [hpp] at loop
    refine p_draw (h0 := h) (many := 2) (by omega) (by omega) (by omega) (by omega) (g2.same f2') fun z hz h3 f3 g4 => ?_
    by_cases z0 : z = 0
    · subst z0
      exact .inr ⟨by simp, loop _ _ _ _ _ ⟨_, [], rfl, get_app1, by simp, by simp⟩ g4.app⟩
    · exact .inl ⟨by simp [z0], loop _ _ _ _ _ ((wz.same f2').fr (g2.same f2').pen f3) g4⟩
end
end K44
end

section
set_option autoImplicit false
set_option linter.all false
set_option Elab.async false
set_option maxRecDepth 100000
set_option maxHeartbeats 4000000
namespace K44
open Ev
theorem word_len {w : List Nat} (h : wordB w = true) : w ≠ [] ∧ w.length ≤ 12 := by
  unfold wordB at h
  simp only [Bool.or_eq_true] at h
  rcases h with (h | h) | h
  · unfold nameB at h
    cases w with
    | nil => simp at h
    | cons c w =>
      simp only [Bool.and_eq_true, decide_eq_true_eq] at h
      exact ⟨by simp, h.2⟩
  · unfold numB at h
    cases w with
    | nil => simp at h
    | cons c w =>
      simp only [Bool.and_eq_true, decide_eq_true_eq] at h
      exact ⟨by simp, h.2⟩
  · unfold sgnB at h
    simp only [Bool.or_eq_true, decide_eq_true_eq] at h
    rcases h with (rfl | rfl) | h
    · decide
    · decide
    · split at h
      · simp
      · cases h
theorem sig_128 : ∀ c ∈ SIG, c < 128 := by decide
theorem one_128 : ∀ c ∈ ONE, c < 128 := by decide
theorem word_128 {w : List Nat} (h : wordB w = true) : ∀ c ∈ w, c < 128 := by
  unfold wordB at h
  simp only [Bool.or_eq_true] at h
  rcases h with (h | h) | h
  · unfold nameB at h
    simp only [Bool.and_eq_true, decide_eq_true_eq, List.all_eq_true] at h
    exact fun c hc => sig_128 c (h.1.2 c hc)
  · unfold numB at h
    simp only [Bool.and_eq_true, decide_eq_true_eq, List.all_eq_true] at h
    exact fun c hc => sig_128 c (dig_sig c (h.1.2 c hc))
  · unfold sgnB at h
    simp only [Bool.or_eq_true, decide_eq_true_eq] at h
    rcases h with (rfl | rfl) | h
    · decide
    · decide
    · split at h
      · simp only [decide_eq_true_eq] at h
        intro c hc
        simp at hc
        subst hc
        exact one_128 _ h
      · cases h
theorem alnum_sig : ∀ c < 128, alnumC c = false → c ≠ 95 → c ∉ SIG := by decide
def GAPS : List (List Nat) := [[10], [32, 35, 32, 105, 110, 32, 120, 59, 32, 125, 10], [32, 32], [10, 10, 32, 32], [32, 35, 10], [32]]
def GapOk (last w s : List Nat) : Prop := s ∈ GAPS ∨ (s = [] ∧ Safe last w)
def TT (t last : List Nat) : Prop := ∀ r, Safe last r → NB r → NB (t ++ r)
theorem gaps_nb {s : List Nat} (hs : s ∈ GAPS) {r : List Nat} (h : NB r) : NB (s ++ r) ∧ ∃ c s', s = c :: s' ∧ (c = 10 ∨ c = 32) := by
  simp [GAPS] at hs
  rcases hs with rfl | rfl | rfl | rfl | rfl | rfl
  · exact ⟨NB_nl h, _, _, rfl, .inl rfl⟩
  · exact ⟨NB_blank (NB_hash (w := [32, 105, 110, 32, 120, 59, 32, 125]) (by decide) h), _, _, rfl, .inr rfl⟩
  · exact ⟨NB_blank (NB_blank h), _, _, rfl, .inr rfl⟩
  · exact ⟨NB_nl (NB_nl (NB_blank (NB_blank h))), _, _, rfl, .inl rfl⟩
  · exact ⟨NB_blank (NB_hash (w := []) (by decide) h), _, _, rfl, .inr rfl⟩
  · exact ⟨NB_blank h, _, _, rfl, .inr rfl⟩
theorem safe_of {last r : List Nat} {c : Nat} (hc : c = 10 ∨ c = 32 ∨ c = 35) : Safe last (c :: r) := by
  intro x hx
  simp at hx
  subst hx
  refine ⟨fun _ _ _ => ?_, fun z => ?_, fun z => ?_⟩
  · rcases hc with rfl | rfl | rfl <;> decide
  all_goals
    have := congrArg List.getLast? z
    simp at this
    omega
theorem safe_nil {last : List Nat} : Safe last [] := fun x hx => by simp at hx
theorem TT.step {t last w s : List Nat} (h : TT t last) (hw : wordB w = true) (g : GapOk last w s) : TT (t ++ s ++ w) w := fun r hs hr => by
  have n1 := NB_word hw hs hr
  rw [List.append_assoc, List.append_assoc]
  rcases g with g | ⟨rfl, g⟩
  · obtain ⟨n2, c, s', rfl, hc⟩ := gaps_nb g n1
    exact h _ (safe_of (by omega)) n2
  · refine h _ ?_ n1
    obtain ⟨c, w', rfl⟩ := List.exists_cons_of_ne_nil (word_len hw).1
    exact fun x hx => g x (by simpa using hx)
theorem TT.nil : TT [] [] := fun r _ h => h
def ENDS : List (List Nat) := [[], [], [10], [32], [32, 35, 32, 116, 104, 101, 32, 101, 110, 100], [35]]
theorem TT.end_ {t last e : List Nat} (h : TT t last) (he : e ∈ ENDS) : NB (t ++ e) := by
  simp [ENDS] at he
  rcases he with rfl | rfl | rfl | rfl | rfl
  · exact h _ safe_nil NB_nil
  · exact h _ (safe_of (by omega)) (NB_nl NB_nil)
  · exact h _ (safe_of (by omega)) (NB_blank NB_nil)
  · exact h _ (safe_of (by omega)) (NB_blank (NB_hash0 (w := [32, 116, 104, 101, 32, 101, 110, 100]) (by decide)))
  · exact h _ (safe_of (by omega)) (NB_hash0 (w := []) (by decide))
theorem join_nb : ∀ {ws : List (List Nat)}, (∀ w ∈ ws, wordB w = true) → NB (joinS [32] ws)
  | [], _ => NB_nil
  | [w], h => by
    have := NB_word (h w (by simp)) safe_nil NB_nil
    simpa [joinS] using this
  | w :: v :: r, h => by
    have n1 := join_nb (ws := v :: r) fun x hx => h x (List.mem_cons_of_mem _ hx)
    have n2 := NB_word (h w (by simp)) (safe_of (by omega)) (NB_blank n1)
    simpa [joinS] using n2
theorem join_len : ∀ {ws : List (List Nat)}, (joinS [32] ws).length ≤ (ws.map List.length).sum + ws.length
  | [] => by simp [joinS]
  | [w] => by simp [joinS]
  | w :: v :: r => by
    have := join_len (ws := v :: r)
    simp [joinS] at this ⊢
    omega
theorem join_mem {c : Nat} : ∀ {ws : List (List Nat)}, c ∈ joinS [32] ws → c = 32 ∨ ∃ w ∈ ws, c ∈ w
  | [], h => by simp [joinS] at h
  | [w], h => .inr ⟨w, by simp, by simpa [joinS] using h⟩
  | w :: v :: r, h => by
    simp only [joinS, List.mem_append] at h
    rcases h with (h | h) | h
    · exact .inr ⟨w, by simp, h⟩
    · exact .inl (by simpa using h)
    · rcases join_mem h with h | ⟨x, hx, h⟩
      · exact .inl h
      · exact .inr ⟨x, List.mem_cons_of_mem _ hx, h⟩
section
variable {p n m j : Nat} {h0 h : Hx} {d : D} {Q : D → Hx → Prop}
def rhs : S1 → T
  | .asg _ e => e
  | _ => .non
def gapC : T := rhs (nthS b__law_gap 0)
def gapJ : T := rhs (nthS b__law_gap 1)
theorem b_gap : b__law_gap = .cons (.asg (.nm 3) gapC) (.cons (.asg (.nm 4) gapJ) (dropS b__law_gap 2)) := rfl
theorem tr_bl {h : Hx} {b : Bool} : truth h (.bl b) = some b := rfl
theorem ix_head {c : Nat} {w : List Nat} {h : Hx} (hl : (c :: w).length ≤ LIM) : getIx (.str (c :: w)) (.int 0) h = some (.str [c]) := by
  show (if (c :: w).length ≤ LIM then (atD (c :: w) 0).map fun c => D.str [c] else none) = _
  rw [if_pos hl]
  simp [atD, ixOf]
theorem ix_last {a : Nat} {w : List Nat} {h : Hx} (hl : (w ++ [a]).length ≤ LIM) : getIx (.str (w ++ [a])) (.int (-1)) h = some (.str [a]) := by
  show (if (w ++ [a]).length ≤ LIM then (atD (w ++ [a]) (-1)).map fun c => D.str [c] else none) = _
  rw [if_pos hl]
  have e : ixOf (w ++ [a]).length (-1) = some w.length := by
    simp [ixOf]
    omega
  simp only [atD, e]
  simp
theorem close_ok {C : Call} {x0 : D} {last w : List Nat} {x3 x4 x5 : Option D} (hl : last = [] ∨ wordB last = true) (hw : wordB w = true) (q : ∀ b, (b = true → ∀ x, w[0]? = some x → ∀ y, last.getLast? = some y → y ∈ SIG → x ∉ SIG) → Q (.bl b) h) : wpE C gapC [some x0, some (.str last), some (.str w), x3, x4, x5] h Q := by
  obtain ⟨c, w', rfl⟩ := List.exists_cons_of_ne_nil (word_len hw).1
  have hc := word_128 hw c (by simp)
  have g95 : goodStr [95] = true := by decide
  have gn : goodStr [] = true := by decide
  have gc : goodStr [c] = true := by simp [goodStr, goodSign, LIM]; omega
  have ic : ∀ h : Hx, getIx (.str (c :: w')) (.int 0) h = some (.str [c]) := fun h => ix_head (by have := (word_len hw).2; unfold LIM; omega)
  rcases hl with rfl | hl
  · simp [gapC, rhs, nthS, b__law_gap, eqs, gn, tr_bl]
    exact q true (by simp)
  · obtain ⟨l', a, rfl⟩ : ∃ l' a, last = l' ++ [a] := ⟨last.dropLast, last.getLast (word_len hl).1, (List.dropLast_concat_getLast _).symm⟩
    have ha := word_128 hl a (by simp)
    have ga : goodStr [a] = true := by simp [goodStr, goodSign, LIM]; omega
    have il : ∀ h : Hx, getIx (.str (l' ++ [a])) (.int (-1)) h = some (.str [a]) := fun h => ix_last (by have := (word_len hl).2; unfold LIM; omega)
    have ne : l' ++ [a] ≠ [] := by simp
    have one : 1 ≤ LIM := by decide
    simp [gapC, rhs, nthS, b__law_gap, eqs, gn, tr_bl, word_good hl, il, ic, ga, gc, g95, hasM, ha, hc, one]
    have qf : Q (.bl false) h := q false (by simp)
    have qa : a ∉ SIG → Q (.bl true) h := fun z => q true fun _ x hx y hy hs => absurd (by simp at hy; rw [hy]; exact hs) z
    have qc : c ∉ SIG → Q (.bl true) h := fun z => q true fun _ x hx y hy hs => by simp at hx; rw [← hx]; exact z
    cases ea : alnumC a <;> cases ec : alnumC c <;> by_cases a95 : a = 95 <;> by_cases c95 : c = 95 <;> simp [a95, c95, qf] <;> first | exact qa (alnum_sig a ha ea a95) | exact qc (alnum_sig c hc ec c95) | skip
theorem join2_ok {C : Call} {x0 : D} {last w : List Nat} {x3 x4 x5 : Option D} (hl : last = [] ∨ wordB last = true) (hw : wordB w = true) (q : ∀ b, (b = false → ∀ x, w[0]? = some x → last ++ [x] ≠ [60, 61] ∧ last ++ [x] ≠ [45, 62]) → Q (.bl b) h) : wpE C gapJ [some x0, some (.str last), some (.str w), x3, x4, x5] h Q := by
  obtain ⟨c, w', rfl⟩ := List.exists_cons_of_ne_nil (word_len hw).1
  have h12 := (word_len hw).2
  have l12 : last.length ≤ 12 := by
    rcases hl with rfl | hl
    · simp
    · exact (word_len hl).2
  have gl : goodStr (last ++ [c]) = true := by
    have hc := word_128 hw c (by simp)
    unfold goodStr
    simp only [Bool.and_eq_true, decide_eq_true_eq, List.all_eq_true]
    refine ⟨fun x hx => ?_, by simp; unfold LIM; omega⟩
    rcases List.mem_append.mp hx with hx | hx
    · rcases hl with rfl | hl
      · simp at hx
      · have := word_128 hl x hx
        simp [goodSign]; omega
    · simp at hx
      subst hx
      simp [goodSign]; omega
  have lim : (c :: w').length ≤ LIM := by unfold LIM; omega
  simp [gapJ, rhs, nthS, b__law_gap, slice, cut, sIx]
  refine ⟨by simpa using lim, by unfold LIM; omega, ?_⟩
  by_cases h1 : last ++ [c] = [60, 61]
  · exact .inr ⟨.inl h1, q true (by simp)⟩
  · by_cases h2 : last ++ [c] = [45, 62]
    · exact .inr ⟨.inr h2, q true (by simp)⟩
    · exact .inl ⟨⟨h1, h2⟩, q false fun _ x hx => by simp at hx; rw [← hx]; exact ⟨h1, h2⟩⟩
theorem gap_ok {last w : List Nat} (hj : 4 ≤ j) (hl : last = [] ∨ wordB last = true) (hw : wordB w = true) (hn : n + 2 < 2 ^ 33) (g : PS p n h0 h) (q : ∀ s h', GapOk last w s → PS p (n + 2) h0 h' → Fr [p] h h' → Q (.str s) h') : wpC (CC j) 36 [.ref p, .str last, .str w] h Q := by
  refine up (by omega) fun k' hk' => call_ok (fn := f__law_gap) rfl rfl ?_
  show wSl _ _ b__law_gap [some (.ref p), some (.str last), some (.str w), none, none, none] h _
  rw [b_gap]
  have g0 : PS p n h h := ⟨.refl, g.pen⟩
  obtain ⟨GC, hGC⟩ : ∃ GC, GC = gapC := ⟨_, rfl⟩
  obtain ⟨GJ, hGJ⟩ : ∃ GC, GC = gapJ := ⟨_, rfl⟩
  rw [← hGC, ← hGJ]
  simp
  rw [hGC]
  refine close_ok hl hw fun b1 hb1 => ?_
  rw [hGJ]
  refine join2_ok hl hw fun b2 hb2 => ?_
  simp [dropS, b__law_gap, tr_bl]
  refine p_draw (h0 := h) (many := 9) (by omega) (by omega) (by omega) (by omega) g0 fun z hz h3 f3 g3 => ?_
  have fin : ∀ {s h'}, GapOk last w s → PS p (n + 2) h h' → Q (.str s) h' := fun {s h'} a b => q s h' a ⟨g.fr.trans b.fr, b.pen⟩ b.fr
  have gap : ∀ {s h'}, s ∈ GAPS → PS p (n + 2) h h' → Q (.str s) h' := fun {s h'} a b => fin (.inl a) b
  simp
  by_cases z0 : z = 0
  · exact .inr ⟨z0, gap (by decide) (g3.up (by omega))⟩
  refine .inl ⟨z0, ?_⟩
  by_cases z1 : z = 1
  · refine .inr ⟨by omega, p_pickN (h0 := h) (by omega) (by omega) (by simp) (by simp) g3 fun x hx h4 f4 g4 => ?_⟩
    simp at hx
    rcases hx with rfl | rfl | rfl | rfl <;> exact gap (by decide) g4
  refine .inl ⟨by omega, ?_⟩
  have g32 : Q (.str [32]) h3 := gap (by decide) (g3.up (by omega))
  cases b1 with
  | false => exact .inl ⟨rfl, g32⟩
  | true =>
    refine .inr ⟨rfl, ?_⟩
    cases b2 with
    | true => exact .inr ⟨rfl, g32⟩
    | false =>
      refine .inl ⟨rfl, ?_⟩
      by_cases z4 : z < 4
      · exact .inr ⟨by omega, fin (.inr ⟨rfl, fun x hx => ⟨fun y hy hs => hb1 rfl x hx y hy hs, hb2 rfl x hx⟩⟩) (g3.up (by omega))⟩
      · exact .inl ⟨by omega, g32⟩
/-- a text: its signs good, its length, its scan -/
def TxOk (t : List Nat) (m : Nat) : Prop := (∀ c ∈ t, c < 128) ∧ t.length ≤ m ∧ NB t
theorem gaps_len : ∀ s ∈ GAPS, (∀ c ∈ s, c < 128) ∧ s.length ≤ 11 := by decide
theorem wpI_det {C : Call} {it : It} {s : Sx} {Q : List D × Src → Hx → Prop} (hi : wpI C it s h Q) : ∃ w0 h1, Q w0 h1 ∧ wpI C it s h fun w h' => w = w0 ∧ h' = h1 := by
  obtain ⟨w, h1, e, q⟩ := Wp.eq hi
  exact ⟨w, h1, q, Wp.of_eq e ⟨rfl, rfl⟩⟩
theorem loose_ok {t : D} (hj : 50 ≤ j) (ht : PrOk t) (hn : n + 1100000 < 2 ^ 33) (g : PS p n h0 h) (q : ∀ s h', TxOk s 8000000 → PS p (n + 1100000) h0 h' → Fr [p] h h' → Q (.str s) h') : wpC (CC j) 35 [.ref p, t] h Q := by
  refine up (by omega) fun k' hk' => call_ok (fn := f__law_loose_text) rfl rfl ?_
  show wSl _ _ b__law_loose_text [some (.ref p), some t, none, none, none] h _
  have g0 : PS p n h h := ⟨.refl, g.pen⟩
  simp [b__law_loose_text]
  obtain ⟨w0, h1, ⟨a, ws, rfl, ea, r2, r3, g1⟩, hdet⟩ := wpI_det (C := CC k') (it := .seq (.call 33 (.cons (.var 0) (.cons (.var 1) .nil)))) (s := [some (.ref p), some t, some (.str []), some (.str []), none]) (h := h) (Q := fun w1 h1 => ∃ (a : Nat) (ws : List (List Nat)), w1 = (ws.map .str, .at_ a (ws.map .str)) ∧ h1[a]? = some (.lst (ws.map .str)) ∧ ws.length ≤ 340000 ∧ (∀ w ∈ ws, wordB w = true) ∧ PS p (n + 340000) h h1) (by
    simp
    refine tree_ok (h0 := h) (by omega) ht (.inr rfl) (by omega) g0 fun x h1 w1 g1 f1 => ?_
    obtain ⟨a, ws, rfl, ea, r2, r3⟩ := w1
    exact ⟨_, _, by simp [walkOf, ea], a, ws, ⟨rfl, rfl⟩, ea, r2, r3, g1⟩)
  refine for_ok hdet (fun xs st h' => ∃ (i : Nat) (x last : List Nat) (x4 : Option D), h'[a]? = some (.lst (ws.map .str)) ∧ xs = (ws.map D.str).drop i ∧ i ≤ ws.length ∧ st = [some (.ref p), some t, some (.str x), some (.str last), x4] ∧ TT x last ∧ (last = [] ∨ wordB last = true) ∧ (∀ c ∈ x, c < 128) ∧ x.length ≤ i * 23 ∧ PS p (n + 340000 + i * 2) h h') ?_
  rintro w1 h2 ⟨rfl, rfl⟩
  refine ⟨⟨0, _, _, _, ea, rfl, Nat.zero_le _, rfl, TT.nil, .inl rfl, by simp, by simp, by simpa using g1⟩, ?_, ?_, ?_⟩
  · rintro xs st h3 ⟨i, x, last, x4, e3, _⟩
    simp [Src.ok, e3]
  · rintro st h3 ⟨i, x, last, x4, e3, hx, hi, rfl, tt, hlast, h128, hlen, g3⟩
    simp
    refine p_pickN (h0 := h) (by omega) (by omega) (by simp) (by simp) g3 fun e he h4 f4 g4 => ?_
    have he' : ∃ s, e = .str s ∧ s ∈ ENDS := by
      simp at he
      rcases he with rfl | rfl | rfl | rfl | rfl <;> exact ⟨_, rfl, by decide⟩
    obtain ⟨s, rfl, hs⟩ := he'
    have hs2 : (∀ c ∈ s, c < 128) ∧ s.length ≤ 10 := by
      revert s
      decide
    simp
    refine ⟨by unfold LIM; omega, q _ _ ⟨?_, by simp; omega, tt.end_ hs⟩ ⟨g.fr.trans g4.fr, g4.pen.mono (by omega)⟩ g4.fr⟩
    intro c hc
    exact (List.mem_append.mp hc).elim (h128 c) (hs2.1 c)
  · rintro y xs st h3 ⟨i, x, last, x4, e3, hx, hi, rfl, tt, hlast, h128, hlen, g3⟩
    have hlt : i < ws.length := by
      have := congrArg List.length hx
      simp at this; omega
    rw [List.drop_eq_getElem_cons (by simpa using hlt)] at hx
    obtain ⟨rfl, rfl⟩ := List.cons.inj hx
    have hw := r3 _ (List.getElem_mem hlt)
    simp
    refine gap_ok (h0 := h) (by omega) hlast hw (by omega) g3 fun s h4 gs g4 f4 => ?_
    have hs2 : (∀ c ∈ s, c < 128) ∧ s.length ≤ 11 := by
      rcases gs with gs | ⟨rfl, _⟩
      · exact gaps_len s gs
      · simp
    have w12 := (word_len hw).2
    simp
    refine ⟨by unfold LIM; omega, by unfold LIM; omega, ?_⟩
    refine ⟨_, rfl, f4.get e3 (by simpa using pen_ne g3.pen e3), i + 1, rfl, hlt, _, _, ⟨_, rfl⟩, by simpa using tt.step hw gs, .inr hw, ?_, ?_, g4.up (by omega)⟩
    · intro c hc
      simp at hc
      rcases hc with hc | hc | hc
      · exact h128 c hc
      · exact hs2.1 c hc
      · exact word_128 hw c hc
    · simp
      omega
end
end K44
end

section
set_option autoImplicit false
set_option linter.all false
set_option Elab.async false
set_option maxRecDepth 100000
set_option maxHeartbeats 4000000
namespace K44
open Ev
/-! ### a scan's words -/
def TokOk (x : D) : Prop := ∃ (s w : List Nat) (n c : Nat), x = tokD s w n c ∧ goodStr s = true ∧ goodStr w = true
theorem good_part {l w : List Nat} (hl : goodStr l = true) (hw : ∀ c ∈ w, c ∈ l) (hn : w.length ≤ l.length) : goodStr w = true := by
  unfold goodStr at *
  simp only [Bool.and_eq_true, decide_eq_true_eq, List.all_eq_true] at *
  exact ⟨fun c hc => hl.1 c (hw c hc), by omega⟩
theorem wordAt_sort {l s w : List Nat} (e : wordAt l = .good s w) : goodStr s = true := by
  cases l with
  | nil => simp [wordAt] at e
  | cons c r =>
    simp only [wordAt] at e
    have h1 : goodStr t_own = true := by decide
    have h2 : goodStr t_name = true := by decide
    have h3 : goodStr t_number = true := by decide
    have h4 : goodStr t_sign = true := by decide
    split at e
    · split at e
      · cases e
      · cases e
        split <;> assumption
    · split at e
      · split at e
        · cases e
        · cases e; assumption
      · split at e
        · cases e; assumption
        · split at e
          · cases e; assumption
          · cases e
theorem wordAt_bad {l w : List Nat} (e : wordAt l = .bad w) : goodStr w = true := by
  cases l with
  | nil => simp [wordAt] at e; subst e; decide
  | cons c r =>
    simp only [wordAt] at e
    have h1 : goodStr t_word = true := by decide
    have h3 : goodStr t_number = true := by decide
    have h4 : goodStr t_sign = true := by decide
    split at e
    · split at e
      · cases e; assumption
      · cases e
    · split at e
      · split at e
        · cases e; assumption
        · cases e
      · split at e
        · cases e
        · split at e
          · cases e
          · cases e; assumption
theorem line_tok : ∀ (f : Nat) (l : List Nat) (n a : Nat), goodStr l = true → ∀ x ∈ (lineT f l n a).1, TokOk x
  | 0, l, n, a, _, x, hx => by simp [lineT] at hx
  | f + 1, [], n, a, _, x, hx => by simp [lineT] at hx
  | f + 1, c :: r, n, a, hl, x, hx => by
    have hr : goodStr r = true := good_part hl (fun c hc => List.mem_cons_of_mem _ hc) (by simp)
    simp only [lineT] at hx
    split at hx
    · simp at hx
    · split at hx
      · exact line_tok f r n (a + 1) hr x hx
      · split at hx
        · rename_i w e
          simp at hx
          exact ⟨_, _, _, _, hx, by decide, wordAt_bad e⟩
        · rename_i s w e
          obtain ⟨p1, p2, p3⟩ := word_pos e
          rcases List.mem_cons.mp hx with hx | hx
          · refine ⟨_, _, _, _, hx, wordAt_sort e, good_part hl ?_ p2⟩
            intro z hz
            rw [p3] at hz
            exact List.mem_of_mem_take hz
          · exact line_tok f _ n _ (good_part hl (fun c hc => List.mem_of_mem_drop hc) (by simp)) x hx
theorem rest_tok : ∀ (ls : List (List Nat)) (n c : Nat), (∀ l ∈ ls, goodStr l = true) → ∀ x ∈ restT ls n c, TokOk x
  | [], n, c, _, x, hx => by simp [restT] at hx
  | l :: ls, n, c, h, x, hx => by
    have hl := line_tok l.length l n c (h l (List.mem_cons_self ..))
    simp only [restT] at hx
    split at hx
    · exact hl x hx
    · rcases List.mem_append.mp hx with hx | hx
      · exact hl x hx
      · cases ls with
        | nil =>
          simp at hx
          exact ⟨_, _, _, _, hx, by decide, by decide⟩
        | cons l2 ls =>
          exact rest_tok (l2 :: ls) (n + 1) 0 (fun z hz => h z (List.mem_cons_of_mem _ hz)) x hx
theorem scan_tok {t : List Nat} (h : goodStr t = true) : ∀ x ∈ scan t, TokOk x := by
  refine rest_tok _ _ _ fun l hl => ?_
  unfold goodStr at *
  simp only [Bool.and_eq_true, decide_eq_true_eq] at *
  exact ⟨split_all h.1 l hl, Nat.le_trans (split_len l hl) h.2⟩
theorem TokOk.tp {x : D} {h : Hx} (t : TokOk x) : TP h 50 x := by
  obtain ⟨s, w, n, c, rfl, h1, h2⟩ := t
  exact .tup4 (.str h1) (.str h2) .int .int
theorem scan_same {t : List Nat} {h : Hx} (g : goodStr t = true) : eqD h (.tup (scan t)) (.tup (scan t)) = some true :=
  eq_same ((TP.tup fun x hx => (scan_tok g x hx).tp).le (by omega))
theorem good_128 {t : List Nat} {m : Nat} (h : ∀ c ∈ t, c < 128) (hl : t.length ≤ m) (hm : m ≤ LIM) : goodStr t = true := by
  unfold goodStr
  simp only [Bool.and_eq_true, decide_eq_true_eq, List.all_eq_true]
  exact ⟨fun c hc => by have := h c hc; simp [goodSign]; omega, by omega⟩
section
variable {p n m j : Nat} {h0 h : Hx} {d : D} {Q : D → Hx → Prop}
theorem told_ok {xs : List D} (hj : 2 ≤ j) (hl : xs.length < LIM) (hx : ∀ x ∈ xs, TokOk x) (q : ∀ h', Fr [] h h' → Q (.bl true) h') : wpC (CC j) 39 [.tup xs] h Q := by
  refine up (by omega) fun k' hk' => call_ok (fn := f__law_told_ok) rfl rfl ?_
  show wSl _ _ b__law_told_ok [some (.tup xs), none] h _
  simp [b__law_told_ok, isOf, known, tr_bl]
  refine lc_ok (QI := fun w h1 => w = (xs, .none) ∧ h1 = h) (by simp [walkOf]) (fun acc ys h' => acc.length + ys.length = xs.length ∧ (∀ y ∈ ys, TokOk y) ∧ (∃ k, acc = (List.replicate k true).map .bl) ∧ h' = h) ?_
  rintro w h1 ⟨rfl, rfl⟩
  refine ⟨⟨by simp, hx, ⟨0, rfl⟩, rfl⟩, fun _ _ _ _ => rfl, ?_, ?_⟩
  · rintro acc h2 ⟨_, _, ⟨k, rfl⟩, rfl⟩
    rw [wf_allL get_app1]
    simp
    exact q _ (Fr.app .refl)
  · rintro acc y ys h2 ⟨hlen, hy, ⟨k, rfl⟩, rfl⟩
    obtain ⟨s, w, n, c, rfl, h1, h2⟩ := hy y (List.mem_cons_self ..)
    simp at hlen
    refine ⟨by simp; omega, ?_⟩
    simp [wipeD, tokD, isOf, known, tr_bl]
    obtain ⟨k2, rfl⟩ : ∃ k2, k' = k2 + 1 := ⟨k' - 1, by omega⟩
    refine law_is_int_ok (k := k2) (.inr ⟨rfl, law_is_int_ok (k := k2) ⟨by omega, fun y hy' => hy y (List.mem_cons_of_mem _ hy'), ⟨k + 1, ?_⟩, rfl⟩⟩)
    exact (List.replicate_succ' ..).symm
theorem strs_all : ∀ ws : List (List Nat), strsD (ws.map D.str) = some ws
  | [] => rfl
  | w :: ws => by simp [strsD, strs_all ws]
theorem sum_le {u : Nat} : ∀ {ws : List (List Nat)}, (∀ w ∈ ws, w.length ≤ u) → (ws.map List.length).sum ≤ ws.length * u
  | [], _ => by simp
  | w :: ws, h => by
    have := sum_le (ws := ws) fun x hx => h x (List.mem_cons_of_mem _ hx)
    have := h w (List.mem_cons_self ..)
    simp [Nat.add_mul]
    omega
theorem text_ok {t : D} (hj : 50 ≤ j) (ht : PrOk t) (hn : n + 340000 < 2 ^ 33) (g : PS p n h0 h) (q : ∀ s h', TxOk s 8000000 → PS p (n + 340000) h0 h' → Fr [p] h h' → Q (.str s) h') : wpC (CC j) 34 [t] h Q := by
  refine up (by omega) fun k' hk' => call_ok (fn := f__law_text_of) rfl rfl ?_
  show wSl _ _ b__law_text_of [some t] h _
  simp [b__law_text_of, hasM]
  refine tree_ok (h0 := h0) (p := p) (n := n) (by omega) ht (.inl rfl) (by omega) g fun x h1 w1 g1 f1 => ?_
  obtain ⟨a, ws, rfl, ea, r2, r3⟩ := w1
  have hs := sum_le (u := 12) fun w hw => (word_len (r3 w hw)).2
  have hjl := join_len (ws := ws)
  have hlim : (ws.map List.length).sum + ws.length * 1 ≤ LIM := by unfold LIM; omega
  show Wp (bmethod .join (.str [32]) [.ref a] h1) Q
  simp only [bmethod, seqOf, ea, strs_all, List.length_singleton]
  rw [if_pos hlim]
  refine q _ h1 ⟨fun c hc => ?_, by omega, join_nb r3⟩ g1 f1
  rcases join_mem hc with rfl | ⟨w, hw, hc⟩
  · decide
  · exact word_128 (r3 w hw) c hc
def SPO : List (List Nat) := [[95], [33], [61], [58], [60], [62], [9], [48], [49, 50], [35], [10], [32], [97], [90, 57], [44], [46], [120, 120, 120, 120, 120, 120, 120, 120, 120, 120, 120, 120, 120], [49, 49, 49, 49, 49, 49, 49, 49, 49, 49, 49, 49, 49], [48, 48, 55], [45], [123], [45, 62], [57, 57, 57, 57, 57, 57, 57, 57, 57, 57, 57, 57], [98, 98, 98, 98, 98, 98, 98, 98, 98, 98, 98, 98], [60, 61], [124], [60, 61, 61]]
theorem spo_ok : ∀ w ∈ SPO, (∀ c ∈ w, c < 128) ∧ w.length ≤ 13 := by decide
theorem sl_take {s : List Nat} {x : Nat} (hl : s.length ≤ LIM) : Wp (slice (.str s) none (some (x : Int)) h) Q = Q (.str (s.take x)) h := by
  have e : cut s none (some (x : Int)) = s.take x := by
    simp [cut, sIx]
    rw [if_neg (by omega)]
    omega
  simp [slice, hl, e]
theorem sl_drop {s : List Nat} {x : Nat} (hl : s.length ≤ LIM) : Wp (slice (.str s) (some (x : Int)) none h) Q = Q (.str (s.drop x)) h := by
  have e : cut s (some (x : Int)) none = s.drop x := by
    simp [cut, sIx]
    rw [if_neg (by omega)]
    by_cases hx : x ≤ s.length
    · rw [Nat.min_eq_left hx, List.take_of_length_le (by simp)]
    · rw [Nat.min_eq_right (by omega)]
      simp
      omega
  simp [slice, hl, e]
theorem spoilt_ok {s : List Nat} (hj : 4 ≤ j) (hn : n + 10 < 2 ^ 33) (h128 : ∀ c ∈ s, c < 128) (hl : s.length ≤ m) (hm : m ≤ 9000000) (g : PS p n h0 h) (q : ∀ s' h', (∀ c ∈ s', c < 128) → s'.length ≤ m + 13 → PS p (n + 10) h0 h' → Fr [p] h h' → Q (.str s') h') : wpC (CC j) 38 [.ref p, .str s] h Q := by
  refine up (by omega) fun k' hk' => call_ok (fn := f__law_spoilt) rfl rfl ?_
  show wSl _ _ b__law_spoilt [some (.ref p), some (.str s), none, none, none] h _
  have g0 : PS p n h h := ⟨.refl, g.pen⟩
  have hs : s.length ≤ LIM := by unfold LIM; omega
  simp [b__law_spoilt]
  refine ⟨hs, ?_⟩
  rw [show ((s.length : Int) + 1) = ((s.length + 1 : Nat) : Int) by omega]
  refine p_draw (h0 := h) (many := s.length + 1) (by omega) (by omega) (by omega) (by omega) g0 fun x hx h1 f1 g1 => ?_
  refine p_draw (h0 := h) (many := 4) (by omega) (by omega) (by omega) (by omega) g1 fun y hy h2 f2 g2 => ?_
  refine ⟨_, rfl, _, rfl, by decide, ?_⟩
  refine p_pickN (h0 := h) (by omega) (by omega) (by simp) (by simp) g2 fun d hd h3 f3 g3 => ?_
  have hd' : d ∈ SPO.map D.str := by simpa [SPO] using hd
  obtain ⟨w, hw, rfl⟩ := List.mem_map.mp hd'
  obtain ⟨hw1, hw2⟩ := spo_ok w hw
  have fin : ∀ s', (∀ c ∈ s', c < 128) → s'.length ≤ m + 13 → Q (.str s') h3 := fun s' a b => q s' h3 a b ⟨g.fr.trans g3.fr, g3.pen.mono (by omega)⟩ g3.fr
  have ht : ∀ c ∈ s.take x, c < 128 := fun c hc => h128 c (List.mem_of_mem_take hc)
  have hdr : ∀ {x : Nat}, ∀ c ∈ s.drop x, c < 128 := fun c hc => h128 c (List.mem_of_mem_drop hc)
  simp [sl_take hs]
  rw [show ((x : Int) + 1) = ((x + 1 : Nat) : Int) by omega, sl_drop hs, sl_drop hs, sl_drop hs]
  simp
  have app : ∀ {a b c : List Nat}, (∀ z ∈ a, z < 128) → (∀ z ∈ b, z < 128) → (∀ z ∈ c, z < 128) → ∀ z ∈ a ++ (b ++ c), z < 128 := fun h1 h2 h3 z hz => (List.mem_append.mp hz).elim (h1 z) fun hz => (List.mem_append.mp hz).elim (h2 z) (h3 z)
  have l16 : (9000100 : Nat) ≤ LIM := by decide
  by_cases y0 : y = 0
  · refine .inr ⟨y0, by omega, fin _ ?_ (by simp; omega)⟩
    have := app (b := []) ht (by simp) (hdr (x := x + 1))
    simpa using this
  · refine .inl ⟨y0, ?_⟩
    by_cases y1 : y = 1
    · exact .inr ⟨by omega, by omega, by omega, fin _ (app ht hw1 hdr) (by simp; omega)⟩
    · exact .inl ⟨by omega, by omega, by omega, fin _ (app ht hw1 hdr) (by simp; omega)⟩
end
end K44
end

section
set_option autoImplicit false
set_option linter.all false
set_option Elab.async false
set_option maxRecDepth 100000
set_option maxHeartbeats 4000000
namespace K44
open Ev
section
variable {p n m j : Nat} {h0 h : Hx} {d : D} {Q : D → Hx → Prop}
/-- one text: told twice -/
theorem twice_ok {k' : Nat} {s : List Nat} {Q : Bool → Hx → Prop} (hk : 6 ≤ k') (h128 : ∀ c ∈ s, c < 128) (hl : s.length ≤ 9000000) (q : ∀ h', Fr [] h h' → Q true h') :
    wpC (CC k') 37 [.str s] h fun x h1 => Wp (builtin .tuple [x] h1) fun y h2 => ∃ b, eqD h2 (.tup (scan s)) y = some b ∧ Q b h2 := by
  obtain ⟨k2, rfl⟩ : ∃ k2, k' = k2 + 1 := ⟨k' - 1, by omega⟩
  have gs : goodStr s = true := good_128 h128 hl (by decide)
  have ga : s.all goodSign = true := by
    unfold goodStr at gs
    simp only [Bool.and_eq_true] at gs
    exact gs.1
  refine law_words_ok ga (by unfold LIM; omega) fun a h1 f1 e1 => ?_
  rw [wf_tupL e1]
  exact ⟨true, scan_same gs, q h1 f1⟩
theorem one_ok {k' : Nat} {s : List Nat} (hk : 6 ≤ k') (h128 : ∀ c ∈ s, c < 128) (hl : s.length ≤ 9000000) (q : ∀ h', Fr [] h h' → Q (.tup (scan s)) h') : wpC (CC k') 5 [.str s] h Q := by
  obtain ⟨k2, rfl⟩ : ∃ k2, k' = k2 + 5 := ⟨k' - 5, by omega⟩
  have gs : goodStr s = true := good_128 h128 hl (by decide)
  have ga : s.all goodSign = true := by
    unfold goodStr at gs
    simp only [Bool.and_eq_true] at gs
    exact gs.1
  exact words_of_ok ga (by unfold LIM; omega) q
theorem three {s : List Nat} {R R' : D → Hx → Prop} {K : D → Hx → Prop} (h128 : ∀ c ∈ s, c < 128) (hl : s.length ≤ 9000000) (q : ∀ h', Fr [] h h' → K (.tup (scan s)) h') :
    wpC (CC 99) 5 [.str s] h fun d1 h2 => wpC (CC 99) 37 [.str s] h2 fun x h3 => Wp (builtin .tuple [x] h3) fun y h4 => (eqD h4 d1 y = some true ∧ wpC (CC 99) 39 [d1] h4 fun x h5 => (truth h5 x = some false ∧ R d1 h5) ∨ (truth h5 x = some true ∧ K d1 h5)) ∨ (eqD h4 d1 y = some false ∧ R' d1 h4) := by
  have gs : goodStr s = true := good_128 h128 hl (by decide)
  have ga : s.all goodSign = true := by
    unfold goodStr at gs
    simp only [Bool.and_eq_true] at gs
    exact gs.1
  refine one_ok (by omega) h128 hl fun h1 f1 => ?_
  refine law_words_ok (k := 98) ga (by unfold LIM; omega) fun a h2 f2 e2 => ?_
  rw [wf_tupL e2]
  refine .inl ⟨scan_same gs, told_ok (by omega) ?_ (scan_tok gs) fun h3 f3 => .inr ⟨rfl, q h3 ((f1.trans f2).trans f3)⟩⟩
  have := scan_len s
  unfold LIM
  omega
theorem changes {sc t : D} {x3 x5 x6 : Option D} {s : List Nat} {P : Post} (h128 : ∀ c ∈ s, c < 128) (hl : s.length ≤ 8000000) (hn : n + 100 < 2 ^ 33) (g : PS p n h0 h) (q : ∀ x4 x5 x6 h', PS p (n + 100) h0 h' → P.nx [some sc, some (.ref p), some t, x3, x4, x5, x6, none, none, none] h') :
    wS (CC 99) FUEL (.for_ (.nm 6) (.rng1 (.int 3)) (.cons (.asg (.nm 4) (.call 38 (.cons (.var 1) (.cons (.var 4) .nil)))) (.cons (.asg (.nm 5) (.call 5 (.cons (.var 4) .nil))) (.cons (.iff (.or_ (.cmp .ne (.var 5) (.bf .tuple (.cons (.call 37 (.cons (.var 4) .nil)) .nil))) (.not_ (.call 39 (.cons (.var 5) .nil)))) (.cons (.ret (.bl false)) .nil) .nil) .nil)))) [some sc, some (.ref p), some t, x3, some (.str s), x5, x6, none, none, none] h P := by
  refine for_ok (Q := fun w1 h1 => w1 = (rngD 0 3, .none) ∧ h1 = h) ?_ (fun xs st h' => ∃ (i : Nat) (s : List Nat) (x5 x6 : Option D), xs = (rngD 0 3).drop i ∧ i ≤ 3 ∧ st = [some sc, some (.ref p), some t, x3, some (.str s), x5, x6, none, none, none] ∧ (∀ c ∈ s, c < 128) ∧ s.length ≤ 8000000 + i * 13 ∧ PS p (n + i * 10) h0 h') ?_
  · simp
  · rintro w1 h1 ⟨rfl, rfl⟩
    refine ⟨⟨0, s, _, _, rfl, by omega, rfl, h128, by simpa using hl, by simpa using g⟩, fun _ _ _ _ => rfl, ?_, ?_⟩
    · rintro st h2 ⟨i, s, x5, x6, hx, hi, rfl, h128, hl, g2⟩
      exact q _ _ _ _ (g2.up (by omega))
    · rintro y xs st h2 ⟨i, s, x5, x6, hx, hi, rfl, h128, hl, g2⟩
      obtain ⟨hlt, rfl, rfl⟩ := rng_take hx
      simp
      refine spoilt_ok (by omega) (by omega) h128 hl (by omega) g2 fun s' h3 a3 l3 g3 f3 => ?_
      refine three a3 (by omega) fun h4 f4 => ?_
      exact ⟨i + 1, rfl, hlt, s', rfl, a3, by omega, (g3.same f4).up (by omega)⟩
theorem law_laps {sc t : D} {P : Post} (ht : PrOk t) (hn : n + 10000000 < 2 ^ 33) (g : PS p n h h) (q : ∀ x3 x4 x5 x6 h', PS p (n + 8000000) h h' → P.nx [some sc, some (.ref p), some t, x3, x4, x5, x6, none, none, none] h') :
    wS (CC 99) FUEL (nthS b_law 2) [some sc, some (.ref p), some t, none, none, none, none, none, none, none] h P := by
  simp [b_law, nthS]
  refine for_ok (Q := fun w1 h1 => w1 = (rngD 0 4, .none) ∧ h1 = h) ?_ (fun xs st h' => ∃ (i : Nat) (x3 x4 x5 x6 : Option D), xs = (rngD 0 4).drop i ∧ i ≤ 4 ∧ st = [some sc, some (.ref p), some t, x3, x4, x5, x6, none, none, none] ∧ PS p (n + i * 2000000) h h') ?_
  · simp
  · rintro w1 h1 ⟨rfl, rfl⟩
    refine ⟨⟨0, none, none, none, none, rfl, by omega, rfl, by simpa using g⟩, fun _ _ _ _ => rfl, ?_, ?_⟩
    · rintro st h2 ⟨i, x3, x4, x5, x6, hx, hi, rfl, g2⟩
      exact q _ _ _ _ _ (g2.up (by omega))
    · rintro y xs st h2 ⟨i, x3, x4, x5, x6, hx, hi, rfl, g2⟩
      obtain ⟨hlt, rfl, rfl⟩ := rng_take hx
      have last : ∀ {s : List Nat} {h' : Hx}, NB s → ∃ c d, getIx (.tup (scan s)) (.int (-1)) h' = some (tokD t_end [] c d) := fun {s h'} nb => by
        obtain ⟨toks, c, d, e⟩ := nb 0 0
        refine ⟨c, d, ?_⟩
        show atD (scan s) (-1) = _
        unfold scan
        rw [e]
        have e2 : ixOf (toks ++ [tokD t_end [] c d]).length (-1) = some toks.length := by
          simp [ixOf]
          omega
        simp only [atD, e2]
        simp
      have te : goodStr [101, 110, 100] = true := by decide
      simp
      by_cases h0 : i = 0
      · refine .inl ⟨h0, text_ok (by omega) ht (by omega) g2 fun s h3 tx g3 f3 => three tx.1 (by have := tx.2.1; omega) fun h4 f4 => ?_⟩
        obtain ⟨c, d, e⟩ := last (h' := h4) tx.2.2
        refine ⟨_, e, .str t_end, rfl, .inl ⟨by rw [eqs, show t_end = [101, 110, 100] from rfl, te]; simp, changes tx.1 tx.2.1 (by omega) (g3.same f4) fun x4 x5 x6 h5 g5 => ⟨i + 1, rfl, hlt, ⟨_, _, _, _, rfl⟩, g5.up (by omega)⟩⟩⟩
      · refine .inr ⟨by omega, loose_ok (by omega) ht (by omega) g2 fun s h3 tx g3 f3 => three tx.1 (by have := tx.2.1; omega) fun h4 f4 => ?_⟩
        obtain ⟨c, d, e⟩ := last (h' := h4) tx.2.2
        refine ⟨_, e, .str t_end, rfl, .inl ⟨by rw [eqs, show t_end = [101, 110, 100] from rfl, te]; simp, changes tx.1 tx.2.1 (by omega) (g3.same f4) fun x4 x5 x6 h5 g5 => ⟨i + 1, rfl, hlt, ⟨_, _, _, _, rfl⟩, g5.up (by omega)⟩⟩⟩
theorem pen_ok {k : Nat} {ns : List Int} {Q : D → Hx → Prop} (hl : ns.length ≤ 63) (q : ∀ p h', PenOk p 0 h' → Q (.ref p) h') : wpC (CC (k + 1)) 6 [.fro (ns.map .int)] [] Q := by
  refine call_ok (fn := f__law_pen) rfl rfl ?_
  show wSl _ _ b__law_pen [some (.fro (ns.map .int)), none, none] [] _
  simp [b__law_pen]
  refine for_ok (Q := fun w1 h1 => w1 = (ns.map .int, .none) ∧ h1 = []) ?_ (fun xs st h' => ∃ (i fo : Nat) (x2 : Option D), xs = (ns.map D.int).drop i ∧ st = [some (.fro (ns.map .int)), some (.int fo), x2] ∧ fo < 1000000009 ∧ h' = []) ?_
  · simp
    rfl
  · rintro w1 h1 ⟨rfl, rfl⟩
    refine ⟨⟨0, 0, _, rfl, rfl, by omega, rfl⟩, fun _ _ _ _ => rfl, ?_, ?_⟩
    · rintro st h2 ⟨i, fo, x2, hx, rfl, hf, rfl⟩
      simp
      refine ⟨?_, q 1 _ ⟨0, 0, 0, 0, fo, ns, rfl, rfl, by omega, by omega, by omega, by omega, by omega⟩⟩
      rintro a b (⟨rfl, _⟩ | ⟨rfl, _⟩ | ⟨rfl, _⟩ | ⟨rfl, _⟩ | ⟨rfl, _⟩) <;> decide
    · rintro y xs st h2 ⟨i, fo, x2, hx, rfl, hf, rfl⟩
      have hlt : i < ns.length := by
        have := congrArg List.length hx
        simp at this; omega
      rw [List.drop_eq_getElem_cons (by simpa using hlt)] at hx
      obtain ⟨rfl, rfl⟩ := List.cons.inj hx
      simp
      refine ⟨by simp [mulOk], ⟨i + 1, rfl⟩, ((fo * 59 + ns[i]) % 1000000009 : Int).toNat, ?_, ?_⟩
      · have := Int.emod_nonneg ((fo : Int) * 59 + ns[i]) (show (1000000009 : Int) ≠ 0 by omega)
        omega
      · have := Int.emod_lt_of_pos ((fo : Int) * 59 + ns[i]) (show (0 : Int) < 1000000009 by omega)
        have := Int.emod_nonneg ((fo : Int) * 59 + ns[i]) (show (1000000009 : Int) ≠ 0 by omega)
        omega
theorem b_law_ : b_law = .cons (nthS b_law 0) (.cons (nthS b_law 1) (.cons (nthS b_law 2) (.cons (nthS b_law 3) (.cons (nthS b_law 4) (.cons (nthS b_law 5) (dropS b_law 6)))))) := rfl
def ROWW : List (List Nat) := [[97], [98], [95], [48], [57], [32], [123], [125], [40], [41], [58], [59], [44], [43], [45], [42], [47], [61], [60], [62], [124], [35], [10], [46], [105, 102], [102, 117, 110], [105, 110]]
theorem roww_ok : ∀ w ∈ ROWW, (∀ c ∈ w, c < 128) ∧ w.length ≤ 3 := by decide
theorem join0_mem {c : Nat} : ∀ {ws : List (List Nat)}, c ∈ joinS [] ws → ∃ w ∈ ws, c ∈ w
  | [], h => by simp [joinS] at h
  | [w], h => ⟨w, by simp, by simpa [joinS] using h⟩
  | w :: v :: r, h => by
    simp only [joinS, List.mem_append] at h
    rcases h with (h | h) | h
    · exact ⟨w, by simp, h⟩
    · simp at h
    · obtain ⟨x, hx, h⟩ := join0_mem h
      exact ⟨x, List.mem_cons_of_mem _ hx, h⟩
theorem join0_len : ∀ {ws : List (List Nat)}, (joinS [] ws).length ≤ (ws.map List.length).sum
  | [] => by simp [joinS]
  | [w] => by simp [joinS]
  | w :: v :: r => by
    have := join0_len (ws := v :: r)
    simp [joinS] at this ⊢
    omega
theorem law_row {sc t : D} {x3 x4 x5 x6 : Option D} {P : Post} (hn : n + 100 < 2 ^ 33) (g : PS p n h h) (q : ∀ s h', (∀ c ∈ s, c < 128) → s.length ≤ 9000000 → P.nx [some sc, some (.ref p), some t, x3, x4, x5, x6, some (.str s), none, none] h') :
    wS (CC 99) FUEL (nthS b_law 3) [some sc, some (.ref p), some t, x3, x4, x5, x6, none, none, none] h P := by
  simp [b_law, nthS, hasM]
  refine lc_ok (QI := fun w h1 => ∃ m : Nat, m < 30 ∧ w = (rngD 0 m, .none) ∧ PS p (n + 1) h h1) ?_ (fun acc xs h' => ∃ ws : List (List Nat), acc = ws.map .str ∧ acc.length + xs.length ≤ 30 ∧ (∀ w ∈ ws, w ∈ ROWW) ∧ PS p (n + 1 + acc.length) h h') ?_
  · simp
    refine p_draw (h0 := h) (many := 30) (by omega) (by omega) (by omega) (by omega) g fun x hx h1 f1 g1 => ?_
    exact ⟨x, rfl, ⟨by omega, by omega⟩, x, hx, rfl, g1⟩
  · rintro w1 h1 ⟨m, hm, rfl, g1⟩
    refine ⟨⟨[], rfl, by simp [rngD]; omega, by simp, by simpa using g1⟩, fun _ _ _ _ => rfl, ?_, ?_⟩
    · rintro acc h2 ⟨ws, rfl, hl, hw, g2⟩
      simp at hl
      show Wp (bmethod .join (.str []) [.ref h2.length] _) _
      have hs := sum_le (u := 3) fun w hw' => (roww_ok w (hw w hw')).2
      have hlim : (ws.map List.length).sum + ws.length * 0 ≤ LIM := by unfold LIM; omega
      simp only [bmethod, seqOf, get_app1, strs_all, List.length_nil]
      rw [if_pos hlim]
      refine q _ _ (fun c hc => ?_) ?_
      · obtain ⟨w, hw', hc⟩ := join0_mem hc
        exact (roww_ok w (hw w hw')).1 c hc
      · have := join0_len (ws := ws)
        omega
    · rintro acc y xs h2 ⟨ws, rfl, hl, hw, g2⟩
      simp at hl
      refine ⟨by simp; unfold LIM; omega, ?_⟩
      simp [wipeD]
      refine ⟨by decide, ?_⟩
      rw [wb_lst (i := [D.str [97], D.str [98], D.str [95], D.str [48], D.str [57], D.str [32], D.str [123], D.str [125], D.str [40], D.str [41], D.str [58], D.str [59], D.str [44], D.str [43], D.str [45], D.str [42], D.str [47], D.str [61], D.str [60], D.str [62], D.str [124], D.str [35], D.str [10], D.str [46]]) (j := [D.str [105, 102], D.str [102, 117, 110], D.str [105, 110]]) (by simp) (by simp)]
      refine ⟨by decide, ?_⟩
      refine p_pickN (h0 := h) (by omega) (by simp; omega) (by simp) (by simp) g2.app fun d hd h3 f3 g3 => ?_
      have hd' : d ∈ ROWW.map D.str := by simpa [ROWW] using hd
      obtain ⟨w, hw', rfl⟩ := List.mem_map.mp hd'
      refine ⟨ws ++ [w], by simp, by omega, ?_, by simpa [Nat.add_assoc] using g3⟩
      intro z hz
      rcases List.mem_append.mp hz with hz | hz
      · exact hw z hz
      · simp at hz
        subst hz
        exact hw'
theorem law_odd {sc t : D} {x3 x4 x5 x6 x7 : Option D} {P : Post} (q : ∀ x8 h', P.nx [some sc, some (.ref p), some t, x3, x4, x5, x6, x7, x8, none] h') :
    wS (CC 99) FUEL (nthS b_law 5) [some sc, some (.ref p), some t, x3, x4, x5, x6, x7, none, none] h P := by
  simp [b_law, nthS]
  obtain ⟨w0, h1, ⟨a, xs, rfl, ea, hx⟩, hdet⟩ := wpI_det (C := CC 99) (it := .seq (.lst (.cons .non (.cons (.int 5) (.cons (.bl true) (.cons (.lst (.cons (.str [97]) .nil)) (.cons (.tup (.cons (.str [97]) .nil)) (.cons (.dct (.cons (.str [97]) (.int 1) .nil)) .nil)))))))) (s := [some sc, some (.ref p), some t, x3, x4, x5, x6, x7, none, none]) (h := h) (Q := fun w1 h1 => ∃ (a : Nat) (xs : List D), w1 = (xs, .at_ a xs) ∧ h1[a]? = some (.lst xs) ∧ ∀ d ∈ xs, known h1 d = true ∧ isOf h1 (fun _ _ => false) d .str = false) (by
    simp [walkOf]
    refine ⟨by decide, _, _, ⟨rfl, rfl⟩, _, _, ⟨rfl, rfl⟩, by rw [show h.length + 1 + 1 = h.length + 2 from rfl, List.getElem?_append_right (by omega), Nat.add_sub_cancel_left]; rfl, ?_⟩
    intro d hd
    simp at hd
    rcases hd with rfl | rfl | rfl | rfl | rfl | rfl <;> simp [known, isOf])
  refine for_ok hdet (fun ys st h' => h' = h1 ∧ (∀ d ∈ ys, d ∈ xs) ∧ ∃ x8, st = [some sc, some (.ref p), some t, x3, x4, x5, x6, x7, x8, none]) ?_
  rintro w1 h2 ⟨rfl, rfl⟩
  refine ⟨⟨rfl, fun d hd => hd, _, rfl⟩, ?_, ?_, ?_⟩
  · rintro ys st h3 ⟨rfl, _⟩
    simp [Src.ok, ea]
  · rintro st h3 ⟨rfl, _, x8, rfl⟩
    exact q _ _
  · rintro y ys st h3 ⟨rfl, hy, x8, rfl⟩
    obtain ⟨k1, k2⟩ := hx y (hy y (List.mem_cons_self ..))
    simp
    refine words_of_not (k := 98) k1 k2 ?_
    have e : eqD h3 (.tup [tokD t_bad [116, 101, 120, 116] 0 0]) (.tup [tokD t_bad [116, 101, 120, 116] 0 0]) = some true :=
      eq_same ((TP.tup (n := 50) fun x hx => by
        simp at hx
        subst hx
        exact TokOk.tp ⟨_, _, _, _, rfl, by decide, by decide⟩).le (by omega))
    exact .inl ⟨e, rfl, fun d hd => hy d (List.mem_cons_of_mem _ hd)⟩
theorem law_end {s : Sx} {P : Post} (q : ∀ h', P.rt (.bl true) h') : wSl (CC 99) FUEL (dropS b_law 6) s h P := by
  have e1 : scan [] = [.tup [.str [101, 110, 100], .str [], .int 0, .int 0]] := rfl
  have e2 : scan [97, 10, 32, 35, 32, 98] = [.tup [.str [110, 97, 109, 101], .str [97], .int 0, .int 0], .tup [.str [101, 110, 100], .str [], .int 1, .int 4]] := rfl
  have e3 : scan [120, 45, 62, 48] = [.tup [.str [110, 97, 109, 101], .str [120], .int 0, .int 0], .tup [.str [115, 105, 103, 110], .str [45, 62], .int 0, .int 1], .tup [.str [110, 117, 109, 98, 101, 114], .str [48], .int 0, .int 3], .tup [.str [101, 110, 100], .str [], .int 0, .int 4]] := rfl
  have s1 : ∀ {H : Hx}, eqD H (.tup (scan [])) (.tup (scan [])) = some true := scan_same (by decide)
  have s2 : ∀ {H : Hx}, eqD H (.tup (scan [97, 10, 32, 35, 32, 98])) (.tup (scan [97, 10, 32, 35, 32, 98])) = some true := scan_same (by decide)
  have s3 : ∀ {H : Hx}, eqD H (.tup (scan [120, 45, 62, 48])) (.tup (scan [120, 45, 62, 48])) = some true := scan_same (by decide)
  rw [e1] at s1
  rw [e2] at s2
  rw [e3] at s3
  simp [b_law, dropS, tr_bl]
  refine one_ok (by omega) (by simp) (by simp) fun h1 f1 => ?_
  rw [e1]
  refine .inr ⟨s1, one_ok (by omega) (by decide) (by simp) fun h2 f2 => ?_⟩
  rw [e2]
  refine .inr ⟨s2, one_ok (by omega) (by decide) (by simp) fun h3 f3 => ?_⟩
  rw [e3]
  exact .inr ⟨s3, q h3⟩
theorem law_true {ns : List Int} (hl : ns.length ≤ 63) : wpC (CC 100) 40 [.fro (ns.map .int)] [] fun d _ => d = .bl true := by
  refine call_ok (k := 99) (fn := f_law) rfl rfl ?_
  show wSl _ _ b_law [some (.fro (ns.map .int)), none, none, none, none, none, none, none, none, none] [] _
  rw [b_law_]
  obtain ⟨S2, h2⟩ : ∃ S, S = nthS b_law 2 := ⟨_, rfl⟩
  obtain ⟨S3, h3⟩ : ∃ S, S = nthS b_law 3 := ⟨_, rfl⟩
  obtain ⟨S5, h5⟩ : ∃ S, S = nthS b_law 5 := ⟨_, rfl⟩
  obtain ⟨S6, h6⟩ : ∃ S, S = dropS b_law 6 := ⟨_, rfl⟩
  rw [← h2, ← h3, ← h5, ← h6]
  simp [nthS, b_law]
  refine pen_ok (k := 98) hl fun p h1 o1 => ?_
  refine program_ok (h0 := h1) (n := 0) (by omega) (by omega) ⟨.refl, o1⟩ fun t h2' ht f2 g2 => ?_
  rw [h2]
  have g3 : PS p 20000 h2' h2' := ⟨.refl, g2.pen⟩
  refine law_laps ht (by omega) g3 fun x3 x4 x5 x6 h4 g4 => ?_
  rw [h3]
  have g5 : PS p 8020000 h4 h4 := ⟨.refl, g4.pen⟩
  refine law_row (by omega) g5 fun s h6' a6 l6 => ?_
  have gs : goodStr s = true := good_128 a6 l6 (by decide)
  have ga : s.all goodSign = true := by
    unfold goodStr at gs
    simp only [Bool.and_eq_true] at gs
    exact gs.1
  simp
  refine one_ok (by omega) a6 l6 fun h7 f7 => ?_
  refine law_words_ok (k := 98) ga (by unfold LIM; omega) fun a h8 f8 e8 => ?_
  rw [wf_tupL e8]
  refine ⟨scan_same gs, ?_⟩
  rw [h5]
  refine law_odd fun x8 h9 => ?_
  rw [h6]
  exact law_end fun h' => rfl
theorem law_runs {ns : List Int} (hl : ns.length ≤ 63) : ∃ h, evCall fns FUEL 100 40 [.fro (ns.map .int)] [] = .ok (.bl true) h := by
  obtain ⟨d, h, e, rfl⟩ := Wp.eq (law_true hl)
  exact ⟨h, e⟩
end
end K44
end

set_option autoImplicit false
set_option Elab.async false
set_option linter.all false
set_option maxRecDepth 100000
set_option maxHeartbeats 0
namespace K44
open PySem PySem.Spec PyProof.Rows L2 Ev
abbrev R : PySem.W.OpenRow := PySem.W.OpenLaw.row PySem.Challenge.rw_paidsteps_k44_words_of_texts
def top (i : Nat) : Stmt := R.prog.main.body.getD i (.Pass ⟨0, 0, 0, 0⟩)
def LVL : Nat := 100
end K44
namespace K44
open PySem PySem.Spec PyProof.Rows L2 Ev
def e_row_end : Ent := ⟨(PySem.Str.ofString "row_end"), (PySem.Str.ofString "row_end"), (defArgs (top 8)).args, defBody (top 8), defScope (top 8), [(PySem.Str.ofString "line"), (PySem.Str.ofString "at"), (PySem.Str.ofString "signs"), (PySem.Str.ofString "end")], f_row_end⟩
def e_letter_word : Ent := ⟨(PySem.Str.ofString "letter_word"), (PySem.Str.ofString "letter_word"), (defArgs (top 9)).args, defBody (top 9), defScope (top 9), [(PySem.Str.ofString "line"), (PySem.Str.ofString "at"), (PySem.Str.ofString "letters")], f_letter_word⟩
def e_figure_word : Ent := ⟨(PySem.Str.ofString "figure_word"), (PySem.Str.ofString "figure_word"), (defArgs (top 10)).args, defBody (top 10), defScope (top 10), [(PySem.Str.ofString "line"), (PySem.Str.ofString "at"), (PySem.Str.ofString "figures")], f_figure_word⟩
def e_word_from : Ent := ⟨(PySem.Str.ofString "word_from"), (PySem.Str.ofString "word_from"), (defArgs (top 11)).args, defBody (top 11), defScope (top 11), [(PySem.Str.ofString "line"), (PySem.Str.ofString "at")], f_word_from⟩
def e_words_in : Ent := ⟨(PySem.Str.ofString "words_in"), (PySem.Str.ofString "words_in"), (defArgs (top 12)).args, defBody (top 12), defScope (top 12), [(PySem.Str.ofString "text"), (PySem.Str.ofString "found"), (PySem.Str.ofString "lines"), (PySem.Str.ofString "number"), (PySem.Str.ofString "line"), (PySem.Str.ofString "at"), (PySem.Str.ofString "sort"), (PySem.Str.ofString "letters")], f_words_in⟩
def e_words_of : Ent := ⟨(PySem.Str.ofString "words_of"), (PySem.Str.ofString "words_of"), (defArgs (top 13)).args, defBody (top 13), defScope (top 13), [(PySem.Str.ofString "text")], f_words_of⟩
def e__law_pen : Ent := ⟨(PySem.Str.ofString "_law_pen"), (PySem.Str.ofString "_law_pen"), (defArgs (top 15)).args, defBody (top 15), defScope (top 15), [(PySem.Str.ofString "script"), (PySem.Str.ofString "fold"), (PySem.Str.ofString "cell")], f__law_pen⟩
def e__law_draw : Ent := ⟨(PySem.Str.ofString "_law_draw"), (PySem.Str.ofString "_law_draw"), (defArgs (top 16)).args, defBody (top 16), defScope (top 16), [(PySem.Str.ofString "pen"), (PySem.Str.ofString "many"), (PySem.Str.ofString "cell"), (PySem.Str.ofString "digit"), (PySem.Str.ofString "blend")], f__law_draw⟩
def e__law_pick : Ent := ⟨(PySem.Str.ofString "_law_pick"), (PySem.Str.ofString "_law_pick"), (defArgs (top 17)).args, defBody (top 17), defScope (top 17), [(PySem.Str.ofString "pen"), (PySem.Str.ofString "some")], f__law_pick⟩
def e__law_is_int : Ent := ⟨(PySem.Str.ofString "_law_is_int"), (PySem.Str.ofString "_law_is_int"), (defArgs (top 18)).args, defBody (top 18), defScope (top 18), [(PySem.Str.ofString "thing")], f__law_is_int⟩
def e__law_fares : Ent := ⟨(PySem.Str.ofString "_law_fares"), (PySem.Str.ofString "_law_fares"), (defArgs (top 19)).args, defBody (top 19), defScope (top 19), [(PySem.Str.ofString "pen"), (PySem.Str.ofString "some"), (PySem.Str.ofString "first"), (PySem.Str.ofString "sort")], f__law_fares⟩
def e__law_new_name : Ent := ⟨(PySem.Str.ofString "_law_new_name"), (PySem.Str.ofString "_law_new_name"), (defArgs (top 20)).args, defBody (top 20), defScope (top 20), [(PySem.Str.ofString "room")], f__law_new_name⟩
def e__law_of_kind : Ent := ⟨(PySem.Str.ofString "_law_of_kind"), (PySem.Str.ofString "_law_of_kind"), (defArgs (top 21)).args, defBody (top 21), defScope (top 21), [(PySem.Str.ofString "scope"), (PySem.Str.ofString "kind"), (PySem.Str.ofString "name"), (PySem.Str.ofString "own")], f__law_of_kind⟩
def e__law_whole_number : Ent := ⟨(PySem.Str.ofString "_law_whole_number"), (PySem.Str.ofString "_law_whole_number"), (defArgs (top 22)).args, defBody (top 22), defScope (top 22), [(PySem.Str.ofString "pen")], f__law_whole_number⟩
def e__law_leaf : Ent := ⟨(PySem.Str.ofString "_law_leaf"), (PySem.Str.ofString "_law_leaf"), (defArgs (top 23)).args, defBody (top 23), defScope (top 23), [(PySem.Str.ofString "pen"), (PySem.Str.ofString "kind"), (PySem.Str.ofString "scope"), (PySem.Str.ofString "known")], f__law_leaf⟩
def e__law_small_kind : Ent := ⟨(PySem.Str.ofString "_law_small_kind"), (PySem.Str.ofString "_law_small_kind"), (defArgs (top 24)).args, defBody (top 24), defScope (top 24), [(PySem.Str.ofString "pen")], f__law_small_kind⟩
def e__law_expr : Ent := ⟨(PySem.Str.ofString "_law_expr"), (PySem.Str.ofString "_law_expr"), (defArgs (top 25)).args, defBody (top 25), defScope (top 25), [(PySem.Str.ofString "pen"), (PySem.Str.ofString "kind"), (PySem.Str.ofString "scope"), (PySem.Str.ofString "functions"), (PySem.Str.ofString "room"), (PySem.Str.ofString "depth"), (PySem.Str.ofString "way"), (PySem.Str.ofString "own"), (PySem.Str.ofString "first"), (PySem.Str.ofString "name"), (PySem.Str.ofString "parts"), (PySem.Str.ofString "able"), (PySem.Str.ofString "kinds"), (PySem.Str.ofString "told"), (PySem.Str.ofString "row")], f__law_expr⟩
def e__law_taken_apart : Ent := ⟨(PySem.Str.ofString "_law_taken_apart"), (PySem.Str.ofString "_law_taken_apart"), (defArgs (top 26)).args, defBody (top 26), defScope (top 26), [(PySem.Str.ofString "pen"), (PySem.Str.ofString "kind"), (PySem.Str.ofString "scope"), (PySem.Str.ofString "functions"), (PySem.Str.ofString "room"), (PySem.Str.ofString "depth"), (PySem.Str.ofString "lists"), (PySem.Str.ofString "name"), (PySem.Str.ofString "own"), (PySem.Str.ofString "one"), (PySem.Str.ofString "two"), (PySem.Str.ofString "first"), (PySem.Str.ofString "row")], f__law_taken_apart⟩
def e__law_put_together : Ent := ⟨(PySem.Str.ofString "_law_put_together"), (PySem.Str.ofString "_law_put_together"), (defArgs (top 27)).args, defBody (top 27), defScope (top 27), [(PySem.Str.ofString "pen"), (PySem.Str.ofString "kind"), (PySem.Str.ofString "scope"), (PySem.Str.ofString "functions"), (PySem.Str.ofString "room"), (PySem.Str.ofString "depth"), (PySem.Str.ofString "sign"), (PySem.Str.ofString "first"), (PySem.Str.ofString "own")], f__law_put_together⟩
def e__law_ints : Ent := ⟨(PySem.Str.ofString "_law_ints"), (PySem.Str.ofString "_law_ints"), (defArgs (top 28)).args, defBody (top 28), defScope (top 28), [], f__law_ints⟩
def e__law_walk_function : Ent := ⟨(PySem.Str.ofString "_law_walk_function"), (PySem.Str.ofString "_law_walk_function"), (defArgs (top 29)).args, defBody (top 29), defScope (top 29), [(PySem.Str.ofString "pen"), (PySem.Str.ofString "name"), (PySem.Str.ofString "row"), (PySem.Str.ofString "whole"), (PySem.Str.ofString "room"), (PySem.Str.ofString "step"), (PySem.Str.ofString "again"), (PySem.Str.ofString "body"), (PySem.Str.ofString "made"), (PySem.Str.ofString "join"), (PySem.Str.ofString "late")], f__law_walk_function⟩
def e__law_count_function : Ent := ⟨(PySem.Str.ofString "_law_count_function"), (PySem.Str.ofString "_law_count_function"), (defArgs (top 30)).args, defBody (top 30), defScope (top 30), [(PySem.Str.ofString "pen"), (PySem.Str.ofString "name"), (PySem.Str.ofString "again")], f__law_count_function⟩
def e__law_nest_function : Ent := ⟨(PySem.Str.ofString "_law_nest_function"), (PySem.Str.ofString "_law_nest_function"), (defArgs (top 31)).args, defBody (top 31), defScope (top 31), [(PySem.Str.ofString "pen"), (PySem.Str.ofString "name"), (PySem.Str.ofString "inner"), (PySem.Str.ofString "row"), (PySem.Str.ofString "body")], f__law_nest_function⟩
def e__law_free_function : Ent := ⟨(PySem.Str.ofString "_law_free_function"), (PySem.Str.ofString "_law_free_function"), (defArgs (top 32)).args, defBody (top 32), defScope (top 32), [(PySem.Str.ofString "pen"), (PySem.Str.ofString "name"), (PySem.Str.ofString "functions"), (PySem.Str.ofString "wide"), (PySem.Str.ofString "kinds"), (PySem.Str.ofString "scope"), (PySem.Str.ofString "kind"), (PySem.Str.ofString "room"), (PySem.Str.ofString "lap"), (PySem.Str.ofString "at")], f__law_free_function⟩
def e__law_heads : Ent := ⟨(PySem.Str.ofString "_law_heads"), (PySem.Str.ofString "_law_heads"), (defArgs (top 33)).args, defBody (top 33), defScope (top 33), [(PySem.Str.ofString "functions"), (PySem.Str.ofString "name"), (PySem.Str.ofString "parameters"), (PySem.Str.ofString "kind"), (PySem.Str.ofString "body"), (PySem.Str.ofString "one"), (PySem.Str.ofString "own")], f__law_heads⟩
def e__law_program : Ent := ⟨(PySem.Str.ofString "_law_program"), (PySem.Str.ofString "_law_program"), (defArgs (top 34)).args, defBody (top 34), defScope (top 34), [(PySem.Str.ofString "pen"), (PySem.Str.ofString "functions"), (PySem.Str.ofString "way")], f__law_program⟩
def e__law_ratio_words : Ent := ⟨(PySem.Str.ofString "_law_ratio_words"), (PySem.Str.ofString "_law_ratio_words"), (defArgs (top 35)).args, defBody (top 35), defScope (top 35), [(PySem.Str.ofString "ratio"), (PySem.Str.ofString "words")], f__law_ratio_words⟩
def e__law_kind_words : Ent := ⟨(PySem.Str.ofString "_law_kind_words"), (PySem.Str.ofString "_law_kind_words"), (defArgs (top 36)).args, defBody (top 36), defScope (top 36), [(PySem.Str.ofString "pen"), (PySem.Str.ofString "kind"), (PySem.Str.ofString "words"), (PySem.Str.ofString "part")], f__law_kind_words⟩
def e__law_level : Ent := ⟨(PySem.Str.ofString "_law_level"), (PySem.Str.ofString "_law_level"), (defArgs (top 37)).args, defBody (top 37), defScope (top 37), [(PySem.Str.ofString "expr")], f__law_level⟩
def e__law_words_at : Ent := ⟨(PySem.Str.ofString "_law_words_at"), (PySem.Str.ofString "_law_words_at"), (defArgs (top 38)).args, defBody (top 38), defScope (top 38), [(PySem.Str.ofString "pen"), (PySem.Str.ofString "expr"), (PySem.Str.ofString "level"), (PySem.Str.ofString "words")], f__law_words_at⟩
def e__law_expr_words : Ent := ⟨(PySem.Str.ofString "_law_expr_words"), (PySem.Str.ofString "_law_expr_words"), (defArgs (top 39)).args, defBody (top 39), defScope (top 39), [(PySem.Str.ofString "pen"), (PySem.Str.ofString "expr"), (PySem.Str.ofString "sort"), (PySem.Str.ofString "level"), (PySem.Str.ofString "words"), (PySem.Str.ofString "at")], f__law_expr_words⟩
def e__law_form_words : Ent := ⟨(PySem.Str.ofString "_law_form_words"), (PySem.Str.ofString "_law_form_words"), (defArgs (top 40)).args, defBody (top 40), defScope (top 40), [(PySem.Str.ofString "pen"), (PySem.Str.ofString "expr"), (PySem.Str.ofString "sort"), (PySem.Str.ofString "words"), (PySem.Str.ofString "first"), (PySem.Str.ofString "second")], f__law_form_words⟩
def e__law_function_words : Ent := ⟨(PySem.Str.ofString "_law_function_words"), (PySem.Str.ofString "_law_function_words"), (defArgs (top 41)).args, defBody (top 41), defScope (top 41), [(PySem.Str.ofString "pen"), (PySem.Str.ofString "function"), (PySem.Str.ofString "name"), (PySem.Str.ofString "parameters"), (PySem.Str.ofString "kind"), (PySem.Str.ofString "body"), (PySem.Str.ofString "words"), (PySem.Str.ofString "at")], f__law_function_words⟩
def e__law_tree_words : Ent := ⟨(PySem.Str.ofString "_law_tree_words"), (PySem.Str.ofString "_law_tree_words"), (defArgs (top 42)).args, defBody (top 42), defScope (top 42), [(PySem.Str.ofString "pen"), (PySem.Str.ofString "tree"), (PySem.Str.ofString "words"), (PySem.Str.ofString "sort"), (PySem.Str.ofString "ratio"), (PySem.Str.ofString "plain"), (PySem.Str.ofString "function")], f__law_tree_words⟩
def e__law_text_of : Ent := ⟨(PySem.Str.ofString "_law_text_of"), (PySem.Str.ofString "_law_text_of"), (defArgs (top 43)).args, defBody (top 43), defScope (top 43), [(PySem.Str.ofString "tree")], f__law_text_of⟩
def e__law_loose_text : Ent := ⟨(PySem.Str.ofString "_law_loose_text"), (PySem.Str.ofString "_law_loose_text"), (defArgs (top 44)).args, defBody (top 44), defScope (top 44), [(PySem.Str.ofString "pen"), (PySem.Str.ofString "tree"), (PySem.Str.ofString "text"), (PySem.Str.ofString "last"), (PySem.Str.ofString "word")], f__law_loose_text⟩
def e__law_gap : Ent := ⟨(PySem.Str.ofString "_law_gap"), (PySem.Str.ofString "_law_gap"), (defArgs (top 45)).args, defBody (top 45), defScope (top 45), [(PySem.Str.ofString "pen"), (PySem.Str.ofString "last"), (PySem.Str.ofString "word"), (PySem.Str.ofString "close"), (PySem.Str.ofString "joined"), (PySem.Str.ofString "way")], f__law_gap⟩
def e__law_words : Ent := ⟨(PySem.Str.ofString "_law_words"), (PySem.Str.ofString "_law_words"), (defArgs (top 46)).args, defBody (top 46), defScope (top 46), [(PySem.Str.ofString "text"), (PySem.Str.ofString "letters"), (PySem.Str.ofString "figures"), (PySem.Str.ofString "own"), (PySem.Str.ofString "found"), (PySem.Str.ofString "line"), (PySem.Str.ofString "column"), (PySem.Str.ofString "at"), (PySem.Str.ofString "sign"), (PySem.Str.ofString "end"), (PySem.Str.ofString "what")], f__law_words⟩
def e__law_spoilt : Ent := ⟨(PySem.Str.ofString "_law_spoilt"), (PySem.Str.ofString "_law_spoilt"), (defArgs (top 47)).args, defBody (top 47), defScope (top 47), [(PySem.Str.ofString "pen"), (PySem.Str.ofString "text"), (PySem.Str.ofString "at"), (PySem.Str.ofString "way"), (PySem.Str.ofString "sign")], f__law_spoilt⟩
def e__law_told_ok : Ent := ⟨(PySem.Str.ofString "_law_told_ok"), (PySem.Str.ofString "_law_told_ok"), (defArgs (top 48)).args, defBody (top 48), defScope (top 48), [(PySem.Str.ofString "told"), (PySem.Str.ofString "word")], f__law_told_ok⟩
def e_law : Ent := ⟨(PySem.Str.ofString "law"), (PySem.Str.ofString "law"), (defArgs (top 49)).args, defBody (top 49), defScope (top 49), [(PySem.Str.ofString "script"), (PySem.Str.ofString "pen"), (PySem.Str.ofString "tree"), (PySem.Str.ofString "lap"), (PySem.Str.ofString "text"), (PySem.Str.ofString "told"), (PySem.Str.ofString "change"), (PySem.Str.ofString "row"), (PySem.Str.ofString "odd"), (PySem.Str.ofString "sign")], f_law⟩
def ents0 : List Ent := [e_row_end, e_letter_word, e_figure_word, e_word_from, e_words_in, e_words_of, e__law_pen, e__law_draw, e__law_pick, e__law_is_int, e__law_fares, e__law_new_name, e__law_of_kind, e__law_whole_number, e__law_leaf, e__law_small_kind, e__law_expr, e__law_taken_apart, e__law_put_together, e__law_ints]
def ents1 : List Ent := [e__law_walk_function, e__law_count_function, e__law_nest_function, e__law_free_function, e__law_heads, e__law_program, e__law_ratio_words, e__law_kind_words, e__law_level, e__law_words_at, e__law_expr_words, e__law_form_words, e__law_function_words, e__law_tree_words, e__law_text_of, e__law_loose_text, e__law_gap, e__law_words, e__law_spoilt, e__law_told_ok]
def ents2 : List Ent := [e_law]
def ents : List Ent := ents0 ++ (ents1 ++ (ents2))
def csts : List (Str × D) := [((PySem.Str.ofString "DIGITS"), c_DIGITS), ((PySem.Str.ofString "LETTERS"), c_LETTERS), ((PySem.Str.ofString "SIGNS"), c_SIGNS), ((PySem.Str.ofString "OWN_WORDS"), c_OWN_WORDS), ((PySem.Str.ofString "TWO_SIGNS"), c_TWO_SIGNS), ((PySem.Str.ofString "ONE_SIGNS"), c_ONE_SIGNS), ((PySem.Str.ofString "LONGEST_WORD"), c_LONGEST_WORD)]
def frees : List Str := [(PySem.Str.ofString "len"), (PySem.Str.ofString "range"), (PySem.Str.ofString "isinstance"), (PySem.Str.ofString "str"), (PySem.Str.ofString "tuple"), (PySem.Str.ofString "int"), (PySem.Str.ofString "list"), (PySem.Str.ofString "bool"), (PySem.Str.ofString "abs"), (PySem.Str.ofString "all")]
end K44
namespace K44
open PySem PySem.Spec PyProof.Rows L2 Ev
theorem ents_fns : ents.map (fun e => e.fn) = fns := rfl
theorem law_ok : LawOk ents FUEL LVL 40 := fun ns hl => by
  obtain ⟨h, e⟩ := law_runs hl
  refine ⟨h, ?_⟩
  rw [ents_fns]
  exact e
end K44
namespace K44
open PySem PySem.Spec PyProof.Rows L2 Ev
def G : Cfg := Cfg.of ents csts frees
theorem good0 : ents0.all (Ent.good G) = true := by decide +kernel
theorem good1 : ents1.all (Ent.good G) = true := by decide +kernel
theorem good2 : ents2.all (Ent.good G) = true := by decide +kernel
theorem good : ∀ e ∈ ents, e.good (Cfg.of ents csts frees) = true := by
  intro e he
  simp only [ents, List.mem_append] at he
  rcases he with h | h | h
  · exact List.all_eq_true.mp good0 e h
  · exact List.all_eq_true.mp good1 e h
  · exact List.all_eq_true.mp good2 e h
def names0 : List Str := [(PySem.Str.ofString "DIGITS"), (PySem.Str.ofString "LETTERS"), (PySem.Str.ofString "SIGNS"), (PySem.Str.ofString "OWN_WORDS"), (PySem.Str.ofString "TWO_SIGNS"), (PySem.Str.ofString "ONE_SIGNS"), (PySem.Str.ofString "LONGEST_WORD"), (PySem.Str.ofString "row_end"), (PySem.Str.ofString "letter_word"), (PySem.Str.ofString "figure_word"), (PySem.Str.ofString "word_from"), (PySem.Str.ofString "words_in"), (PySem.Str.ofString "words_of"), (PySem.Str.ofString "_law_pen"), (PySem.Str.ofString "_law_draw"), (PySem.Str.ofString "_law_pick"), (PySem.Str.ofString "_law_is_int"), (PySem.Str.ofString "_law_fares"), (PySem.Str.ofString "_law_new_name"), (PySem.Str.ofString "_law_of_kind"), (PySem.Str.ofString "_law_whole_number"), (PySem.Str.ofString "_law_leaf"), (PySem.Str.ofString "_law_small_kind"), (PySem.Str.ofString "_law_expr"), (PySem.Str.ofString "_law_taken_apart"), (PySem.Str.ofString "_law_put_together"), (PySem.Str.ofString "_law_ints"), (PySem.Str.ofString "_law_walk_function"), (PySem.Str.ofString "_law_count_function"), (PySem.Str.ofString "_law_nest_function"), (PySem.Str.ofString "_law_free_function"), (PySem.Str.ofString "_law_heads"), (PySem.Str.ofString "_law_program"), (PySem.Str.ofString "_law_ratio_words"), (PySem.Str.ofString "_law_kind_words"), (PySem.Str.ofString "_law_level"), (PySem.Str.ofString "_law_words_at"), (PySem.Str.ofString "_law_expr_words"), (PySem.Str.ofString "_law_form_words"), (PySem.Str.ofString "_law_function_words")]
def names1 : List Str := [(PySem.Str.ofString "_law_tree_words"), (PySem.Str.ofString "_law_text_of"), (PySem.Str.ofString "_law_loose_text"), (PySem.Str.ofString "_law_gap"), (PySem.Str.ofString "_law_words"), (PySem.Str.ofString "_law_spoilt"), (PySem.Str.ofString "_law_told_ok")]
def names : List Str := names0 ++ names1
abbrev hk : PySem.W.Hook := hookP 4 (faOf ents frees) (ents.map Ent.defD) (exOf csts)
def ob (s : PySem.W.SharedT) : AlP := obsP 4 (faOf ents frees) (ents.map Ent.defD) (exOf csts) (HandSHeadRun.getT s)
theorem ob_eq (s : PySem.W.SharedT) : ob s = hk.obs s.abs := obsP_eq (HandSHeadRun.getT_eq s)
theorem run (w : World) : HandSHeadRun.RunEq R (PySem.W.view R.prog [49]) hk ob 3000 names w := by
  intro os
  kernel_rfl
end K44
open PySem PySem.W PySem.Calls PyProof.Rows L2 Ev
theorem PySem.Challenge.cw_paidsteps_k44_words_of_texts_holds : PySem.Challenge.rw_paidsteps_k44_words_of_texts.Holds := by
  w_on; o_law
  refine HandSHeadRun.head_any (r := K44.R) (q := view K44.R.prog [49]) (H := K44.hk) (ob := K44.ob) (M := 3000) (loose := K44.names) (d := HandSHeadRun.topDef K44.R.prog 49) (kwd := []) K44.ob_eq
    (by kernel_rfl) (fun s => by kernel_rfl) K44.run (by kernel_rfl) (by kernel_rfl) (by kernel_rfl) (by rfl) (by first | assumption | decide +kernel) (by decide +kernel) ⟨rfl, rfl, rfl, rfl, rfl, by decide +kernel⟩ ?hw ?hc
  case hw => w_witness2
  case hc =>
    exact law_walk (l := PySem.Challenge.rw_paidsteps_k44_words_of_texts) (k := K44.LVL) (li := 40) (es := K44.ents) (csts := K44.csts) (frees := K44.frees) (F := K44.FUEL) (n := 4) (e := K44.e_law) (a0 := (defArgs (K44.top 49)).args.getD 0 ⟨"", none, ⟨0, 0, 0, 0⟩⟩)
      rfl (by kernel_rfl) ⟨rfl, by decide, by decide⟩ K44.good (by kernel_rfl) (by kernel_rfl) (by kernel_rfl) K44.law_ok
