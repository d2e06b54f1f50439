import PyProof.Rows.All
import Wide.All
import OpenK.AllK
import Wide.FinOn
import HandS.ForMost
import HandS.Deep
import HandS.TupAny
import HandS.Wide
import HandS.IsInst
import HandS.Flow
import HandS.Style
import HandS.Defaults
import HandS.Exc
import HandS.ExcInit
import HandS.ExcField
import HandS.ExcIs
import HandS.Iter
import HandS.Zip
import HandS.Comp
import KE.GoesNew
import KE.GoesMore
import KE.GoesEnum
import HandS.ExcOwn
import HandS.TryMany
import HandS.Head0
import HandS.Head1
import HandS.Head2
import HandS.HeadEnd
import HandS.HeadHook1
import HandS.HeadHook2
import KE.KStateDown
import HandS.More
import HandS.Words
import HandS.WordsExc
import PySem.Challenge.RW_assentwhole_k03_whole_least_common_count
set_option Elab.async false
set_option linter.all false
set_option maxRecDepth 100000
/-! Mi: a small language of values, its texts and what they mean. Tuples are values; lists and dicts stand in a store. -/
namespace Mi
open PySem

/-! ### data -/
inductive D where
  | non | bl (b : Bool) | int (i : Int) | str (s : List Nat) | tup (ds : List D) | ref (n : Nat)
  /-- a list that is only read (the script) -/
  | rol (ds : List D)
  deriving Inhabited
mutual
def D.decEq : (a b : D) → Decidable (a = b)
  | .non, .non => .isTrue rfl
  | .bl a, .bl b => if h : a = b then .isTrue (by rw [h]) else .isFalse fun e => h (D.bl.inj e)
  | .int a, .int b => if h : a = b then .isTrue (by rw [h]) else .isFalse fun e => h (D.int.inj e)
  | .str a, .str b => if h : a = b then .isTrue (by rw [h]) else .isFalse fun e => h (D.str.inj e)
  | .ref a, .ref b => if h : a = b then .isTrue (by rw [h]) else .isFalse fun e => h (D.ref.inj e)
  | .tup a, .tup b => match D.decEqs a b with
    | .isTrue h => .isTrue (by rw [h])
    | .isFalse h => .isFalse fun e => h (D.tup.inj e)
  | .rol a, .rol b => match D.decEqs a b with
    | .isTrue h => .isTrue (by rw [h])
    | .isFalse h => .isFalse fun e => h (D.rol.inj e)
  | .non, .bl _ | .non, .int _ | .non, .str _ | .non, .tup _ | .non, .ref _ | .non, .rol _ => .isFalse fun e => by cases e
  | .bl _, .non | .bl _, .int _ | .bl _, .str _ | .bl _, .tup _ | .bl _, .ref _ | .bl _, .rol _ => .isFalse fun e => by cases e
  | .int _, .non | .int _, .bl _ | .int _, .str _ | .int _, .tup _ | .int _, .ref _ | .int _, .rol _ => .isFalse fun e => by cases e
  | .str _, .non | .str _, .bl _ | .str _, .int _ | .str _, .tup _ | .str _, .ref _ | .str _, .rol _ => .isFalse fun e => by cases e
  | .tup _, .non | .tup _, .bl _ | .tup _, .int _ | .tup _, .str _ | .tup _, .ref _ | .tup _, .rol _ => .isFalse fun e => by cases e
  | .ref _, .non | .ref _, .bl _ | .ref _, .int _ | .ref _, .str _ | .ref _, .tup _ | .ref _, .rol _ => .isFalse fun e => by cases e
  | .rol _, .non | .rol _, .bl _ | .rol _, .int _ | .rol _, .str _ | .rol _, .tup _ | .rol _, .ref _ => .isFalse fun e => by cases e
def D.decEqs : (a b : List D) → Decidable (a = b)
  | [], [] => .isTrue rfl
  | [], _ :: _ => .isFalse fun e => by cases e
  | _ :: _, [] => .isFalse fun e => by cases e
  | a :: as, b :: bs => match D.decEq a b with
    | .isFalse h => .isFalse fun e => h (List.cons.inj e).1
    | .isTrue h => match D.decEqs as bs with
      | .isTrue k => .isTrue (by rw [h, k])
      | .isFalse k => .isFalse fun e => k (List.cons.inj e).2
end
instance : DecidableEq D := D.decEq

/-- a dict's key: an int or a text -/
abbrev Kk := Sum Int (List Nat)
def Kk.d : Kk → D
  | .inl i => .int i
  | .inr s => .str s
def D.key : D → Option Kk
  | .int i => some (.inl i)
  | .str s => some (.inr s)
  | _ => none
/-- what stands at a place of the store: a list; a dict -/
inductive O where
  | lst (ds : List D) | dic (kvs : List (Kk × D))
  deriving DecidableEq, Inhabited
abbrev Store := List O
abbrev Env := List (Option D)
/-- an exception: its class, its fields -/
structure Exn where
  cls : String
  fs : List (String × D)
  deriving DecidableEq, Inhabited

inductive R (α : Type) where
  | ok (a : α) (S : Store) | exn (x : Exn) (S : Store) | bad
abbrev M (α : Type) := Store → R α
def pur {α : Type} (a : α) : M α := fun S => .ok a S
def bad {α : Type} : M α := fun _ => .bad
def R.bind {α β : Type} (r : R α) (k : α → M β) : R β := match r with
  | .ok a S => k a S
  | .exn x S => .exn x S
  | .bad => .bad
def bnd {α β : Type} (m : M α) (k : α → M β) : M β := fun S => (m S).bind k

/-- the largest length -/
def mx : Nat := 16777216

/-! ### equality, order, truth -/
mutual
def D.flat : D → Bool
  | .tup ds => D.flats ds
  | .ref _ => false
  | .rol _ => false
  | .str s => s.all fun c => decide (c < 0x110000)
  | _ => true
def D.flats : List D → Bool
  | [] => true
  | d :: ds => d.flat && D.flats ds
end
mutual
def D.dep : D → Nat
  | .tup ds => D.deps ds + 1
  | _ => 0
def D.deps : List D → Nat
  | [] => 0
  | d :: ds => max d.dep (D.deps ds)
end
mutual
/-- == as Python says it of data without lists -/
def D.eqv : D → D → Bool
  | .non, .non => true
  | .bl a, .bl b => a == b
  | .bl a, .int j => (if a then 1 else 0) == j
  | .int i, .bl b => i == (if b then 1 else 0)
  | .int i, .int j => i == j
  | .str x, .str y => x == y
  | .tup xs, .tup ys => D.eqvs xs ys
  | .non, .bl _ | .non, .int _ | .non, .str _ | .non, .tup _ | .non, .ref _ | .non, .rol _ => false
  | .bl _, .non | .bl _, .str _ | .bl _, .tup _ | .bl _, .ref _ | .bl _, .rol _ => false
  | .int _, .non | .int _, .str _ | .int _, .tup _ | .int _, .ref _ | .int _, .rol _ => false
  | .str _, .non | .str _, .bl _ | .str _, .int _ | .str _, .tup _ | .str _, .ref _ | .str _, .rol _ => false
  | .tup _, .non | .tup _, .bl _ | .tup _, .int _ | .tup _, .str _ | .tup _, .ref _ | .tup _, .rol _ => false
  | .ref _, .non | .ref _, .bl _ | .ref _, .int _ | .ref _, .str _ | .ref _, .tup _ | .ref _, .ref _ | .ref _, .rol _ => false
  | .rol _, .non | .rol _, .bl _ | .rol _, .int _ | .rol _, .str _ | .rol _, .tup _ | .rol _, .ref _ | .rol _, .rol _ => false
def D.eqvs : List D → List D → Bool
  | [], [] => true
  | x :: xs, y :: ys => D.eqv x y && D.eqvs xs ys
  | [], _ :: _ => false
  | _ :: _, [] => false
end
/-- data that == is asked of -/
def D.eqOk (d : D) : Bool := d.flat && decide (d.dep ≤ 60)
/-- None, bools, ints, texts -/
def D.scal : D → Bool
  | .tup _ => false
  | .ref _ => false
  | .rol _ => false
  | _ => true
def ints? : List D → Option (List Int)
  | [] => some []
  | .int i :: r => (ints? r).map (i :: ·)
  | _ :: _ => none
def lexLt : List Int → List Int → Bool
  | _, [] => false
  | [], _ :: _ => true
  | a :: as, b :: bs => if a < b then true else if b < a then false else lexLt as bs

def getL (n : Nat) : M (List D) := fun S => match S[n]? with
  | some (.lst ds) => .ok ds S
  | _ => .bad
def setO (n : Nat) (o : O) : M Unit := fun S => .ok () (S.set n o)
def getK (n : Nat) : M (List (Kk × D)) := fun S => match S[n]? with
  | some (.dic kvs) => .ok kvs S
  | _ => .bad
def alloc (o : O) : M D := fun S => .ok (.ref S.length) (S ++ [o])

def truth : D → M Bool
  | .non => pur false
  | .bl b => pur b
  | .int i => pur (i != 0)
  | .str s => if s.length ≤ mx then pur (!s.isEmpty) else bad
  | .tup ds => pur (!ds.isEmpty)
  | .rol ds => pur (!ds.isEmpty)
  | .ref n => fun S => match S[n]? with
    | some (.lst ds) => .ok (!ds.isEmpty) S
    | some (.dic kvs) => .ok (!kvs.isEmpty) S
    | none => .bad

/-! ### operators -/
inductive Op where
  | add | sub | mul | fdiv | mod | pow | band
  | eq | ne | lt | le | gt | ge | is_ | isnot | in_ | notin | ix
  deriving DecidableEq
/-- the place that an index tells -/
def ixn (n : Nat) (i : Int) : Option Nat := if 0 ≤ i then (if i < n then some i.toNat else none) else if 0 ≤ i + n then some (i + n).toNat else none
def atI (xs : List D) (i : Int) : Option D := (ixn xs.length i).bind fun j => xs[j]?
def opt {α : Type} : Option α → M α
  | some a => pur a
  | none => bad
/-- does the text s stand within t -/
def subText (s : List Nat) : List Nat → Bool
  | [] => s.isEmpty
  | c :: t => s.isPrefixOf (c :: t) || subText s t
def inD (x : D) (xs : List D) : Bool := xs.any fun y => D.eqv y x
def opIn (neg : Bool) (x y : D) : M D := match y with
  | .str t => (match x with
    | .str [c] => pur (.bl (xor neg (t.contains c)))
    | _ => bad)
  | .tup ds => if x.scal && ds.all D.scal then pur (.bl (xor neg (inD x ds))) else bad
  | .ref n => fun S => match S[n]? with
    | some (.lst ds) => if x.scal && ds.all D.scal then .ok (.bl (xor neg (inD x ds))) S else .bad
    | some (.dic kvs) => (match x.key with
      | some k => .ok (.bl (xor neg (kvs.any fun p => decide (p.1 = k)))) S
      | none => .bad)
    | none => .bad
  | _ => bad
def cmpI (o : Op) (i j : Int) : Bool := match o with
  | .lt => decide (i < j)
  | .le => decide (i ≤ j)
  | .gt => decide (j < i)
  | .ge => decide (j ≤ i)
  | _ => false
def opD (o : Op) (x y : D) : M D := match o with
  | .add => (match x, y with
    | .int i, .int j => pur (.int (i + j))
    | .str s, .str t => if s.length + t.length ≤ mx then pur (.str (s ++ t)) else bad
    | .tup s, .tup t => if s.length + t.length ≤ mx then pur (.tup (s ++ t)) else bad
    | .ref n, .ref m => bnd (getL n) fun s => bnd (getL m) fun t => if s.length + t.length ≤ mx then alloc (.lst (s ++ t)) else bad
    | _, _ => bad)
  | .sub => (match x, y with
    | .int i, .int j => pur (.int (i - j))
    | _, _ => bad)
  | .mul => (match x, y with
    | .int i, .int j => if (decide (-(2 ^ 64) < i) && decide (i < 2 ^ 64)) || (decide (-(2 ^ 64) < j) && decide (j < 2 ^ 64)) then pur (.int (i * j)) else bad
    | _, _ => bad)
  | .fdiv => (match x, y with
    | .int i, .int j => if decide (0 < j) && decide (j.natAbs.log2 < 9000) then pur (.int (i / j)) else bad
    | _, _ => bad)
  | .mod => (match x, y with
    | .int i, .int j => if 0 < j then pur (.int (i % j)) else bad
    | _, _ => bad)
  | .pow => (match x, y with
    | .int i, .int j => if decide (0 ≤ j) && (decide (j ≤ 1000000) && decide (i.natAbs < 2 ^ 64)) then pur (.int (i ^ j.toNat)) else bad
    | _, _ => bad)
  | .band => (match x, y with
    | .int i, .int j => pur (.int (Builtin.bitAnd i j))
    | _, _ => bad)
  | .eq => (match x, y with
    | .int i, .int j => pur (.bl (i == j))
    | .str s, .str t => pur (.bl (s == t))
    | x, y => if x.eqOk && y.eqOk then pur (.bl (D.eqv x y)) else bad)
  | .ne => (match x, y with
    | .int i, .int j => pur (.bl (!(i == j)))
    | .str s, .str t => pur (.bl (!(s == t)))
    | x, y => if x.eqOk && y.eqOk then pur (.bl (!D.eqv x y)) else bad)
  | .lt | .le | .gt | .ge => (match x, y with
    | .int i, .int j => pur (.bl (cmpI o i j))
    | .tup s, .tup t => (match o, ints? s, ints? t with
      | .lt, some ns, some ms => pur (.bl (lexLt ns ms))
      | _, _, _ => bad)
    | _, _ => bad)
  | .is_ => (match y with
    | .non => pur (.bl (decide (x = .non)))
    | _ => bad)
  | .isnot => (match y with
    | .non => pur (.bl (!decide (x = .non)))
    | _ => bad)
  | .in_ => opIn false x y
  | .notin => opIn true x y
  | .ix => (match x, y with
    | .tup ds, .int i => opt (atI ds i)
    | .ref n, .int i => bnd (getL n) fun ds => opt (atI ds i)
    | .str s, .int i => if s.length ≤ mx then (match (ixn s.length i).bind fun j => s[j]? with
      | some c => pur (.str [c])
      | none => bad) else bad
    | _, _ => bad)

/-! ### slices -/
def sIx (n d : Nat) : Option Int → Nat
  | none => d
  | some i => if i < 0 then (i + n).toNat else min i.toNat n
def cut {α : Type} (xs : List α) (lo hi : Option Int) : List α := (xs.drop (sIx xs.length 0 lo)).take (sIx xs.length xs.length hi - sIx xs.length 0 lo)
def slD (x : D) (lo hi : Option Int) : M D := match x with
  | .tup ds => pur (.tup (cut ds lo hi))
  | .str s => if s.length ≤ mx then pur (.str (cut s lo hi)) else bad
  | .ref n => bnd (getL n) fun ds => alloc (.lst (cut ds lo hi))
  | _ => bad
def revD (x : D) : M D := match x with
  | .ref n => bnd (getL n) fun ds => alloc (.lst ds.reverse)
  | _ => bad

/-! ### built-ins, methods -/
inductive Bi where
  | len | int | abs | max2 | min2 | tuple | str | sum | min1 | max1 | bool
  deriving DecidableEq
/-- the figures of a number -/
def figs (i : Int) : List Nat := (toString i : Str).cps.toList
def minI : List Int → Option Int
  | [] => none
  | a :: r => some (r.foldl min a)
def maxI : List Int → Option Int
  | [] => none
  | a :: r => some (r.foldl max a)
def lenD : D → M Nat
  | .str s => if s.length ≤ mx then pur s.length else bad
  | .tup ds => pur ds.length
  | .ref n => fun S => match S[n]? with
    | some (.lst ds) => .ok ds.length S
    | _ => .bad
  | _ => bad
def biD : Bi → List D → M D
  | .len, [x] => bnd (lenD x) fun n => pur (.int n)
  | .int, [.int i] => pur (.int i)
  | .int, [.bl b] => pur (.int (if b then 1 else 0))
  | .abs, [.int i] => pur (.int (if i < 0 then -i else i))
  | .max2, [.int i, .int j] => pur (.int (if j > i then j else i))
  | .min2, [.int i, .int j] => pur (.int (if j < i then j else i))
  | .tuple, [.tup ds] => pur (.tup ds)
  | .tuple, [.ref n] => bnd (getL n) fun ds => pur (.tup ds)
  | .str, [.int i] => if i.natAbs.log2 < 1920 then pur (.str (figs i)) else bad
  | .sum, [.tup ds] => bnd (opt (ints? ds)) fun ns => pur (.int ns.sum)
  | .sum, [.ref n] => bnd (getL n) fun ds => bnd (opt (ints? ds)) fun ns => pur (.int ns.sum)
  | .min1, [.ref n] => bnd (getL n) fun ds => bnd (opt (ints? ds)) fun ns => bnd (opt (minI ns)) fun m => pur (.int m)
  | .max1, [.ref n] => bnd (getL n) fun ds => bnd (opt (ints? ds)) fun ns => bnd (opt (maxI ns)) fun m => pur (.int m)
  | .bool, [.bl b] => pur (.bl b)
  | .bool, [.int i] => pur (.bl (i != 0))
  | _, _ => bad
/-- is it a list of the store -/
def isL : D → M Unit
  | .ref n => bnd (getL n) fun _ => pur ()
  | _ => bad
/-- what raises here is not covered -/
def noX {α : Type} (m : M α) : M α := fun S => match m S with
  | .ok a S' => .ok a S'
  | _ => .bad
/-- of a list that was just made -/
def biF : Bi → List D → M D
  | .len, ds => pur (.int (ds.length : Nat))
  | .tuple, ds => pur (.tup ds)
  | .sum, ds => bnd (opt (ints? ds)) fun ns => pur (.int ns.sum)
  | .min1, ds => bnd (opt (ints? ds)) fun ns => bnd (opt (minI ns)) fun m => pur (.int m)
  | .max1, ds => bnd (opt (ints? ds)) fun ns => bnd (opt (maxI ns)) fun m => pur (.int m)
  | _, _ => bad
inductive Me where
  | append | pop0 | extend
  deriving DecidableEq
def meD : Me → D → List D → M D
  | .append, .ref n, [x] => bnd (getL n) fun ds => if ds.length < mx then bnd (setO n (.lst (ds ++ [x]))) fun _ => pur .non else bad
  | .pop0, .ref n, [] => bnd (getL n) fun ds => bnd (opt (ds[ds.length - 1]?)) fun x => bnd (setO n (.lst ds.dropLast)) fun _ => pur x
  | .extend, .ref n, [.ref m] => bnd (getL n) fun ds => bnd (getL m) fun es => if ds.length + es.length ≤ mx then bnd (setO n (.lst (ds ++ es))) fun _ => pur .non else bad
  | _, _, _ => bad
/-- the types that isinstance is asked of -/
inductive Ty where
  | int | bool | str | tuple | list | dict
  deriving DecidableEq
def isD (x : D) (t : Ty) : M Bool := match x with
  | .non => pur false
  | .bl _ => pur (t == .bool || t == .int)
  | .int _ => pur (t == .int)
  | .str _ => pur (t == .str)
  | .tup _ => pur (t == .tuple)
  | .rol _ => pur (t == .list)
  | .ref n => fun S => match S[n]? with
    | some (.lst _) => .ok (t == .list) S
    | some (.dic _) => .ok (t == .dict) S
    | none => .bad
def putKk (kvs : List (Kk × D)) (k : Kk) (v : D) : List (Kk × D) :=
  if (kvs.any fun p => decide (p.1 = k)) = true then kvs.map (fun p => if p.1 = k then (p.1, v) else p) else kvs ++ [(k, v)]
def setItem (x i v : D) : M Unit := match x with
  | .ref n => fun S => match S[n]?, i with
    | some (.lst ds), .int k => (match ixn ds.length k with
      | some j => .ok () (S.set n (.lst (ds.set j v)))
      | none => .bad)
    | some (.dic kvs), i => (match i.key with
      | some k => if kvs.length < mx then .ok () (S.set n (.dic (putKk kvs k v))) else .bad
      | none => .bad)
    | _, _ => .bad
  | _ => bad

/-! ### the texts -/
mutual
inductive E where
  | var (i : Nat)
  | cst (d : D)
  | glo (x : String)
  | tup (es : Es)
  | fre (f : F)
  | dic0
  | op (o : Op) (a b : E)
  | neg (a : E)
  | no (a : E)
  | and2 (a b : E)
  | or2 (a b : E)
  | chn (o p : Op) (a b c : E)
  | ite (c a b : E)
  | call (f : String) (es : Es)
  | bi (b : Bi) (es : Es)
  | bif (b : Bi) (f : F)
  | isi (a : E) (ts : List Ty)
  | me (m : Me) (o : E) (es : Es)
  | sl (a : E) (lo hi : Eo)
  | rev (a : E)
  | errA (i : Nat) (f : String)
  | errI (i : Nat) (ts : List String)
inductive Es where
  | nil
  | cons (e : E) (es : Es)
inductive Eo where
  | non
  | som (e : E)
/-- an expression that makes a new list -/
inductive F where
  | lst (es : Es)
  | lc (own : List Nat) (elt : E) (tg : Tg) (it : It) (ifs : Es)
  | list (a : E)
/-- what is walked -/
inductive It where
  | e (a : E)
  | f (f : F)
  | rng1 (a : E)
  | rng2 (a b : E)
  | enu (a : E)
  | zip2 (a b : E)
  | zip3 (a b c : E)
/-- targets -/
inductive Tg where
  | nm (i : Nat)
  | tup (ts : Tgs)
inductive Tgs where
  | nil
  | cons (t : Tg) (ts : Tgs)
end
mutual
inductive St where
  | asg (t : Tg) (e : E)
  | sub (o i e : E)
  | aug (i : Nat) (o : Op) (e : E)
  | exp (e : E)
  | ret (e : E)
  | if_ (c : E) (a b : Ss)
  | for_ (t : Tg) (it : It) (b : Ss)
  | while_ (c : E) (b : Ss)
  | brk
  | cont
  | pass
  | rais (c : String) (es : Es)
  | try_ (b : Ss) (hs : Hs)
inductive Ss where
  | nil
  | cons (s : St) (ss : Ss)
/-- except clauses: the class, the name's slot, the suite -/
inductive Hs where
  | nil
  | cons (c : String) (i : Option Nat) (b : Ss) (hs : Hs)
end

/-! ### what they mean -/
structure Ctx where
  call : String → List D → M D
  glo : String → Option D
  /-- is the first class the second one or below it -/
  isa : String → String → Bool
  /-- an exception class: the names of its fields, in the order of its parameters -/
  ini : String → Option (List String)
  fuel : Nat
  cur : Option (Nat × Exn)
/-- what a loop walks: these items; the items of the list at n, as long as it is these -/
inductive Src where
  | its (ds : List D)
  | loc (n : Nat) (ds : List D)
def Src.items : Src → List D
  | .its ds => ds
  | .loc _ ds => ds
def Src.ok (s : Src) (S : Store) : Bool := match s with
  | .its _ => true
  | .loc n ds => decide (S[n]? = some (.lst ds))
def rangeD (lo : Int) (n : Nat) : List D := (List.range n).map fun (k : Nat) => D.int (lo + (k : Int))
def enumD (k : Nat) : List D → List D
  | [] => []
  | d :: r => .tup [.int (k : Int), d] :: enumD (k + 1) r
def zipD2 : List D → List D → List D
  | a :: as, b :: bs => .tup [a, b] :: zipD2 as bs
  | _, _ => []
def zipD3 : List D → List D → List D → List D
  | a :: as, b :: bs, c :: cs => .tup [a, b, c] :: zipD3 as bs cs
  | _, _, _ => []
/-- the items of a value that is walked as it stands -/
def srcD : D → M Src
  | .tup ds => pur (.its ds)
  | .str s => if s.length ≤ mx then pur (.its (s.map fun c => .str [c])) else bad
  | .ref n => bnd (getL n) fun ds => pur (.loc n ds)
  | .rol ds => pur (.its ds)
  | _ => bad
def wipe (δ : Env) : List Nat → Env
  | [] => δ
  | i :: r => wipe (δ.set i none) r
mutual
def putT : Tg → D → Env → Option Env
  | .nm i, d, δ => some (δ.set i (some d))
  | .tup ts, .tup ds, δ => putTs ts ds δ
  | .tup _, _, _ => none
def putTs : Tgs → List D → Env → Option Env
  | .nil, [], δ => some δ
  | .cons t ts, d :: ds, δ => (putT t d δ).bind fun δ' => putTs ts ds δ'
  | _, _, _ => none
end
/-- a comprehension's turns -/
def lcL (src : Src) (f : D → M (Option D)) : List D → M (List D)
  | [] => fun S => if src.ok S then .ok [] S else .bad
  | d :: r => fun S => if src.ok S then ((f d S).bind fun o => bnd (lcL src f r) fun ds => pur (match o with
    | some x => x :: ds
    | none => ds)) else .bad
def gen (m : M D) : M D × M Bool := (m, bnd m truth)
/-- isinstance of one or more types -/
def isAny (x : D) : List Ty → M D
  | [] => pur (.bl false)
  | t :: r => bnd (isD x t) fun b => if b then pur (.bl true) else isAny x r
def negD : D → M D
  | .int i => pur (.int (-i))
  | _ => bad
def partD : D → M (Option Int)
  | .int i => pur (some i)
  | _ => bad
/-- the items of a list or tuple -/
def itemsD : D → M (List D)
  | .tup ds => pur ds
  | .ref n => getL n
  | _ => bad
def chnD (m : M D) : D → M D
  | .bl true => m
  | .bl false => pur (.bl false)
  | _ => bad
def rngD : D → M Src
  | .int i => if i.toNat ≤ mx ∧ -(2 ^ 62) ≤ i then pur (.its (rangeD 0 i.toNat)) else bad
  | _ => bad
def rngD2 : D → D → M Src
  | .int i, .int j => if (j - i).toNat ≤ mx ∧ (-(2 ^ 62) ≤ i ∧ i < 2 ^ 62 ∧ -(2 ^ 62) ≤ j ∧ j < 2 ^ 62) then pur (.its (rangeD i (j - i).toNat)) else bad
  | _, _ => bad
def enuD : D → M Src
  | .tup ds => pur (.its (enumD 0 ds))
  | _ => bad
def zipDD : D → D → M Src
  | .tup as, .tup bs => pur (.its (zipD2 as bs))
  | _, _ => bad
def zipDDD : D → D → D → M Src
  | .tup as, .tup bs, .tup cs => pur (.its (zipD3 as bs cs))
  | _, _, _ => bad
mutual
/-- an expression's value; as a test -/
def ev2 (c : Ctx) (δ : Env) : E → M D × M Bool
  | .var i => gen (match δ[i]? with
    | some (some d) => pur d
    | _ => bad)
  | .cst d => gen (pur d)
  | .glo x => gen (opt (c.glo x))
  | .tup es => gen (bnd (evEs c δ es) fun ds => pur (.tup ds))
  | .fre f => gen (bnd (evF c δ f) fun ds => alloc (.lst ds))
  | .dic0 => gen (alloc (.dic []))
  | .op o a b => gen (bnd (ev2 c δ a).1 fun x => bnd (ev2 c δ b).1 fun y => opD o x y)
  | .neg a => gen (bnd (ev2 c δ a).1 negD)
  | .no a => (bnd (ev2 c δ a).2 fun t => pur (.bl (!t)), bnd (ev2 c δ a).2 fun t => pur (!t))
  | .and2 a b => (bnd (ev2 c δ a).1 fun x => bnd (truth x) fun t => if t then (ev2 c δ b).1 else pur x, bnd (ev2 c δ a).2 fun t => if t then (ev2 c δ b).2 else pur false)
  | .or2 a b => (bnd (ev2 c δ a).1 fun x => bnd (truth x) fun t => if t then pur x else (ev2 c δ b).1, bnd (ev2 c δ a).2 fun t => if t then pur true else (ev2 c δ b).2)
  | .chn o p a b d => gen (bnd (ev2 c δ a).1 fun x => bnd (ev2 c δ b).1 fun y => bnd (opD o x y) fun z => chnD (bnd (ev2 c δ d).1 fun w => opD p y w) z)
  | .ite t a b => gen (bnd (ev2 c δ t).2 fun k => if k then (ev2 c δ a).1 else (ev2 c δ b).1)
  | .call f es => gen (bnd (evEs c δ es) fun ds => c.call f ds)
  | .bi b es => gen (bnd (evEs c δ es) fun ds => biD b ds)
  | .bif b f => gen (bnd (evF c δ f) fun ds => biF b ds)
  | .isi a ts => gen (bnd (ev2 c δ a).1 fun x => isAny x ts)
  | .me m o es => gen (bnd (ev2 c δ o).1 fun x => bnd (isL x) fun _ => bnd (evEs c δ es) fun ds => meD m x ds)
  | .sl a lo hi => gen (bnd (ev2 c δ a).1 fun x => bnd (evO c δ lo) fun l => bnd (evO c δ hi) fun h => slD x l h)
  | .rev a => gen (bnd (ev2 c δ a).1 revD)
  | .errA i f => gen (match c.cur with
    | some (j, x) => if i = j then opt (x.fs.lookup f) else bad
    | none => bad)
  | .errI i ts => gen (match c.cur with
    | some (j, x) => if i = j then pur (.bl (ts.any fun t => c.isa x.cls t)) else bad
    | none => bad)
def evEs (c : Ctx) (δ : Env) : Es → M (List D)
  | .nil => pur []
  | .cons e es => bnd (ev2 c δ e).1 fun x => bnd (evEs c δ es) fun xs => pur (x :: xs)
def evO (c : Ctx) (δ : Env) : Eo → M (Option Int)
  | .non => pur none
  | .som e => bnd (ev2 c δ e).1 partD
def evF (c : Ctx) (δ : Env) : F → M (List D)
  | .lst es => evEs c δ es
  | .list a => bnd (ev2 c δ a).1 itemsD
  | .lc own elt tg it ifs => bnd (evI c δ it) fun src => if src.items.length ≤ mx then lcL src (fun d => noX (match putT tg d (wipe δ own) with
    | some δ' => bnd (evC c δ' ifs) fun t => if t then bnd (ev2 c δ' elt).1 fun x => pur (some x) else pur none
    | none => bad)) src.items else bad
/-- a comprehension's tests -/
def evC (c : Ctx) (δ : Env) : Es → M Bool
  | .nil => pur true
  | .cons e es => bnd (ev2 c δ e).2 fun t => if t then evC c δ es else pur false
def evI (c : Ctx) (δ : Env) : It → M Src
  | .e a => bnd (ev2 c δ a).1 srcD
  | .f f => bnd (evF c δ f) fun ds => pur (.its ds)
  | .rng1 a => bnd (ev2 c δ a).1 rngD
  | .rng2 a b => bnd (ev2 c δ a).1 fun x => bnd (ev2 c δ b).1 fun y => rngD2 x y
  | .enu a => bnd (ev2 c δ a).1 enuD
  | .zip2 a b => bnd (ev2 c δ a).1 fun x => bnd (ev2 c δ b).1 fun y => zipDD x y
  | .zip3 a b d => bnd (ev2 c δ a).1 fun x => bnd (ev2 c δ b).1 fun y => bnd (ev2 c δ d).1 fun z => zipDDD x y z
end
def evE (c : Ctx) (δ : Env) (e : E) : M D := (ev2 c δ e).1
def evT (c : Ctx) (δ : Env) (e : E) : M Bool := (ev2 c δ e).2

/-- how a statement ends -/
inductive SR where
  | nx (δ : Env) (S : Store) | ret (d : D) (S : Store) | brk (δ : Env) (S : Store) | cont (δ : Env) (S : Store) | exn (x : Exn) (δ : Env) (S : Store) | bad
def lift {α : Type} (δ : Env) (r : R α) (k : α → Store → SR) : SR := match r with
  | .ok a S => k a S
  | .exn x S => .exn x δ S
  | .bad => .bad
def forL (src : Src) (f : D → Env → Store → SR) : List D → Env → Store → SR
  | [], δ, S => if src.ok S then .nx δ S else .bad
  | d :: r, δ, S => if src.ok S then (match f d δ S with
    | .nx δ' S' => forL src f r δ' S'
    | .cont δ' S' => forL src f r δ' S'
    | .brk δ' S' => .nx δ' S'
    | .ret d S' => .ret d S'
    | .exn x δ' S' => .exn x δ' S'
    | .bad => .bad) else .bad
def whileL (t : Env → M Bool) (f : Env → Store → SR) : Nat → Env → Store → SR
  | 0, _, _ => .bad
  | n + 1, δ, S => lift δ (t δ S) fun b S => if b then (match f δ S with
    | .nx δ' S' => whileL t f n δ' S'
    | .cont δ' S' => whileL t f n δ' S'
    | .brk δ' S' => .nx δ' S'
    | .ret d S' => .ret d S'
    | .exn x δ' S' => .exn x δ' S'
    | .bad => .bad) else .nx δ S
def augD (o : Op) (x y : D) : M D := match x, y with
  | .int i, .int j => (match o with
    | .add => pur (.int (i + j))
    | .sub => pur (.int (i - j))
    | _ => bad)
  | _, _ => bad
/-- the name's slot of an except clause is emptied -/
def clr : Option Nat → Env → Env
  | none, δ => δ
  | some i, δ => δ.set i none
def inR : Option Nat → Env → Bool
  | none, _ => true
  | some i, δ => decide (i < δ.length)
mutual
def evS (c : Ctx) : St → Env → Store → SR
  | .asg t e, δ, S => lift δ (evE c δ e S) fun d S => (match putT t d δ with
    | some δ' => .nx δ' S
    | none => .bad)
  | .sub o i e, δ, S => lift δ (evE c δ e S) fun d S => lift δ (evE c δ o S) fun x S => lift δ (evE c δ i S) fun k S => lift δ (setItem x k d S) fun _ S => .nx δ S
  | .aug i o e, δ, S => (match δ[i]? with
    | some (some x) => lift δ (evE c δ e S) fun y S => lift δ (augD o x y S) fun z S => .nx (δ.set i (some z)) S
    | _ => .bad)
  | .exp e, δ, S => lift δ (evE c δ e S) fun _ S => .nx δ S
  | .ret e, δ, S => lift δ (evE c δ e S) fun d S => .ret d S
  | .if_ t a b, δ, S => lift δ (evT c δ t S) fun k S => if k then evSs c a δ S else evSs c b δ S
  | .for_ t it b, δ, S => lift δ (evI c δ it S) fun src S => forL src (fun d δ S => match putT t d δ with
    | some δ' => evSs c b δ' S
    | none => .bad) src.items δ S
  | .while_ t b, δ, S => whileL (fun δ => evT c δ t) (evSs c b) c.fuel δ S
  | .brk, δ, S => .brk δ S
  | .cont, δ, S => .cont δ S
  | .pass, δ, S => .nx δ S
  | .rais k es, δ, S => lift δ (evEs c δ es S) fun ds S => (match c.ini k with
    | some fs => if fs.length = ds.length then .exn ⟨k, fs.zip ds⟩ δ S else .bad
    | none => .bad)
  | .try_ b hs, δ, S => (match evSs c b δ S with
    | .exn x δ' S' => evH c hs x δ' S'
    | .nx δ' S' => .nx δ' S'
    | .cont δ' S' => .cont δ' S'
    | .brk δ' S' => .brk δ' S'
    | .ret d S' => .ret d S'
    | .bad => .bad)
def evSs (c : Ctx) : Ss → Env → Store → SR
  | .nil, δ, S => .nx δ S
  | .cons s ss, δ, S => (match evS c s δ S with
    | .nx δ' S' => evSs c ss δ' S'
    | .cont δ' S' => .cont δ' S'
    | .brk δ' S' => .brk δ' S'
    | .ret d S' => .ret d S'
    | .exn x δ' S' => .exn x δ' S'
    | .bad => .bad)
def evH (c : Ctx) : Hs → Exn → Env → Store → SR
  | .nil, x, δ, S => .exn x δ S
  | .cons k i b hs, x, δ, S => if c.isa x.cls k then (if inR i δ then (match evSs { c with cur := i.map fun i => (i, x) } b (clr i δ) S with
    | .nx δ' S' => .nx (clr i δ') S'
    | .cont δ' S' => .cont (clr i δ') S'
    | .brk δ' S' => .brk (clr i δ') S'
    | .ret d S' => .ret d S'
    | .exn _ _ _ => .bad
    | .bad => .bad) else .bad) else evH c hs x δ S
end

/-! ### the program -/
mutual
def D.bel (k : Nat) : D → Bool
  | .tup ds => D.bels k ds
  | .ref n => decide (n < k)
  | .rol ds => D.bels k ds
  | _ => true
def D.bels (k : Nat) : List D → Bool
  | [] => true
  | d :: ds => d.bel k && D.bels k ds
end
def O.bel (k : Nat) : O → Bool
  | .lst ds => D.bels k ds
  | .dic kvs => kvs.all fun p => p.2.bel k
/-- what stood ahead of the call is as it was, or tells of nothing that is newer -/
def oldOk (S S' : Store) : Bool := (List.range S.length).all fun n => decide (S'[n]? = S[n]?) || (match S'[n]? with
  | some o => o.bel S.length
  | none => true)
def fin (S : Store) : R D → R D
  | .ok d S' => if d.bel S.length && oldOk S S' then .ok d (S'.take S.length) else .ok d S'
  | .exn x S' => if (x.fs.all fun p => p.2.bel S.length) && oldOk S S' then .exn x (S'.take S.length) else .exn x S'
  | .bad => .bad
structure Fn where
  pars : Nat
  slots : Nat
  body : Ss
structure Prog where
  fns : String → Option Fn
  glo : String → Option D
  isa : String → String → Bool
  ini : String → Option (List String)
def endR : SR → R D
  | .nx _ S => .ok .non S
  | .ret d S => .ok d S
  | .exn x _ S => .exn x S
  | _ => .bad
def ctx (P : Prog) (w : Nat) (call : String → List D → M D) : Ctx := ⟨call, P.glo, P.isa, P.ini, w, none⟩
def runF (P : Prog) (w : Nat) (call : String → List D → M D) (f : Fn) (ds : List D) : M D := fun S =>
  if ds.length = f.pars then fin S (endR (evSs (ctx P w call) f.body (ds.map some ++ List.replicate (f.slots - f.pars) none) S)) else .bad
def callN (P : Prog) (w : Nat) : Nat → String → List D → M D
  | 0, _, _ => bad
  | n + 1, f, ds => match P.fns f with
    | some fn => runF P w (callN P w n) fn ds
    | none => bad
end Mi

set_option Elab.async false
set_option linter.all false
set_option maxRecDepth 100000
set_option maxHeartbeats 4000000
/-! Mi, 2: data and the abstract heap; operations by values. -/
namespace Mi
open PySem PySem.Spec PyProof.Rows L2

abbrev Fg := PySem.W.Frag
def sV (s : List Nat) : Str := ⟨s.toArray⟩
theorem sV_len (s : List Nat) : (sV s).length = s.length := by simp [sV, Str.length]
theorem sV_inj {s t : List Nat} (h : sV s = sV t) : s = t := by
  have h2 : s.toArray = t.toArray := congrArg Str.cps h
  simpa using h2
theorem mx_eq : mx = sizeLine := rfl

/-! ### data at the abstract heap -/
def Tp (K : Fg) (ρ : List Addr) (H : Hp) (a : Addr) (xs : List V) : Prop :=
  (a ∉ ρ ∧ Rd H a (.tup xs)) ∨
    ∃ (o : Obj) (its : Array Value) (n : Nat), K.lookup a = some o ∧ o.cls = .type "tuple" ∧ o.data = .seq its n ∧ its.size ≤ sizeLine ∧ Vals xs its.toList
def Rl (K : Fg) (ρ : List Addr) (H : Hp) (a : Addr) (xs : List V) : Prop :=
  (a ∉ ρ ∧ ∃ o, H a = some (.frz o (.lst xs))) ∨
    ∃ (o : Obj) (its : Array Value) (n : Nat), K.lookup a = some o ∧ o.cls = .type "list" ∧ o.dict = none ∧ o.data = .seq its n ∧ its.size ≤ sizeLine ∧ Vals xs its.toList
theorem Tp.sq {K : Fg} {ρ : List Addr} {H : Hp} {a : Addr} {xs : List V} (h : Tp K ρ H a xs) : SqT K H a xs := h.imp (fun h => h.2) fun h => h
theorem Rl.sq {K : Fg} {ρ : List Addr} {H : Hp} {a : Addr} {xs : List V} (h : Rl K ρ H a xs) : SqL K H a xs := h.imp (fun h => .inr h.2) fun h => h
mutual
def Rv (K : Fg) (ρ : List Addr) (H : Hp) : D → V → Prop
  | .non, v => v = .non
  | .bl b, v => v = .bl b
  | .int i, v => v = .int i
  | .str s, v => v = .str (sV s)
  | .tup ds, v => ∃ a xs, v = .ref a ∧ Tp K ρ H a xs ∧ Rvs K ρ H ds xs
  | .ref n, v => ∃ a, v = .ref a ∧ ρ[n]? = some a
  | .rol ds, v => ∃ a xs, v = .ref a ∧ Rl K ρ H a xs ∧ Rvs K ρ H ds xs
def Rvs (K : Fg) (ρ : List Addr) (H : Hp) : List D → List V → Prop
  | [], vs => vs = []
  | d :: ds, vs => ∃ x xs, vs = x :: xs ∧ Rv K ρ H d x ∧ Rvs K ρ H ds xs
end
/-- a step: all that is not of the store is kept -/
def Stp (ρ : List Addr) (H : Hp) (ρ' : List Addr) (H' : Hp) : Prop := ρ <+: ρ' ∧ ∀ a o, H a = some o → a ∉ ρ → H' a = some o ∧ a ∉ ρ'
section
variable {K : Fg} {ρ ρ' ρ1 ρ2 : List Addr} {H H' H1 H2 : Hp} {a : Addr} {xs : List V}
theorem Stp.refl : Stp ρ H ρ H := ⟨List.prefix_refl _, fun _ _ h n => ⟨h, n⟩⟩
theorem Stp.trans (s : Stp ρ H ρ1 H1) (t : Stp ρ1 H1 ρ2 H2) : Stp ρ H ρ2 H2 :=
  ⟨s.1.trans t.1, fun a o h n => let ⟨h1, n1⟩ := s.2 a o h n; t.2 a o h1 n1⟩
theorem pre_get {ρ ρ' : List Addr} (h : ρ <+: ρ') {n : Nat} {a : Addr} (e : ρ[n]? = some a) : ρ'[n]? = some a := by
  obtain ⟨t, rfl⟩ := h
  have hn : n < ρ.length := (List.getElem?_eq_some_iff.mp e).1
  rw [List.getElem?_append_left hn]
  exact e
theorem Tp.mono (s : Stp ρ H ρ' H') (h : Tp K ρ H a xs) : Tp K ρ' H' a xs := by
  rcases h with ⟨n, h | ⟨o, h⟩⟩ | h
  · obtain ⟨h', n'⟩ := s.2 a _ h n
    exact .inl ⟨n', .inl h'⟩
  · obtain ⟨h', n'⟩ := s.2 a _ h n
    exact .inl ⟨n', .inr ⟨o, h'⟩⟩
  · exact .inr h
theorem Rl.mono (s : Stp ρ H ρ' H') (h : Rl K ρ H a xs) : Rl K ρ' H' a xs := by
  rcases h with ⟨n, o, h⟩ | h
  · obtain ⟨h', n'⟩ := s.2 a _ h n
    exact .inl ⟨n', o, h'⟩
  · exact .inr h
mutual
theorem Rv.mono (s : Stp ρ H ρ' H') : ∀ {d : D} {v : V}, Rv K ρ H d v → Rv K ρ' H' d v
  | .non, _, h => h
  | .bl _, _, h => h
  | .int _, _, h => h
  | .str _, _, h => h
  | .tup ds, _, h => by
    obtain ⟨a, xs, e, t, r⟩ := h
    exact ⟨a, xs, e, t.mono s, Rvs.mono s (ds := ds) r⟩
  | .ref n, _, h => by
    obtain ⟨a, e, q⟩ := h
    exact ⟨a, e, pre_get s.1 q⟩
  | .rol ds, _, h => by
    obtain ⟨a, xs, e, t, r⟩ := h
    exact ⟨a, xs, e, t.mono s, Rvs.mono s (ds := ds) r⟩
theorem Rvs.mono (s : Stp ρ H ρ' H') : ∀ {ds : List D} {vs : List V}, Rvs K ρ H ds vs → Rvs K ρ' H' ds vs
  | [], _, h => h
  | d :: ds, _, h => by
    obtain ⟨x, xs, e, r, t⟩ := h
    exact ⟨x, xs, e, Rv.mono s (d := d) r, Rvs.mono s (ds := ds) t⟩
end
theorem Rvs.length : ∀ {ds : List D} {vs : List V}, Rvs K ρ H ds vs → ds.length = vs.length
  | [], _, h => by
    have e : _ = ([] : List V) := h
    rw [e]
    rfl
  | d :: ds, _, h => by
    obtain ⟨x, xs, rfl, _, t⟩ := h
    simp [Rvs.length t]
theorem Rvs.get : ∀ {ds : List D} {vs : List V} {i : Nat} {d : D}, Rvs K ρ H ds vs → ds[i]? = some d → ∃ v, vs[i]? = some v ∧ Rv K ρ H d v
  | [], _, i, d, _, e => by simp at e
  | d0 :: ds, _, 0, d, h, e => by
    obtain ⟨x, xs, rfl, r, t⟩ := h
    simp at e
    subst e
    exact ⟨x, by simp, r⟩
  | d0 :: ds, _, i + 1, d, h, e => by
    obtain ⟨x, xs, rfl, r, t⟩ := h
    obtain ⟨v, h1, h2⟩ := Rvs.get (i := i) t (by simpa using e)
    exact ⟨v, by simpa using h1, h2⟩
theorem Rvs.getV : ∀ {ds : List D} {vs : List V} {i : Nat} {v : V}, Rvs K ρ H ds vs → vs[i]? = some v → ∃ d, ds[i]? = some d ∧ Rv K ρ H d v
  | [], _, i, d, h, e => by
    have h' : _ = ([] : List V) := h
    rw [h'] at e
    simp at e
  | d0 :: ds, _, 0, d, h, e => by
    obtain ⟨x, xs, rfl, r, t⟩ := h
    simp at e
    subst e
    exact ⟨d0, by simp, r⟩
  | d0 :: ds, _, i + 1, d, h, e => by
    obtain ⟨x, xs, rfl, r, t⟩ := h
    obtain ⟨v, h1, h2⟩ := Rvs.getV (i := i) t (by simpa using e)
    exact ⟨v, by simpa using h1, h2⟩
theorem Rvs.app : ∀ {ds es : List D} {vs ws : List V}, Rvs K ρ H ds vs → Rvs K ρ H es ws → Rvs K ρ H (ds ++ es) (vs ++ ws)
  | [], _, _, _, h, g => by
    have h' : _ = ([] : List V) := h
    rw [h']
    exact g
  | d :: ds, _, _, _, h, g => by
    obtain ⟨x, xs, rfl, r, t⟩ := h
    exact ⟨x, _, rfl, r, Rvs.app t g⟩
theorem Rvs.one {d : D} {v : V} (h : Rv K ρ H d v) : Rvs K ρ H [d] [v] := ⟨v, [], rfl, h, rfl⟩
theorem Rvs.take : ∀ {ds : List D} {vs : List V} (n : Nat), Rvs K ρ H ds vs → Rvs K ρ H (ds.take n) (vs.take n)
  | ds, vs, 0, _ => by
    rw [List.take_zero, List.take_zero]
    rfl
  | [], _, n + 1, h => by
    have h' : _ = ([] : List V) := h
    rw [h']
    rfl
  | d :: ds, _, n + 1, h => by
    obtain ⟨x, xs, rfl, r, t⟩ := h
    exact ⟨x, xs.take n, rfl, r, Rvs.take n t⟩
theorem Rvs.drop : ∀ {ds : List D} {vs : List V} (n : Nat), Rvs K ρ H ds vs → Rvs K ρ H (ds.drop n) (vs.drop n)
  | ds, vs, 0, h => by simpa using h
  | [], _, n + 1, h => by
    have h' : _ = ([] : List V) := h
    rw [h']
    rfl
  | d :: ds, _, n + 1, h => by
    obtain ⟨x, xs, rfl, r, t⟩ := h
    exact Rvs.drop n t
theorem Rvs.set {d : D} {v : V} (hd : Rv K ρ H d v) : ∀ {ds : List D} {vs : List V} (n : Nat), Rvs K ρ H ds vs → Rvs K ρ H (ds.set n d) (vs.set n v)
  | [], _, n, h => by
    have h' : _ = ([] : List V) := h
    rw [h']
    rfl
  | d0 :: ds, _, 0, h => by
    obtain ⟨x, xs, rfl, r, t⟩ := h
    exact ⟨v, xs, rfl, hd, t⟩
  | d0 :: ds, _, n + 1, h => by
    obtain ⟨x, xs, rfl, r, t⟩ := h
    exact ⟨x, _, rfl, r, Rvs.set hd n t⟩
theorem Rvs.rev : ∀ {ds : List D} {vs : List V}, Rvs K ρ H ds vs → Rvs K ρ H ds.reverse vs.reverse
  | [], _, h => by
    have h' : _ = ([] : List V) := h
    rw [h']
    rfl
  | d :: ds, _, h => by
    obtain ⟨x, xs, rfl, r, t⟩ := h
    rw [List.reverse_cons, List.reverse_cons]
    exact Rvs.app (Rvs.rev t) (Rvs.one r)
theorem Rvs.ints : ∀ {ds : List D} {vs : List V} {ns : List Int}, Rvs K ρ H ds vs → ints? ds = some ns → vs = ns.map V.int
  | [], _, ns, h, e => by
    have h' : _ = ([] : List V) := h
    rw [h']
    have e' : some ([] : List Int) = some ns := e
    cases e'
    rfl
  | d :: ds, _, ns, h, e => by
    obtain ⟨x, xs, rfl, r, t⟩ := h
    cases d with
    | int i =>
      have e' : (ints? ds).map (i :: ·) = some ns := e
      cases q : ints? ds with
      | none => rw [q] at e'; cases e'
      | some ms =>
        rw [q] at e'
        have e2 : i :: ms = ns := Option.some.inj e'
        subst e2
        have e3 := Rvs.ints t q
        have e4 : x = .int i := r
        rw [e3, e4]
        rfl
    | _ => cases (show (none : Option (List Int)) = some ns from e)
theorem rvs_ints : ∀ ns : List Int, Rvs K ρ H (ns.map D.int) (ns.map V.int)
  | [] => rfl
  | n :: ns => ⟨.int n, _, rfl, rfl, rvs_ints ns⟩
end

/-! ### the store -/
def kkK : Kk → Key
  | .inl i => .inl i
  | .inr s => .inr (sV s)
theorem kkK_inj {a b : Kk} (h : kkK a = kkK b) : a = b := by
  cases a with
  | inl i => cases b with
    | inl j => exact congrArg Sum.inl (Sum.inl.inj h)
    | inr t => cases h
  | inr s => cases b with
    | inl j => cases h
    | inr t => exact congrArg Sum.inr (sV_inj (Sum.inr.inj h))
def Rkv (K : Fg) (ρ : List Addr) (H : Hp) : List (Kk × D) → List (Key × V) → Prop
  | [], vs => vs = []
  | p :: ps, vs => ∃ x xs, vs = (kkK p.1, x) :: xs ∧ Rv K ρ H p.2 x ∧ Rkv K ρ H ps xs
def ObjR (K : Fg) (ρ : List Addr) (H : Hp) (a : Addr) : O → Prop
  | .lst ds => ∃ xs, H a = some (.lst xs) ∧ Rvs K ρ H ds xs
  | .dic kvs => ∃ vs, H a = some (.dK vs) ∧ Rkv K ρ H kvs vs
structure Sto (K : Fg) (ρ : List Addr) (S : Store) (H : Hp) : Prop where
  len : ρ.length = S.length
  nd : ρ.Nodup
  at_ : ∀ (n : Nat) (o : O), S[n]? = some o → ∃ a, ρ[n]? = some a ∧ ObjR K ρ H a o
section
variable {K : Fg} {ρ ρ' : List Addr} {H H' : Hp} {S : Store} {a p : Addr}
theorem Rkv.mono (s : Stp ρ H ρ' H') : ∀ {ps : List (Kk × D)} {vs : List (Key × V)}, Rkv K ρ H ps vs → Rkv K ρ' H' ps vs
  | [], _, h => h
  | p :: ps, _, h => by
    obtain ⟨x, xs, e, r, t⟩ := h
    exact ⟨x, xs, e, r.mono s, Rkv.mono s t⟩
theorem Sto.some (R : Sto K ρ S H) (h : a ∈ ρ) : ∃ o, H a = some o := by
  obtain ⟨n, hn⟩ := List.getElem?_of_mem h
  have h1 : n < S.length := by
    rw [← R.len]
    exact (List.getElem?_eq_some_iff.mp hn).1
  obtain ⟨b, e, q⟩ := R.at_ n S[n] (List.getElem?_eq_getElem h1)
  rw [hn] at e
  cases e
  cases hs : S[n] with
  | lst ds => rw [hs] at q; obtain ⟨xs, e, _⟩ := q; exact ⟨_, e⟩
  | dic ds => rw [hs] at q; obtain ⟨xs, e, _⟩ := q; exact ⟨_, e⟩
theorem Sto.fresh (R : Sto K ρ S H) (h : H p = none) : p ∉ ρ := fun m => by
  obtain ⟨o, e⟩ := R.some m
  rw [h] at e
  cases e
theorem Stp.new {o : HO} (h : H p = none) : Stp ρ H ρ (upd H p o) := ⟨List.prefix_refl _, fun b u e n => ⟨by rw [upd_ne (ne_of_none e h)]; exact e, n⟩⟩
theorem Stp.mut {n : Nat} {o : HO} (h : ρ[n]? = Option.some p) : Stp ρ H ρ (upd H p o) := ⟨List.prefix_refl _, fun b u e m => ⟨by
  rw [upd_ne fun z => m (by rw [z]; exact List.mem_of_getElem? h)]
  exact e, m⟩⟩
theorem ObjR.mono (s : Stp ρ H ρ' H') {o : O} (h : ObjR K ρ H a o) (e : H' a = H a) : ObjR K ρ' H' a o := by
  cases o with
  | lst ds => obtain ⟨xs, q, r⟩ := h; exact ⟨xs, e.trans q, r.mono s⟩
  | dic ds => obtain ⟨xs, q, r⟩ := h; exact ⟨xs, e.trans q, r.mono s⟩
/-- a new object that is not of the store -/
theorem Sto.new {o : HO} (R : Sto K ρ S H) (h : H p = none) : Sto K ρ S (upd H p o) := ⟨R.len, R.nd, fun n u e => by
  obtain ⟨b, hb, q⟩ := R.at_ n u e
  refine ⟨b, hb, q.mono (Stp.new h) (upd_ne fun z => R.fresh h (by rw [← z]; exact List.mem_of_getElem? hb))⟩⟩
theorem Stp.grow (h : ∀ o, H p = some o → p ∈ ρ → False) (hp : ∀ o, H p ≠ some o) : Stp ρ H (ρ ++ [p]) H := ⟨List.prefix_append _ _, fun a o e n => ⟨e, fun m => by
  rcases List.mem_append.mp m with m | m
  · exact n m
  · have z : a = p := by simpa using m
    rw [z] at e
    exact hp o e⟩⟩
/-- a new object of the store -/
theorem Sto.alloc {o : O} {u : HO} (R : Sto K ρ S H) (h : H p = none) (ho : ObjR K (ρ ++ [p]) (upd H p u) p o) : Sto K (ρ ++ [p]) (S ++ [o]) (upd H p u) := by
  have hf := R.fresh h
  have st : Stp ρ H (ρ ++ [p]) (upd H p u) := ⟨List.prefix_append _ _, fun a w e n => ⟨by rw [upd_ne (ne_of_none e h)]; exact e, fun m => by
    rcases List.mem_append.mp m with m | m
    · exact n m
    · have z : a = p := by simpa using m
      rw [z, h] at e
      cases e⟩⟩
  refine ⟨by simp [R.len], ?_, fun n w e => ?_⟩
  · refine List.nodup_append.mpr ⟨R.nd, by simp, fun x hx y hy => ?_⟩
    have z : y = p := by simpa using hy
    rw [z]
    intro q
    rw [q] at hx
    exact hf hx
  · by_cases hn : n < S.length
    · rw [List.getElem?_append_left hn] at e
      obtain ⟨b, hb, q⟩ := R.at_ n w e
      refine ⟨b, ?_, q.mono st (upd_ne fun z => hf (by rw [← z]; exact List.mem_of_getElem? hb))⟩
      rw [List.getElem?_append_left (by rw [R.len]; exact hn)]
      exact hb
    · have hn2 : n = S.length := by
        have := (List.getElem?_eq_some_iff.mp e).1
        simp at this
        omega
      subst hn2
      simp at e
      subst e
      refine ⟨p, ?_, ho⟩
      rw [← R.len]
      simp
theorem Stp.alloc {u : HO} (h : H p = none) : Stp ρ H (ρ ++ [p]) (upd H p u) := ⟨List.prefix_append _ _, fun a w e n => ⟨by rw [upd_ne (ne_of_none e h)]; exact e, fun m => by
    rcases List.mem_append.mp m with m | m
    · exact n m
    · have z : a = p := by simpa using m
      rw [z, h] at e
      cases e⟩⟩
/-- an object of the store is written -/
theorem Sto.put {n : Nat} {o : O} {u : HO} (R : Sto K ρ S H) (h : ρ[n]? = Option.some p) (ho : ObjR K ρ (upd H p u) p o) : Sto K ρ (S.set n o) (upd H p u) := by
  refine ⟨by simp [R.len], R.nd, fun m w e => ?_⟩
  by_cases hm : m = n
  · subst hm
    have hl : m < S.length := by
      have := (List.getElem?_eq_some_iff.mp e).1
      simpa using this
    rw [List.getElem?_set_self hl] at e
    cases e
    exact ⟨p, h, ho⟩
  · rw [List.getElem?_set_ne (Ne.symm hm)] at e
    obtain ⟨b, hb, q⟩ := R.at_ m w e
    refine ⟨b, hb, q.mono (Stp.mut h) (upd_ne fun z => hm ?_)⟩
    rw [z] at hb
    exact (List.getElem?_inj (by exact (List.getElem?_eq_some_iff.mp hb).1) R.nd).mp (hb.trans h.symm)
theorem Sto.lst {n : Nat} {ds : List D} (R : Sto K ρ S H) (e : S[n]? = Option.some (.lst ds)) : ∃ a xs, ρ[n]? = Option.some a ∧ H a = Option.some (.lst xs) ∧ Rvs K ρ H ds xs := by
  obtain ⟨a, h1, xs, h2, h3⟩ := R.at_ n _ e
  exact ⟨a, xs, h1, h2, h3⟩
theorem Sto.dic {n : Nat} {ds : List (Kk × D)} (R : Sto K ρ S H) (e : S[n]? = Option.some (.dic ds)) : ∃ a xs, ρ[n]? = Option.some a ∧ H a = Option.some (.dK xs) ∧ Rkv K ρ H ds xs := by
  obtain ⟨a, h1, xs, h2, h3⟩ := R.at_ n _ e
  exact ⟨a, xs, h1, h2, h3⟩
end

/-! ### what a run leaves -/
def Gd {α : Type} (K : Fg) (ρ : List Addr) (H : Hp) (W : Exn → Store → List Addr → Hp → Prop) (r : R α) (P : α → Store → List Addr → Hp → Prop) : Prop := match r with
  | .ok a S' => ∀ ρ' H', Stp ρ H ρ' H' → Sto K ρ' S' H' → P a S' ρ' H'
  | .exn x S' => ∀ ρ' H', Stp ρ H ρ' H' → Sto K ρ' S' H' → W x S' ρ' H'
  | .bad => False
section
variable {α β : Type} {K : Fg} {ρ ρ' : List Addr} {H H' : Hp} {S : Store} {W : Exn → Store → List Addr → Hp → Prop} {P P' : α → Store → List Addr → Hp → Prop}
theorem Gd.mono {r : R α} (h : Gd K ρ H W r P) (hp : ∀ a S' ρ' H', Stp ρ H ρ' H' → Sto K ρ' S' H' → P a S' ρ' H' → P' a S' ρ' H') : Gd K ρ H W r P' := by
  cases r with
  | ok a S' => exact fun ρ' H' s t => hp a S' ρ' H' s t (h ρ' H' s t)
  | exn x S' => exact h
  | bad => exact h
theorem Gd.step {r : R α} (s : Stp ρ H ρ' H') (h : Gd K ρ H W r P) : Gd K ρ' H' W r P := by
  cases r with
  | ok a S' => exact fun ρ2 H2 t u => h ρ2 H2 (s.trans t) u
  | exn x S' => exact fun ρ2 H2 t u => h ρ2 H2 (s.trans t) u
  | bad => exact h
theorem Gd.bind {P : β → Store → List Addr → Hp → Prop} {r : R α} {k : α → M β} (h : Gd K ρ H W (r.bind k) P) : Gd K ρ H W r fun a S' ρ' H' => Gd K ρ' H' W (k a S') P := by
  cases r with
  | ok a S' =>
    intro ρ' H' s t
    exact Gd.step (r := k a S') s h
  | exn x S' => exact h
  | bad => exact h
theorem Gd.here {a : α} (h : Gd K ρ H W (.ok a S) P) (R : Sto K ρ S H) : P a S ρ H := h ρ H Stp.refl R
end
def NoW : Exn → Store → List Addr → Hp → Prop := fun _ _ _ _ => False
theorem Gd.noW {α : Type} {K : Fg} {ρ : List Addr} {H : Hp} {W : Exn → Store → List Addr → Hp → Prop} {P : α → Store → List Addr → Hp → Prop} {r : R α} (h : Gd K ρ H W r P) (hn : ∀ x S', r ≠ .exn x S') : Gd K ρ H NoW r P := by
  cases r with
  | ok a S' => exact h
  | exn x S' => exact absurd rfl (hn x S')
  | bad => exact h
/-- a value is wanted -/
def Vq (K : Fg) (Q : VK) : D → Store → List Addr → Hp → Prop := fun d _ ρ' H' => ∀ v, Rv K ρ' H' d v → Q v H'
end Mi

set_option Elab.async false
set_option linter.all false
set_option maxRecDepth 100000
set_option maxHeartbeats 4000000
/-! Mi, 3: operations by values. -/
namespace Mi
open PySem PySem.Spec PyProof.Rows L2

section
variable {K : Fg} {ρ : List Addr} {H : Hp} {S : Store} {Q : VK} {p : Addr} {ds : List D} {xs : List V}
theorem Gd.alloc (g : Gd K ρ H NoW (Mi.alloc (.lst ds) S) (Vq K Q)) (R : Sto K ρ S H) (hp : H p = none) (rs : Rvs K ρ H ds xs) : Q (.ref p) (upd H p (.lst xs)) := by
  have st : Stp ρ H (ρ ++ [p]) (upd H p (.lst xs)) := Stp.alloc hp
  refine g (ρ ++ [p]) _ st (R.alloc hp ⟨xs, upd_same, rs.mono st⟩) (.ref p) ⟨p, rfl, ?_⟩
  rw [← R.len]
  simp
theorem Gd.tupN (g : Gd K ρ H NoW (pur (.tup ds) S) (Vq K Q)) (R : Sto K ρ S H) (hp : H p = none) (rs : Rvs K ρ H ds xs) : Q (.ref p) (upd H p (.tup xs)) :=
  g ρ _ (Stp.new hp) (R.new hp) (.ref p) ⟨p, xs, rfl, .inl ⟨R.fresh hp, .inl upd_same⟩, rs.mono (Stp.new hp)⟩
theorem Gd.val {d : D} {v : V} (g : Gd K ρ H NoW (pur d S) (Vq K Q)) (R : Sto K ρ S H) (r : Rv K ρ H d v) : Q v H := g.here R v r
end
theorem sV_app (s t : List Nat) : sV s ++ sV t = sV (s ++ t) := by
  show (⟨s.toArray ++ t.toArray⟩ : Str) = ⟨(s ++ t).toArray⟩
  simp

def rD2 (K : Fg) (m : D → D → M D) : R2 := fun x y H Q => ∃ ρ S d e, Sto K ρ S H ∧ Rv K ρ H d x ∧ Rv K ρ H e y ∧ Gd K ρ H NoW (m d e S) (Vq K Q)
def rD1 (K : Fg) (m : D → M D) : V → Hp → VK → Prop := fun x H Q => ∃ ρ S d, Sto K ρ S H ∧ Rv K ρ H d x ∧ Gd K ρ H NoW (m d S) (Vq K Q)
def rDs (K : Fg) (m : List D → M D) : List V → Hp → VK → Prop := fun xs H Q => ∃ ρ S ds, Sto K ρ S H ∧ Rvs K ρ H ds xs ∧ Gd K ρ H NoW (m ds S) (Vq K Q)

section
variable {X : Cx}
theorem bo_add : OpR X (binaryOp .Add) (rD2 X.K (opD .add)) := by
  rintro pins s σ H x y v u Q I rx ry ⟨ρ, S, d, e, R, rd, re, g⟩
  cases d <;> cases e <;> try exact (show False from g).elim
  case int.int i j =>
    obtain rfl : x = .int i := rd
    obtain rfl : y = .int j := re
    exact op_add pins s σ H _ _ v u Q I rx ry ⟨i, j, rfl, rfl, Gd.val g R rfl⟩
  case str.str a b =>
    obtain rfl : x = .str (sV a) := rd
    obtain rfl : y = .str (sV b) := re
    have g' : Gd X.K ρ H NoW ((if a.length + b.length ≤ mx then pur (.str (a ++ b)) else bad : M D) S) (Vq X.K Q) := g
    by_cases hc : a.length + b.length ≤ mx
    · rw [if_pos hc] at g'
      refine op_add_str pins s σ H _ _ v u Q I rx ry ⟨_, _, rfl, rfl, by rw [sV_len, sV_len]; exact hc, ?_⟩
      rw [sV_app]
      exact Gd.val g' R rfl
    · rw [if_neg hc] at g'
      exact (show False from g').elim
  case tup.tup a b =>
    obtain ⟨p1, xs, rfl, t1, r1⟩ := rd
    obtain ⟨p2, ys, rfl, t2, r2⟩ := re
    have g' : Gd X.K ρ H NoW ((if a.length + b.length ≤ mx then pur (.tup (a ++ b)) else bad : M D) S) (Vq X.K Q) := g
    by_cases hc : a.length + b.length ≤ mx
    · rw [if_pos hc] at g'
      refine op_catA pins s σ H _ _ v u Q I rx ry ⟨p1, p2, xs, ys, rfl, rfl, t1.sq, t2.sq, by rw [← r1.length, ← r2.length]; exact hc, fun hx => ?_, fun hx hy => ?_, fun hx hy p hp => ?_⟩
      · subst hx
        have ha : a = [] := List.eq_nil_of_length_eq_zero (by rw [r1.length]; rfl)
        subst ha
        exact Gd.val g' R ⟨p2, ys, rfl, t2, r2⟩
      · subst hy
        have hb : b = [] := List.eq_nil_of_length_eq_zero (by rw [r2.length]; rfl)
        subst hb
        rw [List.append_nil] at g'
        exact Gd.val g' R ⟨p1, xs, rfl, t1, r1⟩
      · exact Gd.tupN g' R hp (r1.app r2)
    · rw [if_neg hc] at g'
      exact (show False from g').elim
  case ref.ref n m =>
    obtain ⟨p1, rfl, h1⟩ := rd
    obtain ⟨p2, rfl, h2⟩ := re
    have g' : Gd X.K ρ H NoW ((getL n S).bind fun s => bnd (getL m) fun t => if s.length + t.length ≤ mx then Mi.alloc (.lst (s ++ t)) else bad) (Vq X.K Q) := g
    unfold getL at g'
    cases hn : S[n]? with
    | none => rw [hn] at g'; exact (show False from g').elim
    | some o =>
      rw [hn] at g'
      cases o with
      | dic _ => exact (show False from g').elim
      | lst as =>
        cases hm : S[m]? with
        | none =>
          have g2 : Gd X.K ρ H NoW (bnd (getL m) (fun t => if as.length + t.length ≤ mx then Mi.alloc (.lst (as ++ t)) else bad) S) (Vq X.K Q) := g'
          unfold bnd getL at g2
          rw [hm] at g2
          exact (show False from g2).elim
        | some o =>
          have g2 : Gd X.K ρ H NoW (bnd (getL m) (fun t => if as.length + t.length ≤ mx then Mi.alloc (.lst (as ++ t)) else bad) S) (Vq X.K Q) := g'
          unfold bnd getL at g2
          rw [hm] at g2
          cases o with
          | dic _ => exact (show False from g2).elim
          | lst bs =>
            have g3 : Gd X.K ρ H NoW ((if as.length + bs.length ≤ mx then Mi.alloc (.lst (as ++ bs)) else bad : M D) S) (Vq X.K Q) := g2
            obtain ⟨q1, xs, e1, w1, r1⟩ := R.lst hn
            obtain ⟨q2, ys, e2, w2, r2⟩ := R.lst hm
            rw [h1] at e1; cases e1
            rw [h2] at e2; cases e2
            by_cases hc : as.length + bs.length ≤ mx
            · rw [if_pos hc] at g3
              exact op_cat pins s σ H _ _ v u Q I rx ry ⟨p1, p2, xs, ys, rfl, rfl, w1, w2, by rw [← r1.length, ← r2.length]; exact hc, fun p hp => Gd.alloc g3 R hp (r1.app r2)⟩
            · rw [if_neg hc] at g3
              exact (show False from g3).elim
theorem bo_sub : OpR X (binaryOp .Sub) (rD2 X.K (opD .sub)) := by
  rintro pins s σ H x y v u Q I rx ry ⟨ρ, S, d, e, R, rd, re, g⟩
  cases d <;> cases e <;> try exact (show False from g).elim
  case int.int i j =>
    obtain rfl : x = .int i := rd
    obtain rfl : y = .int j := re
    exact op_sub pins s σ H _ _ v u Q I rx ry ⟨i, j, rfl, rfl, Gd.val g R rfl⟩
theorem bo_mul : OpR X (binaryOp .Mult) (rD2 X.K (opD .mul)) := by
  rintro pins s σ H x y v u Q I rx ry ⟨ρ, S, d, e, R, rd, re, g⟩
  cases d <;> cases e <;> try exact (show False from g).elim
  case int.int i j =>
    obtain rfl : x = .int i := rd
    obtain rfl : y = .int j := re
    have g' : Gd X.K ρ H NoW ((if (decide (-(2 ^ 64) < i) && decide (i < 2 ^ 64)) || (decide (-(2 ^ 64) < j) && decide (j < 2 ^ 64)) then pur (.int (i * j)) else bad : M D) S) (Vq X.K Q) := g
    by_cases hc : ((decide (-(2 ^ 64) < i) && decide (i < 2 ^ 64)) || (decide (-(2 ^ 64) < j) && decide (j < 2 ^ 64))) = true
    · rw [if_pos hc] at g'
      refine op_mul pins s σ H _ _ v u Q I rx ry ⟨i, j, rfl, rfl, ?_, Gd.val g' R rfl⟩
      simp only [Bool.or_eq_true, Bool.and_eq_true, decide_eq_true_eq] at hc
      exact hc
    · rw [if_neg hc] at g'
      exact (show False from g').elim
theorem bo_fdiv : OpR X (binaryOp .FloorDiv) (rD2 X.K (opD .fdiv)) := by
  rintro pins s σ H x y v u Q I rx ry ⟨ρ, S, d, e, R, rd, re, g⟩
  cases d <;> cases e <;> try exact (show False from g).elim
  case int.int i j =>
    obtain rfl : x = .int i := rd
    obtain rfl : y = .int j := re
    have g' : Gd X.K ρ H NoW ((if decide (0 < j) && decide (j.natAbs.log2 < 9000) then pur (.int (i / j)) else bad : M D) S) (Vq X.K Q) := g
    by_cases hc : (decide (0 < j) && decide (j.natAbs.log2 < 9000)) = true
    · rw [if_pos hc] at g'
      simp only [Bool.and_eq_true, decide_eq_true_eq] at hc
      exact op_fdivW pins s σ H _ _ v u Q I rx ry ⟨i, j, rfl, rfl, hc, Gd.val g' R rfl⟩
    · rw [if_neg hc] at g'
      exact (show False from g').elim
theorem bo_mod : OpR X (binaryOp .Mod) (rD2 X.K (opD .mod)) := by
  rintro pins s σ H x y v u Q I rx ry ⟨ρ, S, d, e, R, rd, re, g⟩
  cases d <;> cases e <;> try exact (show False from g).elim
  case int.int i j =>
    obtain rfl : x = .int i := rd
    obtain rfl : y = .int j := re
    have g' : Gd X.K ρ H NoW ((if 0 < j then pur (.int (i % j)) else bad : M D) S) (Vq X.K Q) := g
    by_cases hc : 0 < j
    · rw [if_pos hc] at g'
      exact op_mod pins s σ H _ _ v u Q I rx ry ⟨i, j, rfl, rfl, hc, Gd.val g' R rfl⟩
    · rw [if_neg hc] at g'
      exact (show False from g').elim
theorem bo_pow : OpR X (binaryOp .Pow) (rD2 X.K (opD .pow)) := by
  rintro pins s σ H x y v u Q I rx ry ⟨ρ, S, d, e, R, rd, re, g⟩
  cases d <;> cases e <;> try exact (show False from g).elim
  case int.int i j =>
    obtain rfl : x = .int i := rd
    obtain rfl : y = .int j := re
    have g' : Gd X.K ρ H NoW ((if decide (0 ≤ j) && (decide (j ≤ 1000000) && decide (i.natAbs < 2 ^ 64)) then pur (.int (i ^ j.toNat)) else bad : M D) S) (Vq X.K Q) := g
    by_cases hc : (decide (0 ≤ j) && (decide (j ≤ 1000000) && decide (i.natAbs < 2 ^ 64))) = true
    · rw [if_pos hc] at g'
      simp only [Bool.and_eq_true, decide_eq_true_eq] at hc
      exact op_pow pins s σ H _ _ v u Q I rx ry ⟨i, j, rfl, rfl, hc, Gd.val g' R rfl⟩
    · rw [if_neg hc] at g'
      exact (show False from g').elim
theorem bo_band : OpR X (binaryOp .BitAnd) (rD2 X.K (opD .band)) := by
  rintro pins s σ H x y v u Q I rx ry ⟨ρ, S, d, e, R, rd, re, g⟩
  cases d <;> cases e <;> try exact (show False from g).elim
  case int.int i j =>
    obtain rfl : x = .int i := rd
    obtain rfl : y = .int j := re
    exact op_and pins s σ H _ _ v u Q I rx ry ⟨i, j, rfl, rfl, Gd.val g R rfl⟩
/-! ### comparisons -/
mutual
def D.pd : D → PyData
  | .non => .none
  | .bl b => .bool b
  | .int i => .int i
  | .str s => .str (sV s)
  | .tup ds => .tuple (D.pds ds)
  | .ref _ => .none
  | .rol _ => .none
def D.pds : List D → List PyData
  | [] => []
  | d :: ds => d.pd :: D.pds ds
end
mutual
theorem eqv_pd : ∀ (d e : D), d.flat = true → e.flat = true → PyData.eqv d.pd e.pd = D.eqv d e
  | .non, e, hd, he => by
    cases e <;> first | rfl | exact absurd (show false = true from he) Bool.false_ne_true
  | .bl b, e, hd, he => by
    cases e <;> first | rfl | exact absurd (show false = true from he) Bool.false_ne_true
  | .int i, e, hd, he => by
    cases e <;> first | rfl | exact absurd (show false = true from he) Bool.false_ne_true
  | .str s, e, hd, he => by
    cases e with
    | str t =>
      show (sV s == sV t) = (s == t)
      by_cases h : s = t
      · rw [h]; simp
      · have h2 : ¬ sV s = sV t := fun q => h (sV_inj q)
        rw [beq_eq_false_iff_ne.mpr h, beq_eq_false_iff_ne.mpr h2]
    | ref _ => exact absurd (show false = true from he) Bool.false_ne_true
    | rol _ => exact absurd (show false = true from he) Bool.false_ne_true
    | _ => rfl
  | .tup ds, e, hd, he => by
    cases e with
    | tup es => exact eqv_pds ds es hd he
    | ref _ => exact absurd (show false = true from he) Bool.false_ne_true
    | rol _ => exact absurd (show false = true from he) Bool.false_ne_true
    | _ => rfl
  | .ref _, e, hd, he => absurd (show false = true from hd) Bool.false_ne_true
  | .rol _, e, hd, he => absurd (show false = true from hd) Bool.false_ne_true
theorem eqv_pds : ∀ (ds es : List D), D.flats ds = true → D.flats es = true → PyData.eqvAll (D.pds ds) (D.pds es) = D.eqvs ds es
  | [], [], _, _ => rfl
  | [], _ :: _, _, _ => rfl
  | _ :: _, [], _, _ => rfl
  | d :: ds, e :: es, h1, h2 => by
    obtain ⟨a1, a2⟩ := Bool.and_eq_true_iff.mp (show (d.flat && D.flats ds) = true from h1)
    obtain ⟨b1, b2⟩ := Bool.and_eq_true_iff.mp (show (e.flat && D.flats es) = true from h2)
    show (PyData.eqv d.pd e.pd && PyData.eqvAll (D.pds ds) (D.pds es)) = (D.eqv d e && D.eqvs ds es)
    rw [eqv_pd d e a1 b1, eqv_pds ds es a2 b2]
end
mutual
theorem dp_of {K : Fg} {ρ : List Addr} {H : Hp} : ∀ (d : D) (v : V), d.flat = true → Rv K ρ H d v → Dp K H v d.pd
  | .non, _, _, r => by cases r; exact .non
  | .bl b, _, _, r => by cases r; exact .bl b
  | .int i, _, _, r => by cases r; exact .int i
  | .str s, _, _, r => by cases r; exact .str _
  | .tup ds, _, h, r => by
    obtain ⟨a, xs, rfl, t, r⟩ := r
    exact .tup t.sq (dps_of ds xs h r)
  | .ref _, _, h, _ => absurd (show false = true from h) Bool.false_ne_true
  | .rol _, _, h, _ => absurd (show false = true from h) Bool.false_ne_true
theorem dps_of {K : Fg} {ρ : List Addr} {H : Hp} : ∀ (ds : List D) (vs : List V), D.flats ds = true → Rvs K ρ H ds vs → DpAll K H vs (D.pds ds)
  | [], _, _, r => by
    cases (show _ = ([] : List V) from r)
    exact .nil
  | d :: ds, _, h, r => by
    obtain ⟨x, xs, rfl, r1, r2⟩ := r
    obtain ⟨a1, a2⟩ := Bool.and_eq_true_iff.mp (show (d.flat && D.flats ds) = true from h)
    exact .cons (dp_of d x a1 r1) (dps_of ds xs a2 r2)
end
mutual
theorem dep_pd : ∀ d : D, PyData.depth d.pd ≤ d.dep
  | .non => by simp [D.pd, PyData.depth, D.dep]
  | .bl _ => by simp [D.pd, PyData.depth, D.dep]
  | .int _ => by simp [D.pd, PyData.depth, D.dep]
  | .str _ => by simp [D.pd, PyData.depth, D.dep]
  | .tup ds => by
    have := deps_pd ds
    simp only [D.pd, PyData.depth, D.dep]
    omega
  | .ref _ => by simp [D.pd, PyData.depth, D.dep]
  | .rol _ => by simp [D.pd, PyData.depth, D.dep]
theorem deps_pd : ∀ ds : List D, PyData.depthAll (D.pds ds) ≤ D.deps ds
  | [] => by simp [D.pds, PyData.depthAll, D.deps]
  | d :: ds => by
    have h1 := dep_pd d
    have h2 := deps_pd ds
    simp only [D.pds, PyData.depthAll, D.deps]
    omega
end
end
end Mi

set_option Elab.async false
set_option linter.all false
set_option maxRecDepth 100000
set_option maxHeartbeats 4000000
/-! Mi, 4: comparisons, subscripts, slices, built-ins, methods by values. -/
namespace Mi
open PySem PySem.Spec PyProof.Rows L2
mutual
theorem lay_pd : ∀ d : D, d.flat = true → PyData.canLay0 d.pd = true
  | .non, _ => rfl
  | .bl _, _ => rfl
  | .int _, _ => rfl
  | .str s, h => by
    have h' : (s.all fun c => decide (c < 0x110000)) = true := h
    show PyData.strOk (sV s) = true
    unfold PyData.strOk sV
    simpa using h'
  | .tup ds, h => lay_pds ds h
  | .ref _, h => absurd (show false = true from h) Bool.false_ne_true
  | .rol _, h => absurd (show false = true from h) Bool.false_ne_true
theorem lay_pds : ∀ ds : List D, D.flats ds = true → PyData.canLayAll0 (D.pds ds) = true
  | [], _ => rfl
  | d :: ds, h => by
    obtain ⟨a1, a2⟩ := Bool.and_eq_true_iff.mp (show (d.flat && D.flats ds) = true from h)
    show (PyData.canLay0 d.pd && PyData.canLayAll0 (D.pds ds)) = true
    rw [lay_pd d a1, lay_pds ds a2]
    rfl
end
theorem shaped_pd {d : D} (h : d.eqOk = true) : SeqAt.shaped d.pd = true := by
  obtain ⟨h1, h2⟩ := Bool.and_eq_true_iff.mp h
  have h3 := dep_pd d
  have h4 : d.dep ≤ 60 := of_decide_eq_true h2
  unfold SeqAt.shaped
  rw [lay_pd d h1, decide_eq_true (show PyData.depth d.pd ≤ 64 by omega)]
  rfl
section
variable {X : Cx}
theorem ifG {K : Fg} {ρ : List Addr} {H : Hp} {S : Store} {α : Type} {P : α → Store → List Addr → Hp → Prop} {c : Prop} [Decidable c] {m : M α} (g : Gd K ρ H NoW ((if c then m else bad : M α) S) P) : c ∧ Gd K ρ H NoW (m S) P := by
  by_cases h : c
  · rw [if_pos h] at g
    exact ⟨h, g⟩
  · rw [if_neg h] at g
    exact (show False from g).elim
theorem eq_gen (hu : X.A.units + 64 < cLine) {pins : List (Addr × Obj)} {s : Shared} {σ : L2.St} {H : Hp} {x y : V} {v u : Value} {Q : VK} {ρ : List Addr} {S : Store} (d e : D) (I : Inv X pins σ H s) (rx : RelV x v) (ry : RelV y u)
    (R : Sto X.K ρ S H) (rd : Rv X.K ρ H d x) (re : Rv X.K ρ H e y) (g : Gd X.K ρ H NoW ((if d.eqOk && e.eqOk then pur (.bl (D.eqv d e)) else bad : M D) S) (Vq X.K Q)) :
    wpAny (model X.prog X.w) X.A (compareOp .Eq v u) (EP X pins σ Q) X.xe s := by
  obtain ⟨hc, g⟩ := ifG g
  obtain ⟨h1, h2⟩ := Bool.and_eq_true_iff.mp hc
  have f1 := (Bool.and_eq_true_iff.mp h1).1
  have f2 := (Bool.and_eq_true_iff.mp h2).1
  refine op_eqD hu pins s σ H x y v u Q I rx ry ⟨d.pd, e.pd, dp_of d x f1 rd, dp_of e y f2 re, shaped_pd h1, shaped_pd h2, ?_⟩
  rw [eqv_pd d e f1 f2]
  exact Gd.val g R rfl
theorem ne_gen (hu : X.A.units + 64 < cLine) {pins : List (Addr × Obj)} {s : Shared} {σ : L2.St} {H : Hp} {x y : V} {v u : Value} {Q : VK} {ρ : List Addr} {S : Store} (d e : D) (I : Inv X pins σ H s) (rx : RelV x v) (ry : RelV y u)
    (R : Sto X.K ρ S H) (rd : Rv X.K ρ H d x) (re : Rv X.K ρ H e y) (g : Gd X.K ρ H NoW ((if d.eqOk && e.eqOk then pur (.bl (!D.eqv d e)) else bad : M D) S) (Vq X.K Q)) :
    wpAny (model X.prog X.w) X.A (compareOp .NotEq v u) (EP X pins σ Q) X.xe s := by
  obtain ⟨hc, g⟩ := ifG g
  obtain ⟨h1, h2⟩ := Bool.and_eq_true_iff.mp hc
  have f1 := (Bool.and_eq_true_iff.mp h1).1
  have f2 := (Bool.and_eq_true_iff.mp h2).1
  refine op_neD hu pins s σ H x y v u Q I rx ry ⟨d.pd, e.pd, dp_of d x f1 rd, dp_of e y f2 re, shaped_pd h1, shaped_pd h2, ?_⟩
  rw [eqv_pd d e f1 f2]
  exact Gd.val g R rfl
theorem beqV_int (i j : Int) : decide (V.int i = V.int j) = (i == j) := dec_int
theorem beqV_str (s t : List Nat) : decide (V.str (sV s) = V.str (sV t)) = (s == t) := by
  by_cases h : s = t
  · rw [h]; simp
  · have h2 : ¬ V.str (sV s) = V.str (sV t) := fun q => h (sV_inj (V.str.inj q))
    rw [decide_eq_false h2, beq_eq_false_iff_ne.mpr h]
theorem co_eq (hu : X.A.units + 64 < cLine) : OpR X (compareOp .Eq) (rD2 X.K (opD .eq)) := by
  rintro pins s σ H x y v u Q I rx ry ⟨ρ, S, d, e, R, rd, re, g⟩
  cases d <;> cases e
  case int.int i j =>
    obtain rfl : x = .int i := rd
    obtain rfl : y = .int j := re
    refine op_eq pins s σ H _ _ v u Q I rx ry ⟨rfl, ?_⟩
    rw [beqV_int]
    exact Gd.val g R rfl
  case str.str a b =>
    obtain rfl : x = .str (sV a) := rd
    obtain rfl : y = .str (sV b) := re
    refine op_eq pins s σ H _ _ v u Q I rx ry ⟨rfl, ?_⟩
    rw [beqV_str]
    exact Gd.val g R rfl
  all_goals exact eq_gen hu _ _ I rx ry R rd re g
theorem co_ne (hu : X.A.units + 64 < cLine) : OpR X (compareOp .NotEq) (rD2 X.K (opD .ne)) := by
  rintro pins s σ H x y v u Q I rx ry ⟨ρ, S, d, e, R, rd, re, g⟩
  cases d <;> cases e
  case int.int i j =>
    obtain rfl : x = .int i := rd
    obtain rfl : y = .int j := re
    refine op_ne pins s σ H _ _ v u Q I rx ry ⟨rfl, ?_⟩
    rw [beqV_int]
    exact Gd.val g R rfl
  case str.str a b =>
    obtain rfl : x = .str (sV a) := rd
    obtain rfl : y = .str (sV b) := re
    refine op_ne pins s σ H _ _ v u Q I rx ry ⟨rfl, ?_⟩
    rw [beqV_str]
    exact Gd.val g R rfl
  all_goals exact ne_gen hu _ _ I rx ry R rd re g
theorem lex_eq : ∀ ns ms : List Int, HT.lexLt ns ms = lexLt ns ms
  | [], [] => rfl
  | [], _ :: _ => rfl
  | _ :: _, [] => rfl
  | x :: xs, y :: ys => by
    rw [HT.lexLt_cons, lexLt, lex_eq xs ys]
    by_cases h : x = y
    · rw [if_pos h, if_neg (show ¬ x < y by omega), if_neg (show ¬ y < x by omega)]
    · rw [if_neg h]
      by_cases h2 : x < y
      · rw [if_pos h2, decide_eq_true h2]
      · rw [if_neg h2, if_pos (show y < x by omega), decide_eq_false h2]
theorem co_lt (hu : X.A.units < cLine) : OpR X (compareOp .Lt) (rD2 X.K (opD .lt)) := by
  rintro pins s σ H x y v u Q I rx ry ⟨ρ, S, d, e, R, rd, re, g⟩
  cases d <;> cases e <;> try exact (show False from g).elim
  case int.int i j =>
    obtain rfl : x = .int i := rd
    obtain rfl : y = .int j := re
    exact op_lt pins s σ H _ _ v u Q I rx ry ⟨i, j, rfl, rfl, Gd.val g R rfl⟩
  case tup.tup a b =>
    obtain ⟨p1, xs, rfl, t1, r1⟩ := rd
    obtain ⟨p2, ys, rfl, t2, r2⟩ := re
    have g' : Gd X.K ρ H NoW ((match Op.lt, ints? a, ints? b with
      | .lt, some ns, some ms => pur (.bl (lexLt ns ms))
      | _, _, _ => bad : M D) S) (Vq X.K Q) := g
    cases ha : ints? a with
    | none => rw [ha] at g'; exact (show False from g').elim
    | some ns =>
      cases hb : ints? b with
      | none => rw [ha, hb] at g'; exact (show False from g').elim
      | some ms =>
        rw [ha, hb] at g'
        obtain rfl := r1.ints ha
        obtain rfl := r2.ints hb
        refine op_ltT hu pins s σ H _ _ v u Q I rx ry ⟨p1, p2, ns, ms, rfl, rfl, t1.sq, t2.sq, ?_⟩
        rw [lex_eq]
        exact Gd.val g' R rfl
theorem co_le : OpR X (compareOp .LtE) (rD2 X.K (opD .le)) := by
  rintro pins s σ H x y v u Q I rx ry ⟨ρ, S, d, e, R, rd, re, g⟩
  cases d <;> cases e <;> try exact (show False from g).elim
  case int.int i j =>
    obtain rfl : x = .int i := rd
    obtain rfl : y = .int j := re
    exact op_le pins s σ H _ _ v u Q I rx ry ⟨i, j, rfl, rfl, Gd.val g R rfl⟩
theorem co_gt : OpR X (compareOp .Gt) (rD2 X.K (opD .gt)) := by
  rintro pins s σ H x y v u Q I rx ry ⟨ρ, S, d, e, R, rd, re, g⟩
  cases d <;> cases e <;> try exact (show False from g).elim
  case int.int i j =>
    obtain rfl : x = .int i := rd
    obtain rfl : y = .int j := re
    exact op_gt pins s σ H _ _ v u Q I rx ry ⟨i, j, rfl, rfl, Gd.val g R rfl⟩
theorem co_ge : OpR X (compareOp .GtE) (rD2 X.K (opD .ge)) := by
  rintro pins s σ H x y v u Q I rx ry ⟨ρ, S, d, e, R, rd, re, g⟩
  cases d <;> cases e <;> try exact (show False from g).elim
  case int.int i j =>
    obtain rfl : x = .int i := rd
    obtain rfl : y = .int j := re
    exact op_ge pins s σ H _ _ v u Q I rx ry ⟨i, j, rfl, rfl, Gd.val g R rfl⟩
theorem non_iff {K : Fg} {ρ : List Addr} {H : Hp} {d : D} {x : V} (r : Rv K ρ H d x) : decide (x = .non) = decide (d = .non) := by
  cases d with
  | non => cases r; rfl
  | bl b => cases r; rfl
  | int i => cases r; rfl
  | str s => cases r; rfl
  | tup ds => obtain ⟨a, xs, rfl, _⟩ := r; rfl
  | ref n => obtain ⟨a, rfl, _⟩ := r; rfl
  | rol ds => obtain ⟨a, xs, rfl, _⟩ := r; rfl
theorem co_is : OpR X (compareOp .Is) (rD2 X.K (opD .is_)) := by
  rintro pins s σ H x y v u Q I rx ry ⟨ρ, S, d, e, R, rd, re, g⟩
  cases e <;> try exact (show False from g).elim
  obtain rfl : y = .non := re
  refine op_isN pins s σ H _ _ v u Q I rx ry ⟨rfl, ?_⟩
  rw [non_iff rd]
  exact Gd.val g R rfl
theorem co_isnot : OpR X (compareOp .IsNot) (rD2 X.K (opD .isnot)) := by
  rintro pins s σ H x y v u Q I rx ry ⟨ρ, S, d, e, R, rd, re, g⟩
  cases e <;> try exact (show False from g).elim
  obtain rfl : y = .non := re
  refine op_notN pins s σ H _ _ v u Q I rx ry ⟨rfl, ?_⟩
  rw [non_iff rd]
  exact Gd.val g R rfl
theorem scal_flatV {K : Fg} {ρ : List Addr} {H : Hp} {d : D} {x : V} (r : Rv K ρ H d x) (h : d.scal = true) : flatV x = true := by
  cases d with
  | non => cases r; rfl
  | bl b => cases r; rfl
  | int i => cases r; rfl
  | str s => cases r; rfl
  | _ => exact absurd (show false = true from h) Bool.false_ne_true
theorem eqV_eq {K : Fg} {ρ : List Addr} {H : Hp} {d e : D} {x y : V} (r : Rv K ρ H d x) (q : Rv K ρ H e y) (h : d.scal = true) (k : e.scal = true) : eqV x y = D.eqv d e := by
  cases d with
  | str s =>
    cases r
    cases e with
    | str t =>
      cases q
      show (sV s == sV t) = (s == t)
      by_cases h : s = t
      · rw [h]; simp
      · have h2 : ¬ sV s = sV t := fun q => h (sV_inj q)
        rw [beq_eq_false_iff_ne.mpr h, beq_eq_false_iff_ne.mpr h2]
    | non => cases q; rfl
    | bl b => cases q; rfl
    | int i => cases q; rfl
    | _ => exact absurd (show false = true from k) Bool.false_ne_true
  | non =>
    cases r
    cases e <;> first | (cases q; rfl) | exact absurd (show false = true from k) Bool.false_ne_true
  | bl b =>
    cases r
    cases e <;> first | (cases q; rfl) | exact absurd (show false = true from k) Bool.false_ne_true
  | int i =>
    cases r
    cases e <;> first | (cases q; rfl) | exact absurd (show false = true from k) Bool.false_ne_true
  | _ => exact absurd (show false = true from h) Bool.false_ne_true
theorem inV_eq {K : Fg} {ρ : List Addr} {H : Hp} {d : D} {x : V} (r : Rv K ρ H d x) (h : d.scal = true) : ∀ {ds : List D} {xs : List V}, Rvs K ρ H ds xs → ds.all D.scal = true → inV x xs = inD d ds
  | [], xs, q, _ => by
    cases (show xs = [] from q)
    rfl
  | e :: es, xs, q, k => by
    obtain ⟨y, ys, rfl, r1, r2⟩ := q
    rw [List.all_cons, Bool.and_eq_true] at k
    have ih := inV_eq r h r2 k.2
    show (eqV y x || inV x ys) = (D.eqv e d || inD d es)
    rw [ih, eqV_eq r1 r k.1 h]
theorem flats_of {K : Fg} {ρ : List Addr} {H : Hp} : ∀ {ds : List D} {xs : List V}, Rvs K ρ H ds xs → ds.all D.scal = true → xs.all flatV = true
  | [], xs, q, _ => by
    cases (show xs = [] from q)
    rfl
  | e :: es, xs, q, k => by
    obtain ⟨y, ys, rfl, r1, r2⟩ := q
    rw [List.all_cons, Bool.and_eq_true] at k
    rw [List.all_cons, scal_flatV r1 k.1, flats_of r2 k.2]
    rfl
theorem key_v {K : Fg} {ρ : List Addr} {H : Hp} {d : D} {x : V} {k : Kk} (r : Rv K ρ H d x) (h : d.key = some k) : x = kV (kkK k) := by
  cases d with
  | int i => cases h; exact r
  | str s => cases h; exact r
  | _ => cases (show (none : Option Kk) = some k from h)
theorem kv_some {K : Fg} {ρ : List Addr} {H : Hp} {k : Kk} : ∀ {ps : List (Kk × D)} {vs : List (Key × V)}, Rkv K ρ H ps vs → (valV vs (kkK k)).isSome = ps.any fun p => decide (p.1 = k)
  | [], vs, q => by
    cases (show vs = [] from q)
    rfl
  | p :: ps, vs, q => by
    obtain ⟨y, ys, rfl, r1, r2⟩ := q
    rw [List.any_cons]
    by_cases h : p.1 = k
    · rw [decide_eq_true h, valV_pos (show (kkK p.1, y).1 = kkK k by rw [h])]
      rfl
    · rw [decide_eq_false h, valV_neg (show ¬ (kkK p.1, y).1 = kkK k from fun z => h (kkK_inj z)), kv_some r2]
      rfl
theorem contains_sV (t : List Nat) (c : Nat) : decide (c ∈ (sV t).cps.toList) = t.contains c := by
  unfold sV
  simp
theorem co_in (hu : X.A.units + 64 < cLine) : OpR X (compareOp .In) (rD2 X.K (opD .in_)) := by
  rintro pins s σ H x y v u Q I rx ry ⟨ρ, S, d, e, R, rd, re, g⟩
  cases e <;> try exact (show False from g).elim
  case str t =>
    obtain rfl : y = .str (sV t) := re
    cases d <;> try exact (show False from g).elim
    case str a =>
      match a, g, rd with
      | [], g, _ => exact (show False from g).elim
      | _ :: _ :: _, g, _ => exact (show False from g).elim
      | [c], g, rd =>
        obtain rfl : x = .str (sV [c]) := rd
        refine op_in_sign pins s σ H _ _ v u Q I rx ry ⟨c, sV t, rfl, rfl, ?_⟩
        rw [contains_sV]
        have g' : Gd X.K ρ H NoW (pur (.bl (xor false (t.contains c))) S) (Vq X.K Q) := g
        rw [Bool.false_xor] at g'
        exact Gd.val g' R rfl
  case tup ds =>
    obtain ⟨a, xs, rfl, t, r⟩ := re
    have g' : Gd X.K ρ H NoW ((if d.scal && ds.all D.scal then pur (.bl (xor false (inD d ds))) else bad : M D) S) (Vq X.K Q) := g
    obtain ⟨hc, g'⟩ := ifG g'
    obtain ⟨h1, h2⟩ := Bool.and_eq_true_iff.mp hc
    refine op_in_seq pins s σ H _ _ v u Q I rx ry ⟨a, xs, rfl, .inr t.sq, scal_flatV rd h1, flats_of r h2, ?_⟩
    rw [inV_eq rd h1 r h2, if_neg Bool.false_ne_true]
    rw [Bool.false_xor] at g'
    exact Gd.val g' R rfl
  case ref n =>
    obtain ⟨a, rfl, hn⟩ := re
    have g' : Gd X.K ρ H NoW ((match S[n]? with
      | some (.lst ds) => if d.scal && ds.all D.scal then .ok (.bl (xor false (inD d ds))) S else .bad
      | some (.dic kvs) => (match d.key with
        | some k => .ok (.bl (xor false (kvs.any fun p => decide (p.1 = k)))) S
        | none => .bad)
      | none => .bad : Mi.R D)) (Vq X.K Q) := g
    cases hS : S[n]? with
    | none => rw [hS] at g'; exact (show False from g').elim
    | some o =>
      rw [hS] at g'
      cases o with
      | lst ds =>
        have g2 : Gd X.K ρ H NoW ((if d.scal && ds.all D.scal then pur (.bl (xor false (inD d ds))) else bad : M D) S) (Vq X.K Q) := by
          by_cases h : (d.scal && ds.all D.scal) = true
          · rw [if_pos h]
            have g3 : Gd X.K ρ H NoW (if (d.scal && ds.all D.scal) = true then .ok (.bl (xor false (inD d ds))) S else .bad : Mi.R D) (Vq X.K Q) := g'
            rw [if_pos h] at g3
            exact g3
          · have g3 : Gd X.K ρ H NoW (if (d.scal && ds.all D.scal) = true then .ok (.bl (xor false (inD d ds))) S else .bad : Mi.R D) (Vq X.K Q) := g'
            rw [if_neg h] at g3
            exact (show False from g3).elim
        obtain ⟨hc, g2⟩ := ifG g2
        obtain ⟨h1, h2⟩ := Bool.and_eq_true_iff.mp hc
        obtain ⟨a', xs, e1, e2, r⟩ := R.lst hS
        rw [hn] at e1
        cases e1
        refine op_in_seq pins s σ H _ _ v u Q I rx ry ⟨a, xs, rfl, .inl (SqL.of e2), scal_flatV rd h1, flats_of r h2, ?_⟩
        rw [inV_eq rd h1 r h2, if_neg Bool.false_ne_true]
        rw [Bool.false_xor] at g2
        exact Gd.val g2 R rfl
      | dic kvs =>
        cases hk : d.key with
        | none =>
          have g2 : Gd X.K ρ H NoW ((match d.key with
            | some k => .ok (.bl (xor false (kvs.any fun p => decide (p.1 = k)))) S
            | none => .bad : Mi.R D)) (Vq X.K Q) := g'
          rw [hk] at g2
          exact (show False from g2).elim
        | some k =>
          have g2 : Gd X.K ρ H NoW ((match d.key with
            | some k => .ok (.bl (xor false (kvs.any fun p => decide (p.1 = k)))) S
            | none => .bad : Mi.R D)) (Vq X.K Q) := g'
          rw [hk] at g2
          have g3 : Gd X.K ρ H NoW (pur (.bl (xor false (kvs.any fun p => decide (p.1 = k)))) S) (Vq X.K Q) := g2
          rw [Bool.false_xor] at g3
          obtain ⟨a', vs, e1, e2, r⟩ := R.dic hS
          rw [hn] at e1
          cases e1
          have ex := key_v rd hk
          subst ex
          obtain rfl : u = Value.ref a := ry
          refine d_in (by omega) I (DGet.k (k := kkK k) e2) rx fun s' I' => ⟨.bl _, H, I', rfl, ?_⟩
          rw [kv_some r]
          exact Gd.val g3 R rfl
theorem co_notin (hu : X.A.units + 64 < cLine) : OpR X (compareOp .NotIn) (rD2 X.K (opD .notin)) := by
  rintro pins s σ H x y v u Q I rx ry ⟨ρ, S, d, e, R, rd, re, g⟩
  cases e <;> try exact (show False from g).elim
  case str t =>
    obtain rfl : y = .str (sV t) := re
    cases d <;> try exact (show False from g).elim
    case str a =>
      match a, g, rd with
      | [], g, _ => exact (show False from g).elim
      | _ :: _ :: _, g, _ => exact (show False from g).elim
      | [c], g, rd =>
        obtain rfl : x = .str (sV [c]) := rd
        refine op_notIn_sign pins s σ H _ _ v u Q I rx ry ⟨c, sV t, rfl, rfl, ?_⟩
        rw [contains_sV]
        have g' : Gd X.K ρ H NoW (pur (.bl (xor true (t.contains c))) S) (Vq X.K Q) := g
        rw [Bool.true_xor] at g'
        exact Gd.val g' R rfl
  case tup ds =>
    obtain ⟨a, xs, rfl, t, r⟩ := re
    have g' : Gd X.K ρ H NoW ((if d.scal && ds.all D.scal then pur (.bl (xor true (inD d ds))) else bad : M D) S) (Vq X.K Q) := g
    obtain ⟨hc, g'⟩ := ifG g'
    obtain ⟨h1, h2⟩ := Bool.and_eq_true_iff.mp hc
    refine op_notIn_seq pins s σ H _ _ v u Q I rx ry ⟨a, xs, rfl, .inr t.sq, scal_flatV rd h1, flats_of r h2, ?_⟩
    rw [inV_eq rd h1 r h2, if_pos rfl]
    rw [Bool.true_xor] at g'
    exact Gd.val g' R rfl
  case ref n =>
    obtain ⟨a, rfl, hn⟩ := re
    have g' : Gd X.K ρ H NoW ((match S[n]? with
      | some (.lst ds) => if d.scal && ds.all D.scal then .ok (.bl (xor true (inD d ds))) S else .bad
      | some (.dic kvs) => (match d.key with
        | some k => .ok (.bl (xor true (kvs.any fun p => decide (p.1 = k)))) S
        | none => .bad)
      | none => .bad : Mi.R D)) (Vq X.K Q) := g
    cases hS : S[n]? with
    | none => rw [hS] at g'; exact (show False from g').elim
    | some o =>
      rw [hS] at g'
      cases o with
      | lst ds =>
        have g3 : Gd X.K ρ H NoW (if (d.scal && ds.all D.scal) = true then .ok (.bl (xor true (inD d ds))) S else .bad : Mi.R D) (Vq X.K Q) := g'
        by_cases hc : (d.scal && ds.all D.scal) = true
        · rw [if_pos hc] at g3
          obtain ⟨h1, h2⟩ := Bool.and_eq_true_iff.mp hc
          obtain ⟨a', xs, e1, e2, r⟩ := R.lst hS
          rw [hn] at e1
          cases e1
          refine op_notIn_seq pins s σ H _ _ v u Q I rx ry ⟨a, xs, rfl, .inl (SqL.of e2), scal_flatV rd h1, flats_of r h2, ?_⟩
          rw [inV_eq rd h1 r h2, if_pos rfl]
          rw [Bool.true_xor] at g3
          exact Gd.val (show Gd X.K ρ H NoW (pur (.bl (!inD d ds)) S) (Vq X.K Q) from g3) R rfl
        · rw [if_neg hc] at g3
          exact (show False from g3).elim
      | dic kvs =>
        have g2 : Gd X.K ρ H NoW ((match d.key with
          | some k => .ok (.bl (xor true (kvs.any fun p => decide (p.1 = k)))) S
          | none => .bad : Mi.R D)) (Vq X.K Q) := g'
        cases hk : d.key with
        | none =>
          rw [hk] at g2
          exact (show False from g2).elim
        | some k =>
          rw [hk] at g2
          have g3 : Gd X.K ρ H NoW (pur (.bl (xor true (kvs.any fun p => decide (p.1 = k)))) S) (Vq X.K Q) := g2
          rw [Bool.true_xor] at g3
          obtain ⟨a', vs, e1, e2, r⟩ := R.dic hS
          rw [hn] at e1
          cases e1
          have ex := key_v rd hk
          subst ex
          obtain rfl : u = Value.ref a := ry
          refine d_notIn (by omega) I (DGet.k (k := kkK k) e2) rx fun s' I' => ⟨.bl _, H, I', rfl, ?_⟩
          rw [kv_some r]
          exact Gd.val g3 R rfl
end
end Mi
namespace Mi
open PySem PySem.Spec PyProof.Rows L2
/-! ### subscripts, slices -/
theorem ixn_eq (n : Nat) (i : Int) : ixn n i = ixN n i := by
  unfold ixn ixN
  by_cases h : 0 ≤ i
  · rw [if_pos h, if_pos h]
  · rw [if_neg h, if_neg h]
    all_goals first | rfl | (split <;> split <;> first | rfl | omega | (congr 1; omega))
section
variable {X : Cx}
theorem atI_v {K : Fg} {ρ : List Addr} {H : Hp} {ds : List D} {xs : List V} {i : Int} {d : D} (r : Rvs K ρ H ds xs) (h : atI ds i = some d) : ∃ v, L2.atI xs i = some v ∧ Rv K ρ H d v := by
  unfold atI at h
  unfold L2.atI
  rw [ixn_eq, r.length] at h
  cases e : ixN xs.length i with
  | none => rw [e] at h; cases h
  | some j =>
    rw [e] at h
    exact r.get (show ds[j]? = some d from h)
theorem gOpt {K : Fg} {ρ : List Addr} {H : Hp} {S : Store} {α : Type} {P : α → Store → List Addr → Hp → Prop} {o : Option α} (g : Gd K ρ H NoW (opt o S) P) : ∃ a, o = some a ∧ Gd K ρ H NoW (pur a S) P := by
  cases o with
  | none => exact (show False from g).elim
  | some a => exact ⟨a, rfl, g⟩
theorem gBind {K : Fg} {ρ : List Addr} {H : Hp} {S : Store} {α β : Type} {P : β → Store → List Addr → Hp → Prop} {m : M α} {k : α → M β} {W : Exn → Store → List Addr → Hp → Prop} (g : Gd K ρ H W (bnd m k S) P) : Gd K ρ H W (m S) fun a S' ρ' H' => Gd K ρ' H' W (k a S') P :=
  Gd.bind (show Gd K ρ H W ((m S).bind k) P from g)
theorem gGet {K : Fg} {ρ : List Addr} {H : Hp} {S : Store} {n : Nat} {P : List D → Store → List Addr → Hp → Prop} (R : Sto K ρ S H) (g : Gd K ρ H NoW (getL n S) P) : ∃ a ds xs, S[n]? = some (.lst ds) ∧ ρ[n]? = some a ∧ H a = some (.lst xs) ∧ Rvs K ρ H ds xs ∧ P ds S ρ H := by
  have g' : Gd K ρ H NoW (match S[n]? with
    | some (.lst ds) => .ok ds S
    | _ => .bad : Mi.R (List D)) P := g
  cases hS : S[n]? with
  | none => rw [hS] at g'; exact (show False from g').elim
  | some o =>
    rw [hS] at g'
    cases o with
    | dic _ => exact (show False from g').elim
    | lst ds =>
      obtain ⟨a, xs, h1, h2, h3⟩ := R.lst hS
      exact ⟨a, ds, xs, rfl, h1, h2, h3, Gd.here (show Gd K ρ H NoW (.ok ds S) P from g') R⟩
theorem ix_any : IxR X (rD2 X.K (opD .ix)) := by
  rintro value slice pins s σ H x y v u Q I rx ry ⟨ρ, S, d, e, R, rd, re, g⟩ hs
  cases d <;> cases e <;> try exact (show False from g).elim
  case tup.int ds i =>
    obtain ⟨a, xs, rfl, t, r⟩ := rd
    obtain rfl : y = .int i := re
    obtain ⟨d, hd, g⟩ := gOpt (show Gd X.K ρ H NoW (opt (atI ds i) S) (Vq X.K Q) from g)
    obtain ⟨w', hw, rw'⟩ := atI_v r hd
    exact ix_tup value slice pins s σ H _ _ v u Q I rx ry ⟨a, xs, i, w', rfl, rfl, t.sq, hw, Gd.val g R rw'⟩ hs
  case ref.int n i =>
    obtain ⟨a, rfl, hn⟩ := rd
    obtain rfl : y = .int i := re
    obtain ⟨a', ds, xs, hS, h1, h2, h3, g⟩ := gGet R (gBind (show Gd X.K ρ H NoW (bnd (getL n) (fun ds => opt (atI ds i)) S) (Vq X.K Q) from g))
    rw [hn] at h1
    cases h1
    obtain ⟨d, hd, g⟩ := gOpt g
    obtain ⟨w', hw, rw'⟩ := atI_v h3 hd
    exact ix_list value slice pins s σ H _ _ v u Q I rx ry ⟨a, xs, i, w', rfl, rfl, SqL.of h2, hw, Gd.val g R rw'⟩ hs
  case str.int t i =>
    obtain rfl : x = .str (sV t) := rd
    obtain rfl : y = .int i := re
    obtain ⟨hc, g⟩ := ifG (show Gd X.K ρ H NoW ((if t.length ≤ mx then (match (ixn t.length i).bind fun j => t[j]? with
      | some c => pur (.str [c])
      | none => bad) else bad : M D) S) (Vq X.K Q) from g)
    cases hq : (ixn t.length i).bind fun j => t[j]? with
    | none => rw [hq] at g; exact (show False from g).elim
    | some c =>
      rw [hq] at g
      refine ix_str value slice pins s σ H _ _ v u Q I rx ry ⟨sV t, i, c, rfl, rfl, by rw [sV_len]; exact hc, ?_, Gd.val g R rfl⟩ hs
      unfold L2.atI
      rw [ixn_eq] at hq
      have e : (sV t).cps.toList = t := by simp [sV]
      rw [e]
      exact hq
theorem sIx_eq (n d : Nat) (o : Option Int) : sIx n d o = HT.sIx n d o := by
  unfold sIx HT.sIx
  cases o <;> rfl
theorem cut_v {K : Fg} {ρ : List Addr} {H : Hp} {ds : List D} {xs : List V} (lo hi : Option Int) (r : Rvs K ρ H ds xs) : Rvs K ρ H (cut ds lo hi) (cutV xs lo hi) := by
  unfold cut cutV
  rw [sIx_eq, sIx_eq, r.length]
  exact (r.drop _).take _
end
end Mi

set_option Elab.async false
set_option linter.all false
set_option maxRecDepth 100000
set_option maxHeartbeats 4000000
/-! Mi, 5: slices, truth, built-ins, methods, isinstance by values. -/
namespace Mi
open PySem PySem.Spec PyProof.Rows L2
section
variable {X : Cx}
def rSl (K : Fg) : V → Option Int → Option Int → Hp → VK → Prop := fun x lo hi H Q => ∃ ρ S d, Sto K ρ S H ∧ Rv K ρ H d x ∧ Gd K ρ H NoW (slD d lo hi S) (Vq K Q)
theorem cut_whole {α : Type} {xs : List α} {lo hi : Option Int} (h : HT.sIx xs.length 0 lo = 0 ∧ HT.sIx xs.length xs.length hi = xs.length) : cut xs lo hi = xs := by
  unfold cut
  rw [sIx_eq, sIx_eq, h.1, h.2]
  simp
theorem cutS_sV (t : List Nat) (lo hi : Option Int) : cutS (sV t) lo hi = sV (cut t lo hi) := by
  unfold cutS cut sV
  rw [sIx_eq, sIx_eq]
  simp [Str.length]
theorem sl_any : SlR X (rSl X.K) := by
  rintro pins s σ H x v vl vu lo hi sl Q I rx hs pl pu ⟨ρ, S, d, R, rd, g⟩
  cases d <;> try exact (show False from g).elim
  case tup ds =>
    obtain ⟨a, xs, rfl, t, r⟩ := rd
    have g' : Gd X.K ρ H NoW (pur (.tup (cut ds lo hi)) S) (Vq X.K Q) := g
    refine sl_tupA pins s σ H _ v vl vu lo hi sl Q I rx hs pl pu ⟨a, xs, rfl, t.sq, fun hw => ?_, fun hw p hp => Gd.tupN g' R hp (cut_v lo hi r)⟩
    rw [cut_whole (by rw [r.length]; exact hw)] at g'
    exact Gd.val g' R ⟨a, xs, rfl, t, r⟩
  case str t =>
    obtain rfl : x = .str (sV t) := rd
    obtain ⟨hc, g⟩ := ifG (show Gd X.K ρ H NoW ((if t.length ≤ mx then pur (.str (cut t lo hi)) else bad : M D) S) (Vq X.K Q) from g)
    refine sl_str pins s σ H _ v vl vu lo hi sl Q I rx hs pl pu ⟨sV t, rfl, by rw [sV_len]; exact hc, ?_⟩
    rw [cutS_sV]
    exact Gd.val g R rfl
  case ref n =>
    obtain ⟨a, rfl, hn⟩ := rd
    obtain ⟨a', ds, xs, hS, h1, h2, h3, g⟩ := gGet R (gBind (show Gd X.K ρ H NoW (bnd (getL n) (fun ds => Mi.alloc (.lst (cut ds lo hi))) S) (Vq X.K Q) from g))
    rw [hn] at h1
    cases h1
    exact sl_list pins s σ H _ v vl vu lo hi sl Q I rx hs pl pu ⟨a, xs, rfl, SqL.of h2, fun p hp => Gd.alloc g R hp (cut_v lo hi h3)⟩
/-! ### truth -/
def rTru (K : Fg) : V → Hp → (Bool → Hp → Prop) → Prop := fun x H Q => ∃ ρ S d, Sto K ρ S H ∧ Rv K ρ H d x ∧ Gd K ρ H NoW (truth d S) fun b _ _ H' => Q b H'
theorem isE {K : Fg} {ρ : List Addr} {H : Hp} {ds : List D} {xs : List V} (r : Rvs K ρ H ds xs) : (!xs.isEmpty) = !ds.isEmpty := by
  cases ds with
  | nil => cases (show xs = [] from r); rfl
  | cons d ds => obtain ⟨x, ys, rfl, _⟩ := r; rfl
theorem isEk {K : Fg} {ρ : List Addr} {H : Hp} {ds : List (Kk × D)} {xs : List (Key × V)} (r : Rkv K ρ H ds xs) : (!xs.isEmpty) = !ds.isEmpty := by
  cases ds with
  | nil => cases (show xs = [] from r); rfl
  | cons d ds => obtain ⟨x, ys, rfl, _⟩ := r; rfl
theorem strE (s : List Nat) : (((sV s).length : Int) != 0) = !s.isEmpty := by
  rw [sV_len]
  cases s with
  | nil => rfl
  | cons a r =>
    have h : ¬ ((a :: r).length : Int) = 0 := by rw [List.length_cons]; omega
    show (!((((a :: r).length : Nat) : Int) == 0)) = true
    rw [beq_eq_false_iff_ne.mpr h]
    rfl
/-- the truth of d, as the store says -/
theorem truV_of {K : Fg} {ρ : List Addr} {S : Store} {H : Hp} {d : D} {x : V} {P : Bool → Store → List Addr → Hp → Prop} (R : Sto K ρ S H) (rd : Rv K ρ H d x) (g : Gd K ρ H NoW (truth d S) P) : ∃ b, TruV K x H b ∧ P b S ρ H := by
  cases d with
  | non => cases rd; exact ⟨false, rfl, Gd.here g R⟩
  | bl b => cases rd; exact ⟨b, rfl, Gd.here g R⟩
  | int i => cases rd; exact ⟨i != 0, rfl, Gd.here g R⟩
  | str s =>
    cases rd
    obtain ⟨hc, g⟩ := ifG (show Gd K ρ H NoW ((if s.length ≤ mx then pur (!s.isEmpty) else bad : M Bool) S) P from g)
    exact ⟨!s.isEmpty, ⟨by rw [sV_len]; exact hc, (strE s).symm⟩, Gd.here g R⟩
  | tup ds =>
    obtain ⟨a, xs, rfl, t, r⟩ := rd
    exact ⟨!ds.isEmpty, .inr (.inl ⟨xs, t.sq, (isE r).symm⟩), Gd.here g R⟩
  | rol ds =>
    obtain ⟨a, xs, rfl, t, r⟩ := rd
    exact ⟨!ds.isEmpty, .inl ⟨xs, t.sq, (isE r).symm⟩, Gd.here g R⟩
  | ref n =>
    obtain ⟨a, rfl, hn⟩ := rd
    have g' : Gd K ρ H NoW (match S[n]? with
      | some (.lst ds) => .ok (!ds.isEmpty) S
      | some (.dic kvs) => .ok (!kvs.isEmpty) S
      | none => .bad : Mi.R Bool) P := g
    cases hS : S[n]? with
    | none => rw [hS] at g'; exact (show False from g').elim
    | some o =>
      rw [hS] at g'
      cases o with
      | lst ds =>
        obtain ⟨a', xs, h1, h2, h3⟩ := R.lst hS
        rw [hn] at h1
        cases h1
        exact ⟨!ds.isEmpty, .inl ⟨xs, SqL.of h2, (isE h3).symm⟩, Gd.here (show Gd K ρ H NoW (.ok (!ds.isEmpty) S) P from g') R⟩
      | dic ds =>
        obtain ⟨a', xs, h1, h2, h3⟩ := R.dic hS
        rw [hn] at h1
        cases h1
        exact ⟨!ds.isEmpty, .inr (.inr ⟨xs, h2, (isEk h3).symm⟩), Gd.here (show Gd K ρ H NoW (.ok (!ds.isEmpty) S) P from g') R⟩
theorem tru_any : TruR X (rTru X.K) := by
  rintro pins s σ H x v Q I rx ⟨ρ, S, d, R, rd, g⟩
  obtain ⟨b, h1, h2⟩ := truV_of R rd g
  exact tru_ok pins s σ H x v Q I rx ⟨b, h1, h2⟩
/-! ### stores -/
theorem putKk_v {K : Fg} {ρ : List Addr} {H : Hp} {k : Kk} {d : D} {v : V} (rd : Rv K ρ H d v) {ps : List (Kk × D)} {vs : List (Key × V)} (r : Rkv K ρ H ps vs) : Rkv K ρ H (putKk ps k d) (putK vs (kkK k) v) := by
  have ha : ∀ {ps : List (Kk × D)} {vs : List (Key × V)}, Rkv K ρ H ps vs → (vs.any fun kv => decide (kv.1 = kkK k)) = ps.any fun p => decide (p.1 = k) := by
    intro ps vs r
    rw [valV_any]
    exact kv_some r
  have hm : ∀ {ps : List (Kk × D)} {vs : List (Key × V)}, Rkv K ρ H ps vs → Rkv K ρ H (ps.map fun p => if p.1 = k then (p.1, d) else p) (vs.map fun kv => if kv.1 = kkK k then (kv.1, v) else kv) := by
    intro ps
    induction ps with
    | nil => intro vs r; cases (show vs = [] from r); rfl
    | cons p ps ih =>
      intro vs r
      obtain ⟨y, ys, rfl, r1, r2⟩ := r
      rw [List.map_cons, List.map_cons]
      by_cases h : p.1 = k
      · rw [if_pos h, if_pos (show (kkK p.1, y).1 = kkK k by rw [h])]
        exact ⟨v, _, rfl, rd, ih r2⟩
      · rw [if_neg h, if_neg (show ¬ (kkK p.1, y).1 = kkK k from fun z => h (kkK_inj z))]
        exact ⟨y, _, rfl, r1, ih r2⟩
  have hp : ∀ {ps : List (Kk × D)} {vs : List (Key × V)}, Rkv K ρ H ps vs → Rkv K ρ H (ps ++ [(k, d)]) (vs ++ [(kkK k, v)]) := by
    intro ps
    induction ps with
    | nil => intro vs r; cases (show vs = [] from r); exact ⟨v, [], rfl, rd, rfl⟩
    | cons p ps ih =>
      intro vs r
      obtain ⟨y, ys, rfl, r1, r2⟩ := r
      exact ⟨y, _, rfl, r1, ih r2⟩
  unfold putKk putK
  rw [ha r]
  by_cases h : (ps.any fun p => decide (p.1 = k)) = true
  · rw [if_pos h, if_pos h]
    exact hm r
  · rw [if_neg h, if_neg h]
    exact hp r
theorem Rkv.length {K : Fg} {ρ : List Addr} {H : Hp} : ∀ {ps : List (Kk × D)} {vs : List (Key × V)}, Rkv K ρ H ps vs → ps.length = vs.length
  | [], vs, r => by cases (show vs = [] from r); rfl
  | p :: ps, vs, r => by
    obtain ⟨y, ys, rfl, r1, r2⟩ := r
    simp [Rkv.length r2]
def rSet (K : Fg) : TSet := fun o i v H Q => ∃ ρ S x k d, Sto K ρ S H ∧ Rv K ρ H x o ∧ Rv K ρ H k i ∧ Rv K ρ H d v ∧ Gd K ρ H NoW (setItem x k d S) fun _ _ _ H' => Q H'
theorem set_any (hu : X.A.units + 1 < cLine) : PSet X (rSet X.K) := by
  rintro pins s σ H o i v ov iv u Q I ro ri rv ⟨ρ, S, x, k, d, R, rx, rk, rd, g⟩
  cases x <;> try exact (show False from g).elim
  case ref n =>
    obtain ⟨a, rfl, hn⟩ := rx
    have g' : Gd X.K ρ H NoW (match (generalizing := false) S[n]?, k with
      | some (.lst ds), .int k => (match ixn ds.length k with
        | some j => .ok () (S.set n (.lst (ds.set j d)))
        | none => .bad)
      | some (.dic kvs), i => (match i.key with
        | some k => if kvs.length < mx then .ok () (S.set n (.dic (putKk kvs k d))) else .bad
        | none => .bad)
      | _, _ => .bad : Mi.R Unit) (fun _ _ _ H' => Q H') := g
    cases hS : S[n]? with
    | none => rw [hS] at g'; exact (show False from g').elim
    | some ob =>
      rw [hS] at g'
      cases ob with
      | lst ds =>
        cases k <;> try exact (show False from g').elim
        case int k =>
          obtain rfl : i = .int k := rk
          have g2 : Gd X.K ρ H NoW (match ixn ds.length k with
            | some j => .ok () (S.set n (.lst (ds.set j d)))
            | none => .bad : Mi.R Unit) (fun _ _ _ H' => Q H') := g'
          obtain ⟨a', xs, h1, h2, h3⟩ := R.lst hS
          rw [hn] at h1
          cases h1
          cases hj : ixn ds.length k with
          | none => rw [hj] at g2; exact (show False from g2).elim
          | some j =>
            rw [hj] at g2
            have e := hj
            rw [ixn_eq, h3.length] at e
            refine set_list pins s σ H _ _ v ov iv u Q I ro ri rv ⟨a, xs, k, j, rfl, rfl, h2, e, ?_⟩
            exact g2 ρ _ (Stp.mut hn) (R.put hn ⟨_, upd_same, (Rvs.set (rd.mono (Stp.mut hn)) j (h3.mono (Stp.mut hn)))⟩)
      | dic kvs =>
        have g2 : Gd X.K ρ H NoW (match k.key with
          | some k => if kvs.length < mx then .ok () (S.set n (.dic (putKk kvs k d))) else .bad
          | none => .bad : Mi.R Unit) (fun _ _ _ H' => Q H') := by
          cases k <;> exact g'
        cases hk : k.key with
        | none => rw [hk] at g2; exact (show False from g2).elim
        | some kk =>
          rw [hk] at g2
          have g3 : Gd X.K ρ H NoW (if kvs.length < mx then .ok () (S.set n (.dic (putKk kvs kk d))) else .bad : Mi.R Unit) (fun _ _ _ H' => Q H') := g2
          obtain ⟨a', vs, h1, h2, h3⟩ := R.dic hS
          rw [hn] at h1
          cases h1
          by_cases hl : kvs.length < mx
          · rw [if_pos hl] at g3
            have ex := key_v rk hk
            subst ex
            obtain rfl : ov = Value.ref a := ro
            refine d_setItem hu I (DPut.k (k := kkK kk) (v := v) h2 (by rw [← h3.length]; exact hl)) ri rv fun s' I' => ⟨_, I', ?_⟩
            exact g3 ρ _ (Stp.mut hn) (R.put hn ⟨_, upd_same, putKk_v (rd.mono (Stp.mut hn)) (h3.mono (Stp.mut hn))⟩)
          · rw [if_neg hl] at g3
            exact (show False from g3).elim
/-! ### built-ins -/
theorem lenV_of {K : Fg} {ρ : List Addr} {S : Store} {H : Hp} {d : D} {x : V} {P : Nat → Store → List Addr → Hp → Prop} (R : Sto K ρ S H) (rd : Rv K ρ H d x) (g : Gd K ρ H NoW (lenD d S) P) : ∃ n, LenV K x H n ∧ P n S ρ H := by
  cases d <;> try exact (show False from g).elim
  case str s =>
    cases rd
    obtain ⟨hc, g⟩ := ifG (show Gd K ρ H NoW ((if s.length ≤ mx then pur s.length else bad : M Nat) S) P from g)
    exact ⟨s.length, ⟨by rw [sV_len]; exact hc, (sV_len s).symm⟩, Gd.here g R⟩
  case tup ds =>
    obtain ⟨a, xs, rfl, t, r⟩ := rd
    exact ⟨ds.length, .inr ⟨xs, t.sq, r.length⟩, Gd.here g R⟩
  case ref n =>
    obtain ⟨a, rfl, hn⟩ := rd
    have g' : Gd K ρ H NoW (match S[n]? with
      | some (.lst ds) => .ok ds.length S
      | _ => .bad : Mi.R Nat) P := g
    cases hS : S[n]? with
    | none => rw [hS] at g'; exact (show False from g').elim
    | some o =>
      rw [hS] at g'
      cases o with
      | dic _ => exact (show False from g').elim
      | lst ds =>
        obtain ⟨a', xs, h1, h2, h3⟩ := R.lst hS
        rw [hn] at h1
        cases h1
        exact ⟨ds.length, .inl ⟨xs, SqL.of h2, h3.length⟩, Gd.here (show Gd K ρ H NoW (.ok ds.length S) P from g') R⟩
abbrev rBi (K : Fg) (b : Bi) : List V → Hp → VK → Prop := rDs K (biD b)
theorem cb_len : CallR X (.builtin "len") (rBi X.K .len) := by
  rintro pins s σ H xs us Q I r ⟨ρ, S, ds, R, rs, g⟩
  match ds, rs, g with
  | [], _, g => exact (show False from g).elim
  | [d], rs, g =>
    obtain ⟨x, _, rfl, rd, rfl⟩ := rs
    obtain ⟨n, h1, h2⟩ := lenV_of R rd (gBind (show Gd X.K ρ H NoW (bnd (lenD d) (fun n => pur (.int n)) S) (Vq X.K Q) from g))
    exact call_len pins s σ H _ us Q I r ⟨x, n, rfl, h1, Gd.val h2 R rfl⟩
  | _ :: _ :: _, _, g => exact (show False from by cases ‹D› <;> exact g).elim
theorem cb_int : CallR X (.type "int") (rBi X.K .int) := by
  rintro pins s σ H xs us Q I r ⟨ρ, S, ds, R, rs, g⟩
  match ds, rs, g with
  | [], _, g => exact (show False from g).elim
  | [d], rs, g =>
    obtain ⟨x, _, rfl, rd, rfl⟩ := rs
    cases d <;> try exact (show False from g).elim
    case int i =>
      cases rd
      exact call_int1 pins s σ H _ us Q I r (.inl ⟨i, rfl, Gd.val g R rfl⟩)
    case bl b =>
      cases rd
      exact call_int1 pins s σ H _ us Q I r (.inr ⟨b, rfl, Gd.val g R rfl⟩)
  | d :: _ :: _, _, g => exact (show False from by cases d <;> exact g).elim
theorem cb_bool : CallR X (.type "bool") (rBi X.K .bool) := by
  rintro pins s σ H xs us Q I r ⟨ρ, S, ds, R, rs, g⟩
  match ds, rs, g with
  | [], _, g => exact (show False from g).elim
  | [d], rs, g =>
    obtain ⟨x, _, rfl, rd, rfl⟩ := rs
    cases d <;> try exact (show False from g).elim
    case int i =>
      cases rd
      exact call_bool1 pins s σ H _ us Q I r (.inl ⟨i, rfl, Gd.val g R rfl⟩)
    case bl b =>
      cases rd
      exact call_bool1 pins s σ H _ us Q I r (.inr ⟨b, rfl, Gd.val g R rfl⟩)
  | d :: _ :: _, _, g => exact (show False from by cases d <;> exact g).elim
theorem cb_abs : CallR X (.builtin "abs") (rBi X.K .abs) := by
  rintro pins s σ H xs us Q I r ⟨ρ, S, ds, R, rs, g⟩
  match ds, rs, g with
  | [], _, g => exact (show False from g).elim
  | [d], rs, g =>
    obtain ⟨x, _, rfl, rd, rfl⟩ := rs
    cases d <;> try exact (show False from g).elim
    case int i =>
      cases rd
      exact call_abs pins s σ H _ us Q I r ⟨i, rfl, Gd.val g R rfl⟩
  | d :: _ :: _, _, g => exact (show False from by cases d <;> exact g).elim
theorem cb_max2 (hc : X.calm = true) : CallR X (.builtin "max") (rBi X.K .max2) := by
  rintro pins s σ H xs us Q I r ⟨ρ, S, ds, R, rs, g⟩
  match ds, rs, g with
  | [], _, g => exact (show False from g).elim
  | [d], rs, g => exact (show False from by cases d <;> exact g).elim
  | [d, e], rs, g =>
    obtain ⟨x, _, rfl, rd, y, _, rfl, re, rfl⟩ := rs
    cases d <;> cases e <;> try exact (show False from g).elim
    case int.int i j =>
      cases rd
      cases re
      exact call_max2 hc pins s σ H _ us Q I r ⟨i, j, rfl, Gd.val g R rfl⟩
  | d :: e :: _ :: _, _, g => exact (show False from by cases d <;> cases e <;> exact g).elim
theorem cb_min2 (hc : X.calm = true) : CallR X (.builtin "min") (rBi X.K .min2) := by
  rintro pins s σ H xs us Q I r ⟨ρ, S, ds, R, rs, g⟩
  match ds, rs, g with
  | [], _, g => exact (show False from g).elim
  | [d], rs, g => exact (show False from by cases d <;> exact g).elim
  | [d, e], rs, g =>
    obtain ⟨x, _, rfl, rd, y, _, rfl, re, rfl⟩ := rs
    cases d <;> cases e <;> try exact (show False from g).elim
    case int.int i j =>
      cases rd
      cases re
      exact call_min2 hc pins s σ H _ us Q I r ⟨i, j, rfl, Gd.val g R rfl⟩
  | d :: e :: _ :: _, _, g => exact (show False from by cases d <;> cases e <;> exact g).elim
theorem cb_tuple : CallR X (.type "tuple") (rBi X.K .tuple) := by
  rintro pins s σ H xs us Q I r ⟨ρ, S, ds, R, rs, g⟩
  match ds, rs, g with
  | [], _, g => exact (show False from g).elim
  | [d], rs, g =>
    obtain ⟨x, _, rfl, rd, rfl⟩ := rs
    cases d <;> try exact (show False from g).elim
    case tup ds =>
      obtain ⟨a, xs, rfl, t, rs⟩ := rd
      exact call_tuple_of pins s σ H _ us Q I r ⟨a, xs, rfl, .inr ⟨t.sq, Gd.val g R ⟨a, xs, rfl, t, rs⟩⟩⟩
    case ref n =>
      obtain ⟨a, rfl, hn⟩ := rd
      obtain ⟨a', ds, xs, hS, h1, h2, h3, g⟩ := gGet R (gBind (show Gd X.K ρ H NoW (bnd (getL n) (fun ds => pur (.tup ds)) S) (Vq X.K Q) from g))
      rw [hn] at h1
      cases h1
      exact call_tuple_of pins s σ H _ us Q I r ⟨a, xs, rfl, .inl ⟨SqL.of h2, fun p hp => Gd.tupN g R hp h3⟩⟩
  | d :: _ :: _, _, g => exact (show False from by cases d <;> exact g).elim
theorem figs_sV (i : Int) : sV (figs i) = ((toString i : String) : Str) := by
  show (⟨(((toString i : String) : Str).cps.toList).toArray⟩ : Str) = _
  rw [Array.toArray_toList]
theorem cb_str : CallR X (.type "str") (rBi X.K .str) := by
  rintro pins s σ H xs us Q I r ⟨ρ, S, ds, R, rs, g⟩
  match ds, rs, g with
  | [], _, g => exact (show False from g).elim
  | [d], rs, g =>
    obtain ⟨x, _, rfl, rd, rfl⟩ := rs
    cases d <;> try exact (show False from g).elim
    case int i =>
      cases rd
      obtain ⟨hc, g⟩ := ifG (show Gd X.K ρ H NoW ((if i.natAbs.log2 < 1920 then pur (.str (figs i)) else bad : M D) S) (Vq X.K Q) from g)
      refine call_str_int pins s σ H _ us Q I r ⟨i, rfl, hc, ?_⟩
      have q := Gd.val g R (show Rv X.K ρ H (.str (figs i)) (.str (sV (figs i))) from rfl)
      rw [figs_sV] at q
      exact q
  | d :: _ :: _, _, g => exact (show False from by cases d <;> exact g).elim
end
end Mi

set_option Elab.async false
set_option linter.all false
set_option maxRecDepth 100000
set_option maxHeartbeats 4000000
/-! Mi, 6: sum, min, max; isinstance; list methods. -/
namespace Mi
open PySem PySem.Spec PyProof.Rows L2
theorem foldl_min_le : ∀ (r : List Int) (a : Int), r.foldl min a ≤ a ∧ (∀ y ∈ r, r.foldl min a ≤ y) ∧ (r.foldl min a = a ∨ r.foldl min a ∈ r)
  | [], a => ⟨Int.le_refl _, fun _ h => (by cases h), .inl rfl⟩
  | b :: r, a => by
    obtain ⟨h1, h2, h3⟩ := foldl_min_le r (min a b)
    rw [List.foldl_cons]
    refine ⟨Int.le_trans h1 (Int.min_le_left _ _), fun y hy => ?_, ?_⟩
    · rcases List.mem_cons.mp hy with rfl | hy
      · exact Int.le_trans h1 (Int.min_le_right _ _)
      · exact h2 y hy
    · rcases h3 with h | h
      · rw [h]
        rcases (show min a b = a ∨ min a b = b by omega) with q | q
        · exact .inl q
        · exact .inr (by rw [q]; exact List.mem_cons_self)
      · exact .inr (List.mem_cons_of_mem _ h)
theorem foldl_max_le : ∀ (r : List Int) (a : Int), a ≤ r.foldl max a ∧ (∀ y ∈ r, y ≤ r.foldl max a) ∧ (r.foldl max a = a ∨ r.foldl max a ∈ r)
  | [], a => ⟨Int.le_refl _, fun _ h => (by cases h), .inl rfl⟩
  | b :: r, a => by
    obtain ⟨h1, h2, h3⟩ := foldl_max_le r (max a b)
    rw [List.foldl_cons]
    refine ⟨Int.le_trans (Int.le_max_left _ _) h1, fun y hy => ?_, ?_⟩
    · rcases List.mem_cons.mp hy with rfl | hy
      · exact Int.le_trans (Int.le_max_right _ _) h1
      · exact h2 y hy
    · rcases h3 with h | h
      · rw [h]
        rcases (show max a b = a ∨ max a b = b by omega) with q | q
        · exact .inl q
        · exact .inr (by rw [q]; exact List.mem_cons_self)
      · exact .inr (List.mem_cons_of_mem _ h)
theorem minI_is {ns : List Int} {m k : Int} (h : minI ns = some k) (hm : m ∈ ns) (hl : ∀ y ∈ ns, m ≤ y) : m = k := by
  cases ns with
  | nil => cases hm
  | cons a r =>
    have e : r.foldl min a = k := Option.some.inj h
    obtain ⟨h1, h2, h3⟩ := foldl_min_le r a
    rw [e] at h1 h2 h3
    have ha : k ≤ m := by
      rcases List.mem_cons.mp hm with rfl | hm
      · exact h1
      · exact h2 m hm
    have hb : m ≤ k := hl k (by
      rcases h3 with h | h
      · rw [h]; exact List.mem_cons_self
      · exact List.mem_cons_of_mem _ h)
    omega
theorem maxI_is {ns : List Int} {m k : Int} (h : maxI ns = some k) (hm : m ∈ ns) (hl : ∀ y ∈ ns, y ≤ m) : m = k := by
  cases ns with
  | nil => cases hm
  | cons a r =>
    have e : r.foldl max a = k := Option.some.inj h
    obtain ⟨h1, h2, h3⟩ := foldl_max_le r a
    rw [e] at h1 h2 h3
    have ha : m ≤ k := by
      rcases List.mem_cons.mp hm with rfl | hm
      · exact h1
      · exact h2 m hm
    have hb : k ≤ m := hl k (by
      rcases h3 with h | h
      · rw [h]; exact List.mem_cons_self
      · exact List.mem_cons_of_mem _ h)
    omega
section
variable {prog : Program} {w : World} {A : Around} {E : Value → Shared → Prop} {s : Shared}
/-- sum of a tuple of ints -/
theorem sum_tupRaw {l : Addr} {its : List Value} {ns : List Int} {Q : Value → Shared → Prop} (hh : A.handled = none) (hl : s.heap.IsTuple l its.toArray) (hi : IntsAre its ns)
    (h : ∀ h' tk t', (∀ b o, s.heap.get? b = some o → h'.get? b = some o) → Q (.int ns.sum t') { s with heap := h', toks := tk }) : wpAny (model prog w) A (call (.builtin "sum") [.ref l]) Q E s := by
  have gv : ∀ (i : Nat) (v : Value), its.toArray[i]? = some v → ∃ t, v = Value.int (ns.getD i 0) t := by
    intro i v hv
    have hv' : its[i]? = some v := by simpa using hv
    clear hv hl h
    induction hi generalizing i with
    | nil => simp at hv'
    | cons n t _ ih =>
      cases i with
      | zero => simp at hv'; subst hv'; exact ⟨t, by simp⟩
      | succ j => simpa using ih j (by simpa using hv')
  have hlen : its.length = ns.length := hi.length
  refine call_sum_walkG (wpAny_pyIter_tuple hl ?_)
  have hsz : ∀ o : Obj, (s.heap.push o).objs.size = s.heap.objs.size + 1 := fun o => Heap.size_push ..
  have hll : l < s.heap.objs.size := by obtain ⟨o, e, _⟩ := hl; exact Heap.lt_size e
  refine ⟨_, [_, l], [_], its.toArray.size, _, _, fun i => ns.getD i 0, rfl, Walks.tuple (A := A.in1) hh _ l (Nat.ne_of_lt hll) its.toArray,
    ⟨⟨_, Heap.get?_push_size _ rfl, rfl, rfl⟩, hl.push _⟩, fun c hc => ?_, gv, fun h' tk t' hk => ?_⟩
  · rcases List.mem_cons.mp hc with rfl | hc
    · rw [hsz]; exact Nat.lt_succ_self _
    · rcases List.mem_cons.mp hc with rfl | hc
      · rw [hsz]; exact Nat.lt_succ_of_lt hll
      · cases hc
  · have e : preSum (fun i => ns.getD i 0) its.toArray.size = ns.sum := by
      rw [List.size_toArray, hlen]
      clear h hk gv hi hl hlen
      have key : ∀ k, k ≤ ns.length → preSum (fun i => ns.getD i 0) k = (ns.take k).sum := by
        intro k
        induction k with
        | zero => intro _; rfl
        | succ k ih =>
          intro hk
          rw [preSum, ih (by omega), List.take_succ, List.sum_append, List.getElem?_eq_getElem (by omega)]
          simp [List.getD_eq_getElem?_getD, List.getElem?_eq_getElem (show k < ns.length by omega)]
      rw [key _ (Nat.le_refl _), List.take_length]
    rw [e]
    refine h h' tk t' fun b o q => hk b o (fun hm => ?_) (Heap.get?_push_of_some _ q)
    have z : b = s.heap.objs.size := by simpa using hm
    rw [z] at q
    exact absurd (Heap.lt_size q) (Nat.lt_irrefl _)
end
section
variable {X : Cx}
theorem sum_at (hc : X.calm = true) {pins : List (Addr × Obj)} {s : Shared} {σ : L2.St} {H : Hp} {a : Addr} {ns : List Int} {us : List Value} {Q : VK} (I : Inv X pins σ H s) (r : Vals [V.ref a] us)
    (h : SqL X.K H a (ns.map V.int) ∨ SqT X.K H a (ns.map V.int)) (q : Q (.int ns.sum) H) : wpAny (model X.prog X.w) X.A (call (.builtin "sum") us) (EP X pins σ Q) X.xe s := by
  rcases h with h | h
  · exact cr_sum hc pins s σ H _ us Q I r ⟨a, ns, rfl, h, q⟩
  · obtain ⟨its, rv, ht, _⟩ := I.tuple h
    rw [Vals.ref1 r]
    exact sum_tupRaw (I.ok.hd hc) (show s.heap.IsTuple a its.toArray from ht) rv.ints fun h' tk t' hk => ⟨.int _, H, I.kept hk, ⟨_, rfl⟩, q⟩
theorem cb_sum (hc : X.calm = true) : CallR X (.builtin "sum") (rBi X.K .sum) := by
  rintro pins s σ H xs us Q I r ⟨ρ, S, ds, R, rs, g⟩
  match ds, rs, g with
  | [], _, g => exact (show False from g).elim
  | [d], rs, g =>
    obtain ⟨x, _, rfl, rd, rfl⟩ := rs
    cases d <;> try exact (show False from g).elim
    case tup ds =>
      obtain ⟨a, xs, rfl, t, rs⟩ := rd
      obtain ⟨ns, hn, g⟩ := gOpt (gBind (show Gd X.K ρ H NoW (bnd (opt (ints? ds)) (fun ns => pur (.int ns.sum)) S) (Vq X.K Q) from g))
      obtain rfl := rs.ints hn
      exact sum_at hc I r (.inr t.sq) (Gd.val (Gd.here g R) R rfl)
    case ref n =>
      obtain ⟨a, rfl, hn⟩ := rd
      obtain ⟨a', ds, xs, hS, h1, h2, h3, g⟩ := gGet R (gBind (show Gd X.K ρ H NoW (bnd (getL n) (fun ds => bnd (opt (ints? ds)) fun ns => pur (.int ns.sum)) S) (Vq X.K Q) from g))
      rw [hn] at h1
      cases h1
      obtain ⟨ns, hns, g⟩ := gOpt (gBind g)
      obtain rfl := h3.ints hns
      exact sum_at hc I r (.inl (SqL.of h2)) (Gd.val (Gd.here g R) R rfl)
  | d :: _ :: _, _, g => exact (show False from by cases d <;> exact g).elim
theorem minI_len {ns : List Int} {m : Int} (h : minI ns = some m) : 0 < ns.length := by
  cases ns with
  | nil => cases h
  | cons a r => simp
theorem maxI_len {ns : List Int} {m : Int} (h : maxI ns = some m) : 0 < ns.length := by
  cases ns with
  | nil => cases h
  | cons a r => simp
theorem cb_min1 (hc : X.calm = true) : CallR X (.builtin "min") (rBi X.K .min1) := by
  rintro pins s σ H xs us Q I r ⟨ρ, S, ds, R, rs, g⟩
  match ds, rs, g with
  | [], _, g => exact (show False from g).elim
  | [d], rs, g =>
    obtain ⟨x, _, rfl, rd, rfl⟩ := rs
    cases d <;> try exact (show False from g).elim
    case ref n =>
      obtain ⟨a, rfl, hn⟩ := rd
      obtain ⟨a', ds, xs, hS, h1, h2, h3, g⟩ := gGet R (gBind (show Gd X.K ρ H NoW (bnd (getL n) (fun ds => bnd (opt (ints? ds)) fun ns => bnd (opt (minI ns)) fun m => pur (.int m)) S) (Vq X.K Q) from g))
      rw [hn] at h1
      cases h1
      obtain ⟨ns, hns, g⟩ := gOpt (gBind g)
      obtain ⟨k, hk, g⟩ := gOpt (gBind (Gd.here g R))
      obtain rfl := h3.ints hns
      refine cr_min hc pins s σ H _ us Q I r ⟨a, ns, rfl, SqL.of h2, minI_len hk, fun m hm hl => ?_⟩
      rw [minI_is hk hm hl]
      exact Gd.val (Gd.here g R) R rfl
  | d :: _ :: _, _, g => exact (show False from by cases d <;> exact g).elim
theorem cb_max1 (hc : X.calm = true) : CallR X (.builtin "max") (rBi X.K .max1) := by
  rintro pins s σ H xs us Q I r ⟨ρ, S, ds, R, rs, g⟩
  match ds, rs, g with
  | [], _, g => exact (show False from g).elim
  | [d], rs, g =>
    obtain ⟨x, _, rfl, rd, rfl⟩ := rs
    cases d <;> try exact (show False from g).elim
    case ref n =>
      obtain ⟨a, rfl, hn⟩ := rd
      obtain ⟨a', ds, xs, hS, h1, h2, h3, g⟩ := gGet R (gBind (show Gd X.K ρ H NoW (bnd (getL n) (fun ds => bnd (opt (ints? ds)) fun ns => bnd (opt (maxI ns)) fun m => pur (.int m)) S) (Vq X.K Q) from g))
      rw [hn] at h1
      cases h1
      obtain ⟨ns, hns, g⟩ := gOpt (gBind g)
      obtain ⟨k, hk, g⟩ := gOpt (gBind (Gd.here g R))
      obtain rfl := h3.ints hns
      refine cr_max hc pins s σ H _ us Q I r ⟨a, ns, rfl, SqL.of h2, maxI_len hk, fun m hm hl => ?_⟩
      rw [maxI_is hk hm hl]
      exact Gd.val (Gd.here g R) R rfl
  | d :: _ :: _, _, g => exact (show False from by cases d <;> exact g).elim
/-! ### of a list just made -/
def rFr (K : Fg) (b : Bi) : List V → Hp → VK → Prop := fun vs H Q => ∃ ρ S ds a xs, vs = [.ref a] ∧ H a = some (.lst xs) ∧ Sto K ρ S H ∧ Rvs K ρ H ds xs ∧ Gd K ρ H NoW (biF b ds S) (Vq K Q)
theorem cf_len : CallR X (.builtin "len") (rFr X.K .len) := by
  rintro pins s σ H vs us Q I r ⟨ρ, S, ds, a, xs, rfl, ha, R, rs, g⟩
  exact call_len pins s σ H _ us Q I r ⟨.ref a, ds.length, rfl, .inl ⟨xs, SqL.of ha, rs.length⟩, Gd.val g R rfl⟩
theorem cf_tuple : CallR X (.type "tuple") (rFr X.K .tuple) := by
  rintro pins s σ H vs us Q I r ⟨ρ, S, ds, a, xs, rfl, ha, R, rs, g⟩
  exact call_tuple_of pins s σ H _ us Q I r ⟨a, xs, rfl, .inl ⟨SqL.of ha, fun p hp => Gd.tupN g R hp rs⟩⟩
theorem cf_sum (hc : X.calm = true) : CallR X (.builtin "sum") (rFr X.K .sum) := by
  rintro pins s σ H vs us Q I r ⟨ρ, S, ds, a, xs, rfl, ha, R, rs, g⟩
  obtain ⟨ns, hn, g⟩ := gOpt (gBind (show Gd X.K ρ H NoW (bnd (opt (ints? ds)) (fun ns => pur (.int ns.sum)) S) (Vq X.K Q) from g))
  obtain rfl := rs.ints hn
  exact sum_at hc I r (.inl (SqL.of ha)) (Gd.val (Gd.here g R) R rfl)
theorem cf_min (hc : X.calm = true) : CallR X (.builtin "min") (rFr X.K .min1) := by
  rintro pins s σ H vs us Q I r ⟨ρ, S, ds, a, xs, rfl, ha, R, rs, g⟩
  obtain ⟨ns, hn, g⟩ := gOpt (gBind (show Gd X.K ρ H NoW (bnd (opt (ints? ds)) (fun ns => bnd (opt (minI ns)) fun m => pur (.int m)) S) (Vq X.K Q) from g))
  obtain ⟨k, hk, g⟩ := gOpt (gBind (Gd.here g R))
  obtain rfl := rs.ints hn
  refine cr_min hc pins s σ H _ us Q I r ⟨a, ns, rfl, SqL.of ha, minI_len hk, fun m hm hl => ?_⟩
  rw [minI_is hk hm hl]
  exact Gd.val (Gd.here g R) R rfl
theorem cf_max (hc : X.calm = true) : CallR X (.builtin "max") (rFr X.K .max1) := by
  rintro pins s σ H vs us Q I r ⟨ρ, S, ds, a, xs, rfl, ha, R, rs, g⟩
  obtain ⟨ns, hn, g⟩ := gOpt (gBind (show Gd X.K ρ H NoW (bnd (opt (ints? ds)) (fun ns => bnd (opt (maxI ns)) fun m => pur (.int m)) S) (Vq X.K Q) from g))
  obtain ⟨k, hk, g⟩ := gOpt (gBind (Gd.here g R))
  obtain rfl := rs.ints hn
  refine cr_max hc pins s σ H _ us Q I r ⟨a, ns, rfl, SqL.of ha, maxI_len hk, fun m hm hl => ?_⟩
  rw [maxI_is hk hm hl]
  exact Gd.val (Gd.here g R) R rfl
/-! ### isinstance -/
def Ty.nm : Ty → String
  | .int => "int" | .bool => "bool" | .str => "str" | .tuple => "tuple" | .list => "list" | .dict => "dict"
theorem kb_non (t : Ty) : kitB "NoneType" t.nm = some false := by cases t <;> decide +kernel
theorem kb_bl (t : Ty) : kitB "bool" t.nm = some (t == .bool || t == .int) := by cases t <;> decide +kernel
theorem kb_int (t : Ty) : kitB "int" t.nm = some (t == .int) := by cases t <;> decide +kernel
theorem kb_str (t : Ty) : kitB "str" t.nm = some (t == .str) := by cases t <;> decide +kernel
theorem kb_tup (t : Ty) : kitB "tuple" t.nm = some (t == .tuple) := by cases t <;> decide +kernel
theorem kb_lst (t : Ty) : kitB "list" t.nm = some (t == .list) := by cases t <;> decide +kernel
theorem kb_dic (t : Ty) : kitB "dict" t.nm = some (t == .dict) := by cases t <;> decide +kernel
/-- what isinstance of d gives, type by type -/
theorem isD_of {K : Fg} {ρ : List Addr} {S : Store} {H : Hp} {d : D} {x : V} (R : Sto K ρ S H) (rd : Rv K ρ H d x) (ok : ∃ t b, isD d t S = .ok b S) : ∃ u, TyX K H x u ∧ ∀ t, ∃ b, isD d t S = .ok b S ∧ PySem.W.kitOne K u (.type t.nm) = some b := by
  cases d with
  | non => cases rd; exact ⟨_, .base .non, fun t => ⟨false, rfl, kit_ty (kb_non t)⟩⟩
  | bl b => cases rd; exact ⟨_, .base (.bl b), fun t => ⟨_, rfl, kit_ty (kb_bl t)⟩⟩
  | int i => cases rd; exact ⟨_, .base (.int i), fun t => ⟨_, rfl, kit_ty (kb_int t)⟩⟩
  | str s => cases rd; exact ⟨_, .base (.str _), fun t => ⟨_, rfl, kit_ty (kb_str t)⟩⟩
  | tup ds =>
    obtain ⟨a, xs, rfl, t, r⟩ := rd
    rcases t with ⟨_, h | ⟨o, h⟩⟩ | ⟨o, its, n, h1, h2, _⟩
    · exact ⟨_, .base (.tup h), fun t => ⟨_, rfl, kit_ty (kb_tup t)⟩⟩
    · exact ⟨_, .fTuple h, fun t => ⟨_, rfl, kit_ty (kb_tup t)⟩⟩
    · exact ⟨_, .kTuple h1 h2, fun t => ⟨_, rfl, kit_ty (kb_tup t)⟩⟩
  | rol ds =>
    obtain ⟨a, xs, rfl, t, r⟩ := rd
    rcases t with ⟨_, o, h⟩ | ⟨o, its, n, h1, h2, _⟩
    · exact ⟨_, .base (.frz h), fun t => ⟨_, rfl, kit_ty (kb_lst t)⟩⟩
    · exact ⟨_, .kList h1 h2, fun t => ⟨_, rfl, kit_ty (kb_lst t)⟩⟩
  | ref n =>
    obtain ⟨a, rfl, hn⟩ := rd
    have e : ∀ t, isD (.ref n) t S = (match S[n]? with
      | some (.lst _) => .ok (t == .list) S
      | some (.dic _) => .ok (t == .dict) S
      | none => .bad : Mi.R Bool) := fun _ => rfl
    cases hS : S[n]? with
    | none =>
      obtain ⟨t, b, h⟩ := ok
      rw [e, hS] at h
      cases h
    | some o =>
      cases o with
      | lst ds =>
        obtain ⟨a', xs, h1, h2, h3⟩ := R.lst hS
        rw [hn] at h1
        cases h1
        exact ⟨_, .base (.lst h2), fun t => ⟨_, by rw [e, hS], kit_ty (kb_lst t)⟩⟩
      | dic ds =>
        obtain ⟨a', xs, h1, h2, h3⟩ := R.dic hS
        rw [hn] at h1
        cases h1
        exact ⟨_, .base (.dK h2), fun t => ⟨_, by rw [e, hS], kit_ty (kb_dic t)⟩⟩
theorem isAny_cons (d : D) (t : Ty) (r : List Ty) (S : Store) {b : Bool} (h : isD d t S = .ok b S) : isAny d (t :: r) S = if b then .ok (.bl true) S else isAny d r S := by
  show (isD d t S).bind _ = _
  rw [h]
  cases b <;> rfl
theorem isAny_of {K : Fg} {S : Store} {d : D} {u : Value} (f : ∀ t, ∃ b, isD d t S = .ok b S ∧ PySem.W.kitOne K u (.type t.nm) = some b) : ∀ ts : List Ty, ∃ b, isAny d ts S = .ok (.bl b) S ∧ PySem.W.kitAny K u (ts.map fun t => Value.type t.nm) = some b
  | [] => ⟨false, rfl, rfl⟩
  | t :: r => by
    obtain ⟨b, h1, h2⟩ := f t
    obtain ⟨c, h3, h4⟩ := isAny_of f r
    rw [isAny_cons d t r S h1]
    cases b with
    | true => exact ⟨true, rfl, kitAny_cons h2 (fun z => by cases z) (fun _ => rfl)⟩
    | false => exact ⟨c, h3, kitAny_cons h2 (fun _ => h4) (fun z => by cases z)⟩
theorem isAny_ok {d : D} {ts : List Ty} {S : Store} {K : Fg} {ρ : List Addr} {H : Hp} {P : D → Store → List Addr → Hp → Prop} (hts : ts ≠ []) (g : Gd K ρ H NoW (isAny d ts S) P) : ∃ t b, isD d t S = .ok b S := by
  cases ts with
  | nil => exact absurd rfl hts
  | cons t r =>
    have g' : Gd K ρ H NoW ((isD d t S).bind fun b => if b then pur (.bl true) else isAny d r) P := g
    cases d with
    | ref n =>
      have e : isD (.ref n) t S = (match S[n]? with
        | some (.lst _) => .ok (t == .list) S
        | some (.dic _) => .ok (t == .dict) S
        | none => .bad : Mi.R Bool) := rfl
      cases hS : S[n]? with
      | none =>
        rw [e, hS] at g'
        exact (show False from g').elim
      | some o => cases o <;> exact ⟨t, _, by rw [e, hS]⟩
    | _ => exact ⟨t, _, rfl⟩
/-- isinstance(x, T) -/
theorem ci_one {t : Ty} : CallR X (.builtin "isinstance") (fun vs H Q => ∃ ρ S d x, vs = [x, .ty t.nm] ∧ Sto X.K ρ S H ∧ Rv X.K ρ H d x ∧ Gd X.K ρ H NoW (isAny d [t] S) (Vq X.K Q)) := by
  rintro pins s σ H vs us Q I r ⟨ρ, S, d, x, rfl, R, rd, g⟩
  obtain ⟨u, h1, h2⟩ := isD_of R rd (isAny_ok (by simp) g)
  obtain ⟨b, h3, h4⟩ := h2 t
  rw [isAny_cons d t [] S h3] at g
  refine call_isi pins s σ H _ us Q I r ⟨x, .ty t.nm, u, .type t.nm, b, rfl, .ty _, h1, h4, ?_⟩
  cases b with
  | true => exact Gd.val (show Gd X.K ρ H NoW (pur (.bl true) S) (Vq X.K Q) from g) R rfl
  | false => exact Gd.val (show Gd X.K ρ H NoW (pur (.bl false) S) (Vq X.K Q) from g) R rfl
theorem paired_ty : ∀ ts : List Ty, Paired ClsV (ts.map fun t => V.ty t.nm) (ts.map fun t => Value.type t.nm)
  | [] => .nil
  | t :: r => .cons (.ty _) (paired_ty r)
/-- isinstance(x, (T, U, ..)) -/
theorem ci_many {ts : List Ty} (hts : ts ≠ []) : CallR X (.builtin "isinstance") (fun vs H Q => ∃ ρ S d x tp, vs = [x, .ref tp] ∧ H tp = some (.tup (ts.map fun t => V.ty t.nm)) ∧ Sto X.K ρ S H ∧ Rv X.K ρ H d x ∧ Gd X.K ρ H NoW (isAny d ts S) (Vq X.K Q)) := by
  rintro pins s σ H vs us Q I r ⟨ρ, S, d, x, tp, rfl, ht, R, rd, g⟩
  obtain ⟨u, h1, h2⟩ := isD_of R rd (isAny_ok hts g)
  obtain ⟨b, h3, h4⟩ := isAny_of (K := X.K) (d := d) h2 ts
  rw [h3] at g
  exact call_isiT pins s σ H _ us Q I r ⟨x, tp, _, u, _, b, rfl, ht, paired_ty ts, h1, h4, Gd.val (show Gd X.K ρ H NoW (pur (.bl b) S) (Vq X.K Q) from g) R rfl⟩
/-! ### methods -/
def rMe (K : Fg) (m : Me) : V → List V → Hp → VK → Prop := fun x vs H Q => ∃ ρ S d ds, Sto K ρ S H ∧ Rv K ρ H d x ∧ Rvs K ρ H ds vs ∧ Gd K ρ H NoW (meD m d ds S) (Vq K Q)
theorem gSet {K : Fg} {ρ : List Addr} {H : Hp} {S : Store} {n : Nat} {o : O} {u : HO} {a : Addr} {d : D} {v : V} {Q : VK} (R : Sto K ρ S H) (hn : ρ[n]? = some a) (g : Gd K ρ H NoW (bnd (setO n o) (fun _ => pur d) S) (Vq K Q))
    (ho : ObjR K ρ (upd H a u) a o) (hv : Rv K ρ (upd H a u) d v) : Q v (upd H a u) :=
  (show Gd K ρ H NoW (.ok d (S.set n o)) (Vq K Q) from g) ρ _ (Stp.mut hn) (R.put hn ho) v hv
theorem cm_append : MtM X "list.append" (rMe X.K .append) := by
  rintro pins s σ H x vs v us Q I rx rv ⟨ρ, S, d, ds, R, rd, rs, g⟩
  cases d <;> try exact (show False from g).elim
  case ref n =>
    match ds, rs, g with
    | [], _, g => exact (show False from g).elim
    | [e], rs, g =>
      obtain ⟨y, _, rfl, re, rfl⟩ := rs
      obtain ⟨a, rfl, hn⟩ := rd
      obtain ⟨a', ds, xs, hS, h1, h2, h3, g⟩ := gGet R (gBind (show Gd X.K ρ H NoW (bnd (getL n) (fun ds => if ds.length < mx then bnd (setO n (.lst (ds ++ [e]))) fun _ => pur .non else bad) S) (Vq X.K Q) from g))
      rw [hn] at h1
      cases h1
      obtain ⟨hc, g⟩ := ifG g
      refine mt_append pins s σ H _ _ v us Q I rx rv ⟨a, xs, y, rfl, rfl, h2, by rw [← h3.length]; exact hc, ?_⟩
      exact gSet R hn g ⟨_, upd_same, (h3.mono (Stp.mut hn)).app (Rvs.one (re.mono (Stp.mut hn)))⟩ rfl
    | _ :: _ :: _, _, g => exact (show False from g).elim
theorem dropLast_take (xs : List V) : xs.dropLast = xs.take (xs.length - 1) := List.dropLast_eq_take
theorem cm_pop0 : MtM X "list.pop" (rMe X.K .pop0) := by
  rintro pins s σ H x vs v us Q I rx rv ⟨ρ, S, d, ds, R, rd, rs, g⟩
  cases d <;> try exact (show False from g).elim
  case ref n =>
    match ds, rs, g with
    | _ :: _, _, g => exact (show False from g).elim
    | [], rs, g =>
      cases (show vs = [] from rs)
      obtain ⟨a, rfl, hn⟩ := rd
      obtain ⟨a', ds, xs, hS, h1, h2, h3, g⟩ := gGet R (gBind (show Gd X.K ρ H NoW (bnd (getL n) (fun ds => bnd (opt (ds[ds.length - 1]?)) fun x => bnd (setO n (.lst ds.dropLast)) fun _ => pur x) S) (Vq X.K Q) from g))
      rw [hn] at h1
      cases h1
      obtain ⟨e, he, g⟩ := gOpt (gBind g)
      obtain ⟨y, hy, re⟩ := h3.get he
      refine mt_pop pins s σ H _ _ v us Q I rx rv ⟨a, xs, y, rfl, rfl, h2, by rw [← h3.length]; exact hy, ?_⟩
      refine gSet R hn (Gd.here g R) ⟨_, upd_same, ?_⟩ (re.mono (Stp.mut hn))
      rw [List.dropLast_eq_take, List.dropLast_eq_take, ← h3.length]
      exact (h3.mono (Stp.mut hn)).take _
theorem cm_extend : MtM X "list.extend" (rMe X.K .extend) := by
  rintro pins s σ H x vs v us Q I rx rv ⟨ρ, S, d, ds, R, rd, rs, g⟩
  cases d <;> try exact (show False from g).elim
  case ref n =>
    match ds, rs, g with
    | [], _, g => exact (show False from g).elim
    | [e], rs, g =>
      obtain ⟨y, _, rfl, re, rfl⟩ := rs
      cases e <;> try exact (show False from g).elim
      case ref m =>
        obtain ⟨a, rfl, hn⟩ := rd
        obtain ⟨b, rfl, hm⟩ := re
        obtain ⟨a', ds, xs, hS, h1, h2, h3, g⟩ := gGet R (gBind (show Gd X.K ρ H NoW (bnd (getL n) (fun ds => bnd (getL m) fun es => if ds.length + es.length ≤ mx then bnd (setO n (.lst (ds ++ es))) fun _ => pur .non else bad) S) (Vq X.K Q) from g))
        rw [hn] at h1
        cases h1
        obtain ⟨b', es, ys, hT, k1, k2, k3, g⟩ := gGet R (gBind g)
        rw [hm] at k1
        cases k1
        obtain ⟨hc, g⟩ := ifG g
        refine mt_extend pins s σ H _ _ v us Q I rx rv ⟨a, b, xs, ys, rfl, rfl, h2, k2, by rw [← h3.length, ← k3.length]; exact hc, ?_⟩
        exact gSet R hn g ⟨_, upd_same, (h3.mono (Stp.mut hn)).app (k3.mono (Stp.mut hn))⟩ rfl
    | e :: _ :: _, _, g => exact (show False from by cases e <;> exact g).elim
end
end Mi

set_option Elab.async false
set_option linter.all false
set_option maxRecDepth 100000
set_option maxHeartbeats 4000000
/-! Mi, 7: what is walked. -/
namespace PySem
open Sem (wp)
open Builtin Builtin.Str
theorem enum1_args (obj a : Value) : argsOk "object.__init__" ⟨[obj, a], []⟩ := F.args_object_init_2 obj a
set_option maxHeartbeats 1000000 in
/-- enumerate(v): its two new cells -/
theorem enum1_new {v : Value} {o : Obj} {G : Heap → Prop} (B : Begins v o G) :
    Meets (Builtin.«enumerate.__new__» ⟨[.type "enumerate", v], []⟩) (fun _ R s => G s.heap ∧
      R (.ok (.ret (.ref (s.heap.push o).objs.size))) { s with heap := (s.heap.push o).push { cls := .type "enumerate", data := .fields #[.none, .bool false, .ref s.heap.objs.size, rawInt 0, .none, .none] } }) :=
  .of_wp fun prog w A R s ⟨g1, g2⟩ => by
    obtain ⟨hp, g, d, tk, os⟩ := s
    have hsub := sub_enumerate
    have st : ∀ {A' : Around} {E : Value → Shared → Prop} {Q : Value → Shared → Prop}, Q (.ref hp.objs.size) ⟨hp.push o, g, d, tk, os⟩ → wpAny (model prog w) A' (pyIter v) Q E ⟨hp, g, d, tk, os⟩ :=
      fun q => B.iter prog w _ _ ⟨hp, g, d, tk, os⟩ _ g1 q
    wp_walk using st
    refine wpAny_stack_any fun _ => wpAny_pure ?_
    split
    · rename_i c _ _ _ _ _
      cases (c == Value.type "enumerate") <;> (wp_walk using st; exact ⟨_, rfl, g2⟩)
    · wp_walk using st
      exact ⟨_, rfl, g2⟩
section
variable {prog : Program} {w : World} {A : Around} {E : Value → Shared → Prop} {s : Shared}
theorem enum1_begins {v : Value} {o : Obj} {G : Heap → Prop} {Q : Value → Shared → Prop} (B : Begins v o G) (g1 : G s.heap)
    (k : ∀ h', IsEnum h' (s.heap.objs.size + 1) s.heap.objs.size 0 .none → h'.get? s.heap.objs.size = some o → h'.objs.size = s.heap.objs.size + 2 →
      (∀ b u, s.heap.get? b = some u → h'.get? b = some u) → Q (.ref (s.heap.objs.size + 1)) { s with heap := h' }) :
    wpAny (model prog w) A (call (.type "enumerate") [v]) Q E s := by
  refine callType_new F.called_enumerate (by decide) (F.typeCall_enumerate_1 _) (F.newCall_enumerate_1 _) (fun obj => F.args_object_init_2 obj _) F.entry_enumerate_new (enum1_new B) ⟨g1, ?_⟩
  have z : (s.heap.push o).objs.size = s.heap.objs.size + 1 := Heap.size_push ..
  have he := Heap.get?_push_size (s.heap.push o) (o := { cls := .type "enumerate", data := .fields #[.none, .bool false, .ref s.heap.objs.size, rawInt 0, .none, .none] }) rfl
  show _ ∧ _
  rw [z] at he ⊢
  exact ⟨⟨_, he, rfl⟩, k _ he (Heap.get?_push_of_some _ (Heap.get?_push_size _ B.free)) (by rw [Heap.size_push, z]) fun b u q => Heap.get?_push_of_some _ (Heap.get?_push_of_some _ q)⟩
end
end PySem
namespace Mi
open PySem PySem.Spec PyProof.Rows L2

/-- n turns, each with a new tuple; G stands all the while -/
def ItW (n : Nat) (G : Hp → Prop) (Y : Nat → List V → Prop) : L2.It :=
  ⟨fun i H => i < n ∧ G H, fun i H v H' => ∃ T xs, v = .ref T ∧ H T = none ∧ H' = upd H T (.tup xs) ∧ Y i xs, fun i H => i = n ∧ G H⟩
theorem turn_walk {P : Program} {w : World} {K : Fg} {elts : List Expr} {kk : Nat} {tpos : Pos} {I0 : Addr} {fp : List Addr} {n : Nat} {G : Hp → Prop} {Y : Nat → List V → Prop} {tn : Nat → Heap → Prop} (mem : I0 ∈ fp)
    (obj : ∀ i h, tn i h → ∀ b ∈ fp, ∃ o, h.get? b = some o ∧ ∀ v, o.data ≠ .cell v) (keep : ∀ i h h', tn i h → (∀ b ∈ fp, ∀ o, h.get? b = some o → h'.get? b = some o) → tn i h')
    (wk : ∀ (X : Cx), X.prog = P → X.w = w → X.K = K → X.calm = true → ∀ (pins : List (Addr × Obj)) (s : Shared) (σ : L2.St) (H : Hp), Inv X pins σ H s → G H →
      ∃ (fpW wr : List Addr) (Pt : Nat → Array Value → Prop) (St' : Nat → Heap → Prop) (Mid : Nat → Addr → Heap → Prop), WalksT P w X.A I0 fpW wr n Pt St' Mid ∧ (∀ b ∈ wr, b ∈ fp) ∧ (∀ i, tn i s.heap → St' i s.heap) ∧ (∀ i h, St' i h → tn i h) ∧
        ∀ i vals, Pt i vals → ∃ xs, Vals xs vals.toList ∧ Y i xs ∧ xs.length ≤ sizeLine)
    (self : ∀ (A : Around) (i : Nat) (s : Shared) (Q : Value → Shared → Prop) (E : Value → Shared → Prop), tn i s.heap → Q (.ref I0) s → wpAny (model P w) A (pyIter (.ref I0)) Q E s) :
    Turn P w K (.Tuple elts kk tpos) (ItW n G Y) fp I0 tn where
  mem := mem
  obj := obj
  keep := keep
  self := self
  item := by
    intro X hP hw hK hc i pins s σ H E I hf st hg
    obtain ⟨hlt, hG⟩ := hg
    obtain ⟨fpW, wr, Pt, St', Mid, W, wsub, into, back, val⟩ := wk X hP hw hK hc pins s σ H I hG
    refine W.item i s _ _ hlt (into i st) fun T vals h' tk hPt hT htup hMid hk => ⟨_, rfl, ?_⟩
    refine W.go elts kk tpos i T { s with heap := h', toks := tk } _ _ hMid fun h'' hSt hk2 => ?_
    obtain ⟨xs, rv, hY, hz⟩ := val i vals hPt
    have hTw : T ∉ wr := W.apart i T h' hMid
    obtain ⟨o, ho, hc', n', hd⟩ := htup
    have ho2 := hk2 T o hTw ho
    have new : ObjOk X.prog X.w (upd H T (.tup xs)) h'' T (.tup xs) := ⟨hz, vals.toList, rv, ⟨o, ho2, hc', n', by rw [hd]⟩⟩
    have I1 : Inv X pins σ (upd H T (.tup xs)) { s with heap := h'', toks := tk } :=
      I.turnedNew (ch := wr) (fun b ob hb q => hk2 b ob hb (hk b ob hb q)) (fun b hb => hf b (wsub b hb)) hT new
    refine ⟨.ref T, _, I1, rfl, ⟨T, xs, rfl, I.hok.fresh hT, rfl, hY⟩, back _ _ hSt, fun b hb => ?_⟩
    obtain ⟨ob, hob, _⟩ := obj i s.heap st b hb
    rw [upd_ne (Nat.ne_of_lt (Nat.lt_of_lt_of_le (Heap.lt_size hob) hT))]
    exact (hf b hb).1
  done := by
    intro X hP hw hK hc i pins s σ H E I hf st hg
    obtain ⟨rfl, hG⟩ := hg
    obtain ⟨fpW, wr, Pt, St', Mid, W, wsub, into, back, val⟩ := wk X hP hw hK hc pins s σ H I hG
    exact W.done s _ _ (into _ st) fun h' tk hk => ⟨rfl, I.turnedL (ch := wr) hk fun b hb => hf b (wsub b hb)⟩

section
variable {K : Fg}
theorem drawsT {prog : Program} {w : World} {A : Around} (hh : A.handled = none) {it t : Addr} (hne : t ≠ it) (items : Array Value) :
    Draws prog w A.in1 it [it, t] items.size (fun i v => items[i]? = some v) (fun i h => h.IsTupleIter it t i ∧ h.IsTuple t items) :=
  Draws.tuple (A := A.in1) (by first | exact hh | (simpa [Around.in1] using hh)) it t hne items
/-- enumerate over the tuple at a -/
def YEn (as : List V) : Nat → List V → Prop := fun i xs => ∃ x, as[i]? = some x ∧ xs = [.int (i : Nat), x]
theorem turn_enumT {P : Program} {w : World} {elts : List Expr} {kk : Nat} {tpos : Pos} {a e it : Addr} {as : List V} (hae : e ≠ a) (hai : a ≠ it) (hei : e ≠ it) :
    Turn P w K (.Tuple elts kk tpos) (ItW as.length (fun H => SqT K H a as) (YEn as)) [e, it] e (fun i h => (∃ old, IsEnum h e it (0 + ((i : Nat) : Int)) old) ∧ h.IsTupleIter it a i) := by
  refine turn_walk (by simp) (fun i h st b hb => ?_) (fun i h h' st k => ?_) (fun X hP hw hK hc pins s σ H I hG => ?_) fun A i s Q E st h => ?_
  · obtain ⟨⟨old, he⟩, o, ho, hc, hd⟩ := st
    have e' : b = e ∨ b = it := by simpa using hb
    rcases e' with z | z
    · rw [z]; exact ⟨_, he, fun v q => nomatch q⟩
    · rw [z]; exact ⟨o, ho, fun v q => by rw [hd] at q; cases q⟩
  · obtain ⟨⟨old, he⟩, hi⟩ := st
    exact ⟨⟨old, k e (by simp) _ he⟩, hi.at fun o q => k it (by simp) o q⟩
  · subst hP hw hK
    obtain ⟨its, rv, p, hz⟩ := I.tuple hG
    have D := drawsT (prog := X.prog) (w := X.w) (I.ok.hd hc) hai its.toArray
    have W := WalksT.enumFrom 0 D e hei (by simp [hei, hae]) (by simp)
    have hl : its.toArray.size = as.length := by rw [rv.length]; simp
    rw [hl] at W
    refine ⟨_, _, _, _, _, W, by simp, fun i st => ⟨st.1, st.2, p⟩, fun i h st => ⟨st.1, st.2.1⟩, fun i vals hP => ?_⟩
    obtain ⟨t, x, hx, rfl⟩ := hP
    have hi : i < as.length := by
      rw [← hl]
      exact (Array.getElem?_eq_some_iff.mp hx).1
    obtain ⟨u, hu, ru⟩ := rv.get (List.getElem?_eq_getElem hi)
    have hxu : its[i]? = some x := by simpa using hx
    rw [hxu] at hu
    cases hu
    exact ⟨[.int (i : Nat), as[i]], .cons ⟨t, by simp⟩ (.cons ru .nil), ⟨_, List.getElem?_eq_getElem hi, rfl⟩, by show 2 ≤ sizeLine; decide⟩
  · obtain ⟨⟨old, he⟩, _⟩ := st
    exact wpAny_pyIter_enum he h
def iEnT (K : Fg) (ta : TA) : TI := fun σ H R => ta σ H fun vs H1 => ∃ a as, vs = [.ref a] ∧ SqT K H1 a as ∧ R (ItW as.length (fun H => SqT K H a as) (YEn as)) H1
theorem pi_enumT {X : Cx} {e : Expr} {ta : TA} {p pos tpos : Pos} {elts : List Expr} {kk : Nat} (hg : Gl X "enumerate") (hm : X.mg "enumerate" = none) (ha : PA X [e] ta) (hs : starEach [e] X.env = [(false, eval e X.env)]) :
    PI X (.Tuple elts kk tpos) (.Call (.Name "enumerate" p) [e] [] pos) (iEnT X.K ta) := by
  refine ⟨fun pins s σ H R I h => ?_⟩
  refine Call_ (ld_blt I hg hm boot_enumerate (PyProof.Rows.callWith_type1 (thn (ha.run pos pins s σ H _ I h) fun us s1 ⟨vs, H1, I1, r1, a, as, ev, hq, q⟩ => ?_) hs rfl))
  subst ev
  cases r1 with
  | cons r rr =>
    cases rr
    cases r
    obtain ⟨its, rv, p', hz⟩ := I1.tuple hq
    obtain ⟨oa, hoa, _⟩ := id p'
    have hal := Heap.lt_size hoa
    refine enum1_begins (begins_tuple a its.toArray) p' fun h' he hit hsz hk => wpAny_pyIter_enum he ?_
    have I2 : Inv X pins σ H1 { s1 with heap := h' } := I1.kept (t' := s1.toks) hk
    refine ⟨s1.heap.objs.size + 1, [s1.heap.objs.size + 1, s1.heap.objs.size], _, _, H1, rfl, I2, turn_enumT (Nat.ne_of_gt (Nat.lt_succ_of_lt hal)) (Nat.ne_of_lt hal) (Nat.succ_ne_self _), ⟨⟨.none, by simpa using he⟩, ⟨_, hit, rfl, rfl⟩⟩, fun b hb => ?_, q⟩
    have e' : b = s1.heap.objs.size + 1 ∨ b = s1.heap.objs.size := by simpa using hb
    have hle : s1.heap.objs.size ≤ b := by
      rcases e' with z | z <;> rw [z]
      · exact Nat.le_add_right _ _
      · exact Nat.le_refl _
    exact I1.fpOk hle (I1.hok.fresh hle)
/-- zip of three tuples -/
def YZ3 (as bs cs : List V) : Nat → List V → Prop := fun i xs => ∃ x y z, as[i]? = some x ∧ bs[i]? = some y ∧ cs[i]? = some z ∧ xs = [x, y, z]
def GZ3 (K : Fg) (a b c : Addr) (as bs cs : List V) : Hp → Prop := fun H => SqT K H a as ∧ SqT K H b bs ∧ SqT K H c cs
theorem got {H : Hp} {h : Heap} {as : List V} {its : List Value} (rv : Vals as its) {i : Nat} {x : Value} (hx : its.toArray[i]? = some x) : ∃ v, as[i]? = some v ∧ RelV v x := by
  have hxu : its[i]? = some x := by simpa using hx
  have hi : i < as.length := by
    rw [rv.length]
    exact (List.getElem?_eq_some_iff.mp hxu).1
  obtain ⟨u, hu, ru⟩ := rv.get (List.getElem?_eq_getElem hi)
  rw [hxu] at hu
  cases hu
  exact ⟨_, List.getElem?_eq_getElem hi, ru⟩
theorem turn_zip3 {P : Program} {w : World} {elts : List Expr} {kk : Nat} {tpos : Pos} {a b c z TI TO i1 i2 i3 : Addr} {as bs cs : List V} (S : ZipSep3 z TI TO i1 i2 i3 [i1, a] [i2, b] [i3, c]) (h1 : a ≠ i1) (h2 : b ≠ i2) (h3 : c ≠ i3) :
    Turn P w K (.Tuple elts kk tpos) (ItW (min (min as.length bs.length) cs.length) (GZ3 K a b c as bs cs) (YZ3 as bs cs)) [z, TI, TO, i1, i2, i3] z
      (fun i h => IsZip h z TI TO .none ∧ IsTupOf3 h TI (.ref i1) (.ref i2) (.ref i3) ∧ (∃ a1 a2 a3, IsTupOf3 h TO a1 a2 a3) ∧ h.IsTupleIter i1 a i ∧ h.IsTupleIter i2 b i ∧ h.IsTupleIter i3 c i) := by
  refine turn_walk (by simp) (fun i h st d hd => ?_) (fun i h h' st k => ?_) (fun X hP hw hK hc pins s σ H I hG => ?_) fun A i s Q E st h => ?_
  · obtain ⟨hz, hTI, ⟨a1, a2, a3, hTO⟩, ⟨o1, e1, _, d1⟩, ⟨o2, e2, _, d2⟩, ⟨o3, e3, _, d3⟩⟩ := st
    have e' : d = z ∨ d = TI ∨ d = TO ∨ d = i1 ∨ d = i2 ∨ d = i3 := by simpa using hd
    rcases e' with q | q | q | q | q | q <;> rw [q]
    · exact ⟨_, hz, fun v q => nomatch q⟩
    · exact ⟨_, hTI, fun v q => nomatch q⟩
    · exact ⟨_, hTO, fun v q => nomatch q⟩
    · exact ⟨o1, e1, fun v q => by rw [d1] at q; cases q⟩
    · exact ⟨o2, e2, fun v q => by rw [d2] at q; cases q⟩
    · exact ⟨o3, e3, fun v q => by rw [d3] at q; cases q⟩
  · obtain ⟨hz, hTI, ⟨a1, a2, a3, hTO⟩, t1, t2, t3⟩ := st
    exact ⟨k z (by simp) _ hz, k TI (by simp) _ hTI, ⟨a1, a2, a3, k TO (by simp) _ hTO⟩, t1.at fun o q => k i1 (by simp) o q, t2.at fun o q => k i2 (by simp) o q, t3.at fun o q => k i3 (by simp) o q⟩
  · subst hP hw hK
    obtain ⟨g1, g2, g3⟩ := hG
    obtain ⟨ia, ra, pa, _⟩ := I.tuple g1
    obtain ⟨ib, rb, pb, _⟩ := I.tuple g2
    obtain ⟨ic, rc, pc, _⟩ := I.tuple g3
    have W := WalksT.zipD3 S (drawsT (prog := X.prog) (w := X.w) (I.ok.hd hc) h1 ia.toArray) (drawsT (I.ok.hd hc) h2 ib.toArray) (drawsT (I.ok.hd hc) h3 ic.toArray)
    have l1 : ia.toArray.size = as.length := by rw [ra.length]; simp
    have l2 : ib.toArray.size = bs.length := by rw [rb.length]; simp
    have l3 : ic.toArray.size = cs.length := by rw [rc.length]; simp
    rw [l1, l2, l3] at W
    refine ⟨_, _, _, _, _, W, by simp, fun i st => ?_, fun i h st => ?_, fun i vals hP => ?_⟩
    · obtain ⟨hz, hTI, hTO, t1, t2, t3⟩ := st
      exact ⟨hz, hTI, hTO, ⟨t1, pa⟩, ⟨t2, pb⟩, ⟨t3, pc⟩⟩
    · obtain ⟨hz, hTI, hTO, t1, t2, t3⟩ := st
      exact ⟨hz, hTI, hTO, t1.1, t2.1, t3.1⟩
    · obtain ⟨x1, x2, x3, e1, e2, e3, rfl⟩ := hP
      obtain ⟨v1, q1, r1⟩ := got (H := H) (h := s.heap) ra e1
      obtain ⟨v2, q2, r2⟩ := got (H := H) (h := s.heap) rb e2
      obtain ⟨v3, q3, r3⟩ := got (H := H) (h := s.heap) rc e3
      exact ⟨[v1, v2, v3], .cons r1 (.cons r2 (.cons r3 .nil)), ⟨_, _, _, q1, q2, q3, rfl⟩, by show 3 ≤ sizeLine; decide⟩
  · exact wpAny_pyIter_zip st.1 h
def iZ3 (K : Fg) (ta : TA) : TI := fun σ H R => ta σ H fun vs H1 => ∃ a b c as bs cs, vs = [.ref a, .ref b, .ref c] ∧ GZ3 K a b c as bs cs H1 ∧ R (ItW (min (min as.length bs.length) cs.length) (GZ3 K a b c as bs cs) (YZ3 as bs cs)) H1
theorem pi_zip3 {X : Cx} {e e2 e3 : Expr} {ta : TA} {p pos tpos : Pos} {elts : List Expr} {kk : Nat} (hg : Gl X "zip") (hm : X.mg "zip" = none) (ha : PA X [e, e2, e3] ta)
    (hs : starEach [e, e2, e3] X.env = (false, eval e X.env) :: starEach [e2, e3] X.env) (hpl : (backTo pos (starEach [e2, e3] X.env)).any (·.1) = false) :
    PI X (.Tuple elts kk tpos) (.Call (.Name "zip" p) [e, e2, e3] [] pos) (iZ3 X.K ta) := by
  refine ⟨fun pins s σ H R I h => ?_⟩
  refine Call_ (ld_blt I hg hm PyProof.Rows.boot_zip (PyProof.Rows.callWith_type1 (thn (ha.run pos pins s σ H _ I h) fun us s1 ⟨vs, H1, I1, r1, a, b, c, as, bs, cs, ev, hq, q⟩ => ?_) hs hpl))
  subst ev
  cases r1 with
  | cons ra rr =>
    cases rr with
    | cons rb rr =>
      cases rr with
      | cons rc rr =>
        cases rr
        cases ra
        cases rb
        cases rc
        obtain ⟨g1, g2, g3⟩ := id hq
        obtain ⟨ia, _, pa, _⟩ := I1.tuple g1
        obtain ⟨ib, _, pb, _⟩ := I1.tuple g2
        obtain ⟨ic, _, pc, _⟩ := I1.tuple g3
        obtain ⟨oa, ka, _⟩ := id pa
        obtain ⟨ob, kb, _⟩ := id pb
        obtain ⟨oc, kc, _⟩ := id pc
        have la := Heap.lt_size ka
        have lb := Heap.lt_size kb
        have lc := Heap.lt_size kc
        refine zip_begins3 (begins_tuple a ia.toArray) (begins_tuple b ib.toArray) (begins_tuple c ic.toArray) pa pb pc fun h' hz hTI hTO t1 t2 t3 hsz hk => wpAny_pyIter_zip hz ?_
        have I2 : Inv X pins σ H1 { s1 with heap := h' } := I1.kept (t' := s1.toks) hk
        have S : ZipSep3 (s1.heap.objs.size + 5) (s1.heap.objs.size + 3) (s1.heap.objs.size + 4) s1.heap.objs.size (s1.heap.objs.size + 1) (s1.heap.objs.size + 2) [s1.heap.objs.size, a] [s1.heap.objs.size + 1, b] [s1.heap.objs.size + 2, c] :=
          zip_sep3 (fun d hd => by rw [show d = a by simpa using hd]; exact la) (fun d hd => by rw [show d = b by simpa using hd]; exact lb) fun d hd => by rw [show d = c by simpa using hd]; exact lc
        refine ⟨s1.heap.objs.size + 5, [s1.heap.objs.size + 5, s1.heap.objs.size + 3, s1.heap.objs.size + 4, s1.heap.objs.size, s1.heap.objs.size + 1, s1.heap.objs.size + 2], _, _, H1, rfl, I2,
          turn_zip3 S (Nat.ne_of_lt la) (Nat.ne_of_lt (Nat.lt_succ_of_lt lb)) (Nat.ne_of_lt (Nat.lt_succ_of_lt (Nat.lt_succ_of_lt lc))), ⟨hz, hTI, ⟨_, _, _, hTO⟩, ⟨_, t1, rfl, rfl⟩, ⟨_, t2, rfl, rfl⟩, ⟨_, t3, rfl, rfl⟩⟩, fun d hd => ?_, q⟩
        have e' : d = s1.heap.objs.size + 5 ∨ d = s1.heap.objs.size + 3 ∨ d = s1.heap.objs.size + 4 ∨ d = s1.heap.objs.size ∨ d = s1.heap.objs.size + 1 ∨ d = s1.heap.objs.size + 2 := by simpa using hd
        have hle : s1.heap.objs.size ≤ d := by
          rcases e' with z | z | z | z | z | z <;> rw [z]
          · exact Nat.le_add_right _ _
          · exact Nat.le_add_right _ _
          · exact Nat.le_add_right _ _
          · exact Nat.le_refl _
          · exact Nat.le_add_right _ _
          · exact Nat.le_add_right _ _
        exact I1.fpOk hle (I1.hok.fresh hle)
end
end Mi

set_option Elab.async false
set_option linter.all false
set_option maxRecDepth 100000
set_option maxHeartbeats 4000000
/-! Mi, 8: readings of expressions, and how each shape is read. -/
namespace Mi
open PySem PySem.Spec PyProof.Rows L2

/-! ### what never raises -/
def Qu {α : Type} (m : M α) : Prop := ∀ S x S', m S ≠ .exn x S'
section
variable {α β : Type}
theorem qu_pur {a : α} : Qu (pur a) := fun S x S' h => by cases h
theorem qu_bad : Qu (bad : M α) := fun S x S' h => by cases h
theorem qu_bnd {m : M α} {k : α → M β} (h : Qu m) (hk : ∀ a, Qu (k a)) : Qu (bnd m k) := fun S x S' e => by
  unfold bnd at e
  cases q : m S with
  | ok a S1 => rw [q] at e; exact hk a S1 x S' e
  | exn y S1 => exact h S y S1 q
  | bad => rw [q] at e; cases e
theorem qu_opt {o : Option α} : Qu (opt o) := by
  cases o
  · exact qu_bad
  · exact qu_pur
theorem qu_if {p : Prop} [Decidable p] {m n : M α} (h : Qu m) (k : Qu n) : Qu (if p then m else n) := by
  split
  · exact h
  · exact k
theorem qu_getL {n : Nat} : Qu (getL n) := fun S x S' e => by
  unfold getL at e
  split at e <;> cases e
theorem qu_setO {n : Nat} {o : O} : Qu (setO n o) := fun S x S' e => by cases e
theorem qu_alloc {o : O} : Qu (Mi.alloc o) := fun S x S' e => by cases e
theorem qu_truth (d : D) : Qu (truth d) := by
  cases d with
  | ref n =>
    intro S x S' e
    unfold truth at e
    simp only at e
    split at e <;> cases e
  | str s => exact qu_if qu_pur qu_bad
  | _ => exact qu_pur
theorem qu_opIn (b : Bool) (d e : D) : Qu (opIn b d e) := by
  cases e with
  | str t =>
    unfold opIn
    simp only
    split
    · exact qu_pur
    · exact qu_bad
  | tup ds => exact qu_if qu_pur qu_bad
  | ref n =>
    intro S x S' q
    unfold opIn at q
    simp only at q
    split at q
    · split at q <;> cases q
    · split at q <;> cases q
    · cases q
  | _ => exact qu_bad
theorem qu_op (o : Op) (d e : D) : Qu (opD o d e) := by
  cases o with
  | in_ => exact qu_opIn _ _ _
  | notin => exact qu_opIn _ _ _
  | _ => unfold opD; simp only; (repeat' split) <;> first
    | exact qu_pur
    | exact qu_bad
    | exact qu_opt
    | exact qu_if qu_pur qu_bad
    | exact qu_bnd qu_getL fun _ => qu_opt
    | exact qu_bnd qu_getL fun _ => qu_bnd qu_getL fun _ => qu_if qu_alloc qu_bad
theorem qu_len (d : D) : Qu (lenD d) := by
  cases d with
  | ref n =>
    intro S x S' e
    unfold lenD at e
    simp only at e
    split at e <;> cases e
  | str s => exact qu_if qu_pur qu_bad
  | tup _ => exact qu_pur
  | _ => exact qu_bad
theorem qu_bi (b : Bi) (ds : List D) : Qu (biD b ds) := by
  unfold biD
  split <;> first
    | exact qu_pur
    | exact qu_bad
    | exact qu_bnd (qu_len _) fun _ => qu_pur
    | exact qu_bnd qu_getL fun _ => qu_pur
    | exact qu_bnd qu_opt fun _ => qu_pur
    | exact qu_if qu_pur qu_bad
    | exact qu_bnd qu_getL fun _ => qu_bnd qu_opt fun _ => qu_pur
    | exact qu_bnd qu_getL fun _ => qu_bnd qu_opt fun _ => qu_bnd qu_opt fun _ => qu_pur
theorem qu_biF (b : Bi) (ds : List D) : Qu (biF b ds) := by
  unfold biF
  split <;> first
    | exact qu_pur
    | exact qu_bad
    | exact qu_bnd qu_opt fun _ => qu_pur
    | exact qu_bnd qu_opt fun _ => qu_bnd qu_opt fun _ => qu_pur
theorem qu_me (m : Me) (d : D) (ds : List D) : Qu (meD m d ds) := by
  unfold meD
  split <;> first
    | exact qu_bad
    | exact qu_bnd qu_getL fun _ => qu_if (qu_bnd qu_setO fun _ => qu_pur) qu_bad
    | exact qu_bnd qu_getL fun _ => qu_bnd qu_opt fun _ => qu_bnd qu_setO fun _ => qu_pur
    | exact qu_bnd qu_getL fun _ => qu_bnd qu_getL fun _ => qu_if (qu_bnd qu_setO fun _ => qu_pur) qu_bad
theorem qu_is (d : D) (t : Ty) : Qu (isD d t) := by
  cases d with
  | ref n =>
    intro S x S' e
    unfold isD at e
    simp only at e
    split at e <;> cases e
  | _ => exact qu_pur
theorem qu_isAny (d : D) : ∀ ts, Qu (isAny d ts)
  | [] => qu_pur
  | t :: r => qu_bnd (qu_is d t) fun b => qu_if qu_pur (qu_isAny d r)
theorem qu_neg (d : D) : Qu (negD d) := by
  cases d with
  | int _ => exact qu_pur
  | _ => exact qu_bad
theorem qu_sl (d : D) (l h : Option Int) : Qu (slD d l h) := by
  cases d with
  | tup _ => exact qu_pur
  | str _ => exact qu_if qu_pur qu_bad
  | ref n => exact qu_bnd qu_getL fun _ => qu_alloc
  | _ => exact qu_bad
theorem qu_rev (d : D) : Qu (revD d) := by
  cases d with
  | ref n => exact qu_bnd qu_getL fun _ => qu_alloc
  | _ => exact qu_bad
theorem qu_isL (d : D) : Qu (isL d) := by
  cases d with
  | ref n => exact qu_bnd qu_getL fun _ => qu_pur
  | _ => exact qu_bad
theorem qu_items (d : D) : Qu (itemsD d) := by
  cases d with
  | ref n => exact qu_getL
  | tup _ => exact qu_pur
  | _ => exact qu_bad
theorem qu_src (d : D) : Qu (srcD d) := by
  cases d with
  | tup _ => exact qu_pur
  | str _ => exact qu_if qu_pur qu_bad
  | ref _ => exact qu_bnd qu_getL fun _ => qu_pur
  | rol _ => exact qu_pur
  | _ => exact qu_bad
theorem qu_set (x i v : D) : Qu (setItem x i v) := by
  cases x with
  | ref n =>
    intro S y S' e
    unfold setItem at e
    simp only at e
    (repeat' split at e) <;> cases e
  | _ => exact qu_bad
end

/-! ### readings -/
/-- what a reading speaks of: the module, the meanings, the exception in hand (its address, class, dict), what is wished of an exception -/
structure Rg where
  K : Fg
  mg : Str → Option Value
  c : Ctx
  cu : Option (Addr × Value × Option Addr)
  W : WX
/-- the classes that are raised, and their fields -/
def xTab : List (String × List String) := [("BadLots", ["at", "word"]), ("BadCounts", ["at"]), ("BadCrowd", ["at"]), ("BadTrust", ["at", "word"]), ("BadStair", ["at"]), ("BadPact", ["at", "word"]), ("BadRoll", ["at"]), ("BadScheme", ["at", "word"]),
  ("NotUsable", ["word"]), ("NotFor", ["word"]), ("BadMove", ["at", "word"]), ("BadText", ["line", "word"]), ("NoSuch", ["word"]), ("Taken", ["word"])]
def xNames : List String := xTab.map (·.1)
/-- an exception with its class and dict -/
def ExnR (K : Fg) (mg : Str → Option Value) (ρ : List Addr) (H : Hp) (x : Exn) (cls : Value) (dd : Option Addr) : Prop :=
  ∃ C, cls = .ref C ∧ (mg (Str.ofString x.cls) = some (.ref C) ∧ x.cls ∈ xNames) ∧ XfC K C ∧ ∃ d fs, dd = some d ∧ H d = some (.xd fs) ∧ d ∉ ρ ∧ ∀ f e, x.fs.lookup f = some e → PySem.W.findIn K (.ref C) (Str.ofString f) = some none ∧ ∃ v, fs.lookup (Str.ofString f) = some v ∧ Rv K ρ H e v
structure Cfg (G : Rg) (ρ : List Addr) (δ : Mi.Env) (S : Store) (σ : L2.St) (H : Hp) : Prop where
  sto : Sto G.K ρ S H
  len : δ.length = σ.length
  env : ∀ (i : Nat) d, δ[i]? = some (some d) → ∃ v, σ[i]? = some (some v) ∧ Rv G.K ρ H d v
  cur : ∀ i x, G.c.cur = some (i, x) → ∃ a cls dd, G.cu = some (a, cls, dd) ∧ σ[i]? = some (some (.ref a)) ∧ ExnR G.K G.mg ρ H x cls dd
section
variable {G : Rg} {ρ ρ' : List Addr} {δ : Mi.Env} {S S' : Store} {σ : L2.St} {H H' : Hp}
theorem ExnR.mono {K : Fg} {mg : Str → Option Value} {x : Exn} {cls : Value} {dd : Option Addr} (s : Stp ρ H ρ' H') (h : ExnR K mg ρ H x cls dd) : ExnR K mg ρ' H' x cls dd := by
  obtain ⟨C, h1, h2, h0, d, fs, h3, h4, h5, h6⟩ := h
  obtain ⟨k1, k2⟩ := s.2 d _ h4 h5
  exact ⟨C, h1, h2, h0, d, fs, h3, k1, k2, fun f e q => let ⟨z0, v, z1, z2⟩ := h6 f e q; ⟨z0, v, z1, z2.mono s⟩⟩
theorem Cfg.mono (C : Cfg G ρ δ S σ H) (s : Stp ρ H ρ' H') (R : Sto G.K ρ' S' H') : Cfg G ρ' δ S' σ H' :=
  ⟨R, C.len, fun i d e => let ⟨v, h1, h2⟩ := C.env i d e; ⟨v, h1, h2.mono s⟩, fun i x e => let ⟨a, cls, dd, h1, h2, h3⟩ := C.cur i x e; ⟨a, cls, dd, h1, h2, h3.mono s⟩⟩
end
def Wx (G : Rg) (σ : L2.St) : Exn → Store → List Addr → Hp → Prop := fun x _ ρ' H' => ∀ cls dd, ExnR G.K G.mg ρ' H' x cls dd → G.W cls dd σ H'
def rd {α : Type} (G : Rg) (m : Mi.Env → M α) (σ : L2.St) (H : Hp) (P : α → Store → List Addr → Hp → Prop) : Prop := ∃ ρ δ S, Cfg G ρ δ S σ H ∧ Gd G.K ρ H (Wx G σ) (m δ S) P
def tE (G : Rg) (e : E) : TE := fun σ H Q => rd G (fun δ => evE G.c δ e) σ H (Vq G.K Q)
def tT (G : Rg) (e : E) : TT := fun σ H Q => rd G (fun δ => evT G.c δ e) σ H fun b _ _ H' => Q b H'
def Es.len : Es → Nat
  | .nil => 0
  | .cons _ es => es.len + 1
def tA (G : Rg) (es : Es) : TA := fun σ H Q => rd G (fun δ => evEs G.c δ es) σ H fun ds _ ρ' H' => ∀ vs, Rvs G.K ρ' H' ds vs → vs.length = es.len → Q vs H'
def tO (G : Rg) (o : Eo) : TO := fun σ H Q => rd G (fun δ => evO G.c δ o) σ H fun i _ _ H' => Q i H'
/-- a list just made, at an address of its own -/
def tF (G : Rg) (f : F) : TE := fun σ H Q => rd G (fun δ => evF G.c δ f) σ H fun ds _ ρ' H' => ∀ p xs, H p = none → p ∉ ρ' → H' p = some (.lst xs) → Rvs G.K ρ' H' ds xs → Q (.ref p) H'
def tC1 (G : Rg) (es : Es) : TT := fun σ H Q => rd G (fun δ => evC G.c δ es) σ H fun b _ _ H' => Q b H'
section
variable {X : Cx} {e : Expr} {es : List Expr}
theorem PE.imp {t t' : TE} (h : PE X e t) (k : ∀ σ H Q, t' σ H Q → t σ H Q) : PE X e t' := ⟨fun pins s σ H Q I q => h.run pins s σ H Q I (k σ H Q q)⟩
theorem PT.imp {t t' : TT} (h : PT X e t) (k : ∀ σ H Q, t' σ H Q → t σ H Q) : PT X e t' := ⟨fun pins s σ H Q I q => h.run pins s σ H Q I (k σ H Q q)⟩
theorem PA.imp {t t' : TA} (h : PA X es t) (k : ∀ σ H Q, t' σ H Q → t σ H Q) : PA X es t' := ⟨fun pos pins s σ H Q I q => h.run pos pins s σ H Q I (k σ H Q q)⟩
theorem PO.imp {e : Option Expr} {t t' : TO} (h : PO X e t) (k : ∀ σ H Q, t' σ H Q → t σ H Q) : PO X e t' := ⟨fun pins s σ H Q I q => h.run pins s σ H Q I (k σ H Q q)⟩
theorem PI.imp {tg : Expr} {t t' : TI} (h : PI X tg e t) (k : ∀ σ H Q, t' σ H Q → t σ H Q) : PI X tg e t' := ⟨fun pins s σ H Q I q => h.run pins s σ H Q I (k σ H Q q)⟩
end
section
variable {α β : Type} {K : Fg} {ρ ρ' : List Addr} {H H' : Hp} {S : Store} {W W' : Exn → Store → List Addr → Hp → Prop}
theorem Gd.bind0 {P : β → Store → List Addr → Hp → Prop} {r : Mi.R α} {k : α → M β} (h : Gd K ρ H W (r.bind k) P) : Gd K ρ H W r fun a S' _ _ => Gd K ρ H W (k a S') P := by
  cases r with
  | ok a S' => exact fun _ _ _ _ => h
  | exn x S' => exact h
  | bad => exact h
theorem Gd.qu {m : M α} {P : α → Store → List Addr → Hp → Prop} (g : Gd K ρ H W (m S) P) (q : Qu m) : Gd K ρ H W' (m S) P := by
  cases e : m S with
  | ok a S' => rw [e] at g; exact g
  | exn x S' => exact absurd e (q S x S')
  | bad => rw [e] at g; exact g
end
section
variable {G : Rg} {ρ : List Addr} {δ : Mi.Env} {S : Store} {σ : L2.St} {H : Hp} {Q : VK}
/-- one step of a reading, then the rest -/
theorem rd_bnd {α β : Type} {m : Mi.Env → M α} {k : Mi.Env → α → M β} {P : β → Store → List Addr → Hp → Prop} {P' : α → Store → List Addr → Hp → Prop} (h : rd G (fun δ => bnd (m δ) (k δ)) σ H P)
    (f : ∀ δ a S' ρ' H' ρ, Stp ρ H ρ' H' → Cfg G ρ' δ S' σ H' → Gd G.K ρ' H' (Wx G σ) (k δ a S') P → P' a S' ρ' H') : rd G m σ H P' := by
  obtain ⟨ρ, δ, S, C, g⟩ := h
  exact ⟨ρ, δ, S, C, (gBind g).mono fun a S' ρ' H' st R gk => f δ a S' ρ' H' ρ st (C.mono st R) gk⟩
theorem ch_op {o : Op} {a b : E} (h : tE G (.op o a b) σ H Q) : tOp (rD2 G.K (opD o)) (tE G a) (tE G b) σ H Q := by
  obtain ⟨ρ, δ, S, C, g⟩ := h
  refine ⟨ρ, δ, S, C, (gBind g).mono fun d S1 ρ1 H1 s1 R1 g1 x rx => ?_⟩
  refine ⟨ρ1, δ, S1, C.mono s1 R1, (gBind g1).mono fun e S2 ρ2 H2 s2 R2 g2 y ry => ?_⟩
  exact ⟨ρ2, S2, d, e, R2, rx.mono s2, ry, g2.qu (qu_op o d e)⟩
/-- from a value to its truth -/
theorem ch_truth {a : E} (hT : ∀ c δ, evT c δ a = bnd (evE c δ a) truth) {Q : Bool → Hp → Prop} (h : tT G a σ H Q) : tE G a σ H fun x H' => ∃ k, TruV G.K x H' k ∧ Q k H' := by
  obtain ⟨ρ, δ, S, C, g⟩ := h
  have g : Gd G.K ρ H (Wx G σ) (evT G.c δ a S) (fun b _ _ H' => Q b H') := g
  rw [hT] at g
  refine ⟨ρ, δ, S, C, (gBind g).mono fun d S1 ρ1 H1 s1 R1 g1 x rx => ?_⟩
  obtain ⟨b, h1, h2⟩ := truV_of R1 rx (g1.qu (W' := NoW) (qu_truth d))
  exact ⟨b, h1, h2⟩
/-- the value of a comparison is a bool -/
theorem tb_of {K : Fg} {d : D} {x : V} {ρ : List Addr} {H : Hp} {k : Bool} (r : Rv K ρ H d x) (hb : ∃ b, d = .bl b) (t : TruV K x H k) : x = .bl k := by
  obtain ⟨b, rfl⟩ := hb
  cases r
  cases (show k = b from t)
  rfl
end
end Mi

set_option Elab.async false
set_option linter.all false
set_option maxRecDepth 100000
set_option maxHeartbeats 4000000
/-! Mi, 9: each shape of an expression. -/
namespace Mi
open PySem PySem.Spec PyProof.Rows L2

/-! ### trees of no special kind -/
def noStar : Expr → Bool
  | .Starred .. => false
  | _ => true
def noCall : Expr → Bool
  | .Call .. => false
  | _ => true
def noSet : Expr → Bool
  | .Set .. => false
  | _ => true
def plainT : Expr → Bool
  | .UnaryOp .. => false
  | .BoolOp .. => false
  | .IfExp .. => false
  | .Compare .. => false
  | _ => true
theorem star_of {e : Expr} {es : List Expr} {env : PySem.Env} (h : noStar e = true) : starEach (e :: es) env = (false, eval e env) :: starEach es env := by
  cases e <;> first | rfl | exact absurd h Bool.false_ne_true
theorem stars_any {pos : Pos} {env : PySem.Env} : ∀ {es : List Expr}, es.all noStar = true → (backTo pos (starEach es env)).any (·.1) = false
  | [], _ => rfl
  | e :: es, h => by
    rw [List.all_cons, Bool.and_eq_true] at h
    rw [star_of h.1]
    have := stars_any (pos := pos) (env := env) h.2
    show (false || (backTo pos (starEach es env)).any (·.1)) = false
    rw [this]
    rfl
theorem stars_all {pos : Pos} {env : PySem.Env} : ∀ {es : List Expr}, es.all noStar = true → (backTo pos (starEach es env)).all (fun x => !x.1) = true
  | [], _ => rfl
  | e :: es, h => by
    rw [List.all_cons, Bool.and_eq_true] at h
    rw [star_of h.1]
    exact stars_all (pos := pos) (env := env) h.2
theorem base_of {o : Expr} {n : Str} {env : PySem.Env} {whole : Sem Value} (h : noCall o = true) : attributeBase o n env whole = whole := by
  cases o <;> first | rfl | exact absurd h Bool.false_ne_true
theorem mark_of {op : CmpOp} {b : Expr} (h : noSet b = true) : behindInMarks op b = false := by
  cases b <;> first | rfl | exact absurd h Bool.false_ne_true
theorem fold_of {e : Expr} {env : PySem.Env} (h : noSet e = true) (x : Value) : foldedSetIterable e env x = pure x := by
  cases e <;> first | rfl | exact absurd h Bool.false_ne_true
theorem true_of {e : Expr} {env : PySem.Env} (h : plainT e = true) (whole : Sem Value) : isTrue e env whole = (do let v ← whole; standAt e.pos; holding [v] (truthy v)) := by
  cases e <;> first | rfl | exact absurd h Bool.false_ne_true

abbrev Rg.of (X : Cx) (c : Ctx) (cu : Option (Addr × Value × Option Addr)) (W : WX) : Rg := ⟨X.K, X.mg, c, cu, W⟩
/-- what a function of the program promises: what m says -/
def Wxe (K : Fg) (mg : Str → Option Value) (E : XK) : Exn → Store → List Addr → Hp → Prop := fun x _ ρ' H' => ∀ cls dd, ExnR K mg ρ' H' x cls dd → E cls dd H'
def spOf (K : Fg) (mg : Str → Option Value) (m : List D → M D) : Sp := fun vs H Q E => ∃ ρ S ds, Sto K ρ S H ∧ Rvs K ρ H ds vs ∧ Gd K ρ H (Wxe K mg E) (m ds S) (Vq K Q)

/-! ### a test is its value's truth -/
theorem truth_stay {d : D} {S S' : Store} {t : Bool} (h : truth d S = .ok t S') : S' = S := by
  cases d with
  | ref n =>
    unfold truth at h
    simp only at h
    split at h <;> cases h <;> rfl
  | str s =>
    have h' : (if s.length ≤ mx then pur (!s.isEmpty) else bad : M Bool) S = .ok t S' := h
    split at h'
    · cases h'; rfl
    · cases h'
  | _ => cases h; rfl
theorem bnd_assoc {α β γ : Type} (m : M α) (f : α → M β) (g : β → M γ) : bnd (bnd m f) g = bnd m fun a => bnd (f a) g := by
  funext S
  unfold bnd
  cases m S <;> rfl
theorem bnd_congr {α β : Type} {m : M α} {f g : α → M β} (h : ∀ a, f a = g a) : bnd m f = bnd m g := by
  have : f = g := funext h
  rw [this]
theorem bnd_pur {α β : Type} (a : α) (f : α → M β) : bnd (pur a) f = f a := rfl
theorem evT_eq (c : Ctx) (δ : Mi.Env) : ∀ e : E, evT c δ e = bnd (evE c δ e) truth
  | .var _ | .cst _ | .glo _ | .tup _ | .fre _ | .dic0 | .op _ _ _ | .neg _ | .chn _ _ _ _ _ | .ite _ _ _ | .call _ _ | .bi _ _ | .bif _ _ | .isi _ _ | .me _ _ _ | .sl _ _ _ | .rev _ | .errA _ _ | .errI _ _ => rfl
  | .no a => by
    show bnd (evT c δ a) (fun t => pur (!t)) = bnd (bnd (evT c δ a) fun t => pur (.bl (!t))) truth
    rw [bnd_assoc]
    rfl
  | .and2 a b => by
    show bnd (evT c δ a) (fun t => if t then evT c δ b else pur false) = bnd (bnd (evE c δ a) fun x => bnd (truth x) fun t => if t then evE c δ b else pur x) truth
    rw [evT_eq c δ a, evT_eq c δ b, bnd_assoc, bnd_assoc]
    refine bnd_congr fun x => ?_
    funext S
    show (truth x S).bind _ = ((truth x S).bind _).bind _
    cases h : truth x S with
    | ok t S' =>
      cases t with
      | true => rfl
      | false =>
        have e := truth_stay h
        subst e
        show Mi.R.ok false S' = (truth x S')
        rw [h]
    | exn y S' => rfl
    | bad => rfl
  | .or2 a b => by
    show bnd (evT c δ a) (fun t => if t then pur true else evT c δ b) = bnd (bnd (evE c δ a) fun x => bnd (truth x) fun t => if t then pur x else evE c δ b) truth
    rw [evT_eq c δ a, evT_eq c δ b, bnd_assoc, bnd_assoc]
    refine bnd_congr fun x => ?_
    funext S
    show (truth x S).bind _ = ((truth x S).bind _).bind _
    cases h : truth x S with
    | ok t S' =>
      cases t with
      | false => rfl
      | true =>
        have e := truth_stay h
        subst e
        show Mi.R.ok true S' = (truth x S')
        rw [h]
    | exn y S' => rfl
    | bad => rfl

section
variable {X : Cx} {c : Ctx} {cu : Option (Addr × Value × Option Addr)} {W : WX} {a b d : E} {ea eb ed : Expr} {pos p p2 : Pos} {x : Str} {es : Es} {exs : List Expr}
/-! ### names, constants -/
theorem e_var {i : Nat} (hN : X.N[i]? = some x) (hv : Vis X.env.scope x) (hd : (x == ("__debug__" : Str)) = false) (hcd : (x == ("__classdict__" : Str)) = false) : PE X (.Name x pos) (tE (Rg.of X c cu W) (.var i)) :=
  PE.imp (pe_var hN hv hd hcd) fun σ H Q h => by
    obtain ⟨ρ, δ, S, C, g⟩ := h
    have g : Gd X.K ρ H (Wx (Rg.of X c cu W) σ) ((match δ[i]? with
      | some (some d) => pur d
      | _ => bad : M D) S) (Vq X.K Q) := g
    cases q : δ[i]? with
    | none => rw [q] at g; exact (show False from g).elim
    | some o =>
      rw [q] at g
      cases o with
      | none => exact (show False from g).elim
      | some d =>
        obtain ⟨v, h1, h2⟩ := C.env i d q
        exact ⟨v, h1, Gd.here (show Gd X.K ρ H _ (.ok d S) (Vq X.K Q) from g) C.sto v h2⟩
/-- a value known beforehand -/
theorem e_val {e : Expr} {dd : D} {v : V} (h : PE X e (tC v)) (r : ∀ ρ H, Rv X.K ρ H dd v) {t : E} (he : ∀ δ, evE c δ t = pur dd) : PE X e (tE (Rg.of X c cu W) t) :=
  PE.imp h fun σ H Q ⟨ρ, δ, S, C, g⟩ => by
    have g : Gd X.K ρ H (Wx (Rg.of X c cu W) σ) (evE c δ t S) (Vq X.K Q) := g
    rw [he] at g
    exact Gd.here (show Gd X.K ρ H _ (.ok dd S) (Vq X.K Q) from g) C.sto v (r ρ H)
/-! ### operators -/
theorem e_bop {o : Op} {op : Operator} (ho : OpR X (binaryOp op) (rD2 X.K (opD o))) (ha : PE X ea (tE (Rg.of X c cu W) a)) (hb : PE X eb (tE (Rg.of X c cu W) b)) : PE X (.BinOp ea op eb pos) (tE (Rg.of X c cu W) (.op o a b)) :=
  PE.imp (pe_op ho ha hb) fun σ H Q h => ch_op h
theorem e_cmp {o : Op} {op : CmpOp} (ho : OpR X (compareOp op) (rD2 X.K (opD o))) (ha : PE X ea (tE (Rg.of X c cu W) a)) (hb : PE X eb (tE (Rg.of X c cu W) b)) (hm : noSet eb = true) : PE X (.Compare ea [op] [eb] pos) (tE (Rg.of X c cu W) (.op o a b)) :=
  PE.imp (pe_cmpR ho ha hb (mark_of hm)) fun σ H Q h => ch_op h
def isCmp : Op → Bool
  | .eq | .ne | .lt | .le | .gt | .ge | .is_ | .isnot | .in_ | .notin => true
  | _ => false
theorem opIn_bl (bb : Bool) (x y : D) {S : Store} {z : D} {S' : Store} (h : opIn bb x y S = .ok z S') : ∃ k, z = .bl k := by
  cases y with
  | str t =>
    unfold opIn at h
    simp only at h
    split at h
    · cases h; exact ⟨_, rfl⟩
    · cases h
  | tup ds =>
    have h : (if x.scal && ds.all D.scal then pur (.bl (xor bb (inD x ds))) else bad : M D) S = .ok z S' := h
    split at h
    · cases h; exact ⟨_, rfl⟩
    · cases h
  | ref n =>
    unfold opIn at h
    simp only at h
    split at h
    · split at h
      · cases h; exact ⟨_, rfl⟩
      · cases h
    · split at h
      · cases h; exact ⟨_, rfl⟩
      · cases h
    · cases h
  | _ => cases h
theorem op_bl {o : Op} (hc : isCmp o = true) {x y : D} {S : Store} {z : D} {S' : Store} (h : opD o x y S = .ok z S') : ∃ k, z = .bl k := by
  cases o with
  | in_ => exact opIn_bl _ _ _ h
  | notin => exact opIn_bl _ _ _ h
  | eq =>
    unfold opD at h
    simp only at h
    (repeat' split at h) <;> first | (cases h; exact ⟨_, rfl⟩) | cases h
  | ne =>
    unfold opD at h
    simp only at h
    (repeat' split at h) <;> first | (cases h; exact ⟨_, rfl⟩) | cases h
  | lt =>
    cases x with
    | int i =>
      cases y with
      | int j => cases h; exact ⟨_, rfl⟩
      | _ => cases h
    | tup s =>
      cases y with
      | tup t =>
        unfold opD at h
        simp only at h
        cases e1 : ints? s with
        | none => rw [e1] at h; cases h
        | some ns =>
          rw [e1] at h
          cases e2 : ints? t with
          | none => rw [e2] at h; cases h
          | some ms => rw [e2] at h; cases h; exact ⟨_, rfl⟩
      | _ => cases h
    | _ => cases h
  | le =>
    unfold opD at h
    simp only at h
    (repeat' split at h) <;> first | (cases h; exact ⟨_, rfl⟩) | cases h
  | gt =>
    unfold opD at h
    simp only at h
    (repeat' split at h) <;> first | (cases h; exact ⟨_, rfl⟩) | cases h
  | ge =>
    unfold opD at h
    simp only at h
    (repeat' split at h) <;> first | (cases h; exact ⟨_, rfl⟩) | cases h
  | is_ =>
    unfold opD at h
    simp only at h
    (repeat' split at h) <;> first | (cases h; exact ⟨_, rfl⟩) | cases h
  | isnot =>
    unfold opD at h
    simp only at h
    (repeat' split at h) <;> first | (cases h; exact ⟨_, rfl⟩) | cases h
  | _ => exact absurd hc (by decide)
/-- the truth of a bool is itself: a reading of a comparison as a test -/
theorem Gd.bl {K : Fg} {ρ : List Addr} {H : Hp} {W : Exn → Store → List Addr → Hp → Prop} {m : M D} {S : Store} {Q : Bool → Hp → Prop} (hb : ∀ z S', m S = .ok z S' → ∃ k, z = .bl k) (g : Gd K ρ H W (bnd m truth S) fun b _ _ H' => Q b H') :
    Gd K ρ H W (m S) (Vq K fun x H' => ∃ k, x = .bl k ∧ Q k H') := by
  unfold bnd at g
  cases e : m S with
  | ok z S' =>
    obtain ⟨k, rfl⟩ := hb z S' e
    rw [e] at g
    intro ρ' H' s R v r
    cases r
    exact ⟨k, rfl, (show Gd K ρ H W (.ok k S') _ from g) ρ' H' s R⟩
  | exn y S' => rw [e] at g; exact g
  | bad => rw [e] at g; exact g
theorem t_cmp {o : Op} {op : CmpOp} (hc : isCmp o = true) (ho : OpR X (compareOp op) (rD2 X.K (opD o))) (ha : PE X ea (tE (Rg.of X c cu W) a)) (hb : PE X eb (tE (Rg.of X c cu W) b)) (hm : noSet eb = true) : PT X (.Compare ea [op] [eb] pos) (tT (Rg.of X c cu W) (.op o a b)) :=
  PT.imp (pt_cmpR ho ha hb (mark_of hm)) fun σ H Q h => by
    obtain ⟨ρ, δ, S, C, g⟩ := h
    refine ch_op (o := o) (G := Rg.of X c cu W) ⟨ρ, δ, S, C, ?_⟩
    refine Gd.bl (fun z S' e => ?_) g
    have e : bnd (evE c δ a) (fun x => bnd (evE c δ b) fun y => opD o x y) S = .ok z S' := e
    unfold bnd at e
    cases e1 : evE c δ a S with
    | ok x S1 =>
      rw [e1] at e
      have e : (evE c δ b S1).bind (fun y => opD o x y) = .ok z S' := e
      cases e2 : evE c δ b S1 with
      | ok y S2 =>
        rw [e2] at e
        exact op_bl hc e
      | exn y S2 => rw [e2] at e; cases e
      | bad => rw [e2] at e; cases e
    | exn y S1 => rw [e1] at e; cases e
    | bad => rw [e1] at e; cases e
theorem e_neg (ha : PE X ea (tE (Rg.of X c cu W) a)) : PE X (.UnaryOp .USub ea pos) (tE (Rg.of X c cu W) (.neg a)) :=
  PE.imp (pe_un un_neg ha) fun σ H Q h => by
    obtain ⟨ρ, δ, S, C, g⟩ := h
    refine ⟨ρ, δ, S, C, (gBind g).mono fun dd S1 ρ1 H1 s1 R1 g1 x rx => ?_⟩
    cases dd with
    | int i =>
      cases rx
      exact ⟨i, rfl, Gd.here (show Gd X.K ρ1 H1 _ (.ok (.int (-i)) S1) (Vq X.K Q) from g1) R1 _ rfl⟩
    | _ => exact (show False from g1).elim
theorem e_not (ha : PE X ea (tE (Rg.of X c cu W) a)) : PE X (.UnaryOp .Not ea pos) (tE (Rg.of X c cu W) (.no a)) :=
  PE.imp (pe_notT ha) fun σ H Q h => by
    obtain ⟨ρ, δ, S, C, g⟩ := h
    have g : Gd X.K ρ H (Wx (Rg.of X c cu W) σ) (bnd (evT c δ a) (fun t => pur (.bl (!t))) S) (Vq X.K Q) := g
    rw [evT_eq, bnd_assoc] at g
    refine ⟨ρ, δ, S, C, (gBind g).mono fun dd S1 ρ1 H1 s1 R1 g1 x rx => ?_⟩
    obtain ⟨k, h1, h2⟩ := truV_of R1 rx ((gBind g1).qu (W' := NoW) (qu_truth dd))
    exact ⟨k, h1, Gd.here (show Gd X.K ρ1 H1 _ (.ok (.bl (!k)) S1) (Vq X.K Q) from h2) R1 _ rfl⟩
theorem t_not (ha : PT X ea (tT (Rg.of X c cu W) a)) : PT X (.UnaryOp .Not ea pos) (tT (Rg.of X c cu W) (.no a)) :=
  PT.imp (pt_not ha) fun σ H Q h => by
    obtain ⟨ρ, δ, S, C, g⟩ := h
    refine ⟨ρ, δ, S, C, (gBind g).mono fun t S1 ρ1 H1 s1 R1 g1 => ?_⟩
    exact Gd.here (show Gd X.K ρ1 H1 _ (.ok (!t) S1) _ from g1) R1
variable {rest : List Expr}
theorem e_and (ha : PE X ea (tE (Rg.of X c cu W) a)) (hb : PE X (.BoolOp .And (eb :: rest) pos) (tE (Rg.of X c cu W) b)) : PE X (.BoolOp .And (ea :: eb :: rest) pos) (tE (Rg.of X c cu W) (.and2 a b)) :=
  PE.imp (pe_andT ha hb) fun σ H Q h => by
    obtain ⟨ρ, δ, S, C, g⟩ := h
    refine ⟨ρ, δ, S, C, (gBind g).mono fun dd S1 ρ1 H1 s1 R1 g1 x rx => ?_⟩
    obtain ⟨k, h1, h2⟩ := truV_of R1 rx ((gBind g1).qu (W' := NoW) (qu_truth dd))
    refine ⟨k, h1, ?_⟩
    cases k with
    | true => exact ⟨ρ1, δ, S1, C.mono s1 R1, h2⟩
    | false => exact Gd.here (show Gd X.K ρ1 H1 _ (.ok dd S1) (Vq X.K Q) from h2) R1 x rx
theorem e_or (ha : PE X ea (tE (Rg.of X c cu W) a)) (hb : PE X (.BoolOp .Or (eb :: rest) pos) (tE (Rg.of X c cu W) b)) : PE X (.BoolOp .Or (ea :: eb :: rest) pos) (tE (Rg.of X c cu W) (.or2 a b)) :=
  PE.imp (pe_orT ha hb) fun σ H Q h => by
    obtain ⟨ρ, δ, S, C, g⟩ := h
    refine ⟨ρ, δ, S, C, (gBind g).mono fun dd S1 ρ1 H1 s1 R1 g1 x rx => ?_⟩
    obtain ⟨k, h1, h2⟩ := truV_of R1 rx ((gBind g1).qu (W' := NoW) (qu_truth dd))
    refine ⟨k, h1, ?_⟩
    cases k with
    | true => exact Gd.here (show Gd X.K ρ1 H1 _ (.ok dd S1) (Vq X.K Q) from h2) R1 x rx
    | false => exact ⟨ρ1, δ, S1, C.mono s1 R1, h2⟩
theorem PW.imp {e : Expr} {t t' : TT} (h : PW X e t) (k : ∀ σ H Q, t' σ H Q → t σ H Q) : PW X e t' := ⟨fun wh pins s σ H Q I q => h.run wh pins s σ H Q I (k σ H Q q)⟩
theorem w_and (ha : PT X ea (tT (Rg.of X c cu W) a)) (hb : PW X (.BoolOp .And (eb :: rest) pos) (tT (Rg.of X c cu W) b)) : PW X (.BoolOp .And (ea :: eb :: rest) pos) (tT (Rg.of X c cu W) (.and2 a b)) :=
  PW.imp (pw_and ha hb) fun σ H Q h => by
    obtain ⟨ρ, δ, S, C, g⟩ := h
    refine ⟨ρ, δ, S, C, (gBind g).mono fun k S1 ρ1 H1 s1 R1 g1 => ?_⟩
    cases k with
    | true => exact ⟨ρ1, δ, S1, C.mono s1 R1, g1⟩
    | false => exact Gd.here (show Gd X.K ρ1 H1 _ (.ok false S1) _ from g1) R1
theorem w_or (ha : PT X ea (tT (Rg.of X c cu W) a)) (hb : PW X (.BoolOp .Or (eb :: rest) pos) (tT (Rg.of X c cu W) b)) : PW X (.BoolOp .Or (ea :: eb :: rest) pos) (tT (Rg.of X c cu W) (.or2 a b)) :=
  PW.imp (pw_or ha hb) fun σ H Q h => by
    obtain ⟨ρ, δ, S, C, g⟩ := h
    refine ⟨ρ, δ, S, C, (gBind g).mono fun k S1 ρ1 H1 s1 R1 g1 => ?_⟩
    cases k with
    | true => exact Gd.here (show Gd X.K ρ1 H1 _ (.ok true S1) _ from g1) R1
    | false => exact ⟨ρ1, δ, S1, C.mono s1 R1, g1⟩
theorem t_plain (ha : PE X ea (tE (Rg.of X c cu W) a)) (hp : plainT ea = true) : PT X ea (tT (Rg.of X c cu W) a) :=
  PT.imp (pt_truth ha (true_of hp)) fun σ H Q h => ch_truth (fun c δ => evT_eq c δ a) h
/-- a chain of two comparisons -/
theorem chain_of {o o' : Op} (hco : isCmp o = true) {σ : L2.St} {H : Hp} {Q : VK} (h : tE (Rg.of X c cu W) (.chn o o' a b d) σ H Q) : tChain (rD2 X.K (opD o)) (rD2 X.K (opD o')) (tE (Rg.of X c cu W) a) (tE (Rg.of X c cu W) b) (tE (Rg.of X c cu W) d) σ H Q := by
  obtain ⟨ρ, δ, S, C, g⟩ := h
  refine ⟨ρ, δ, S, C, (gBind g).mono fun da S1 ρ1 H1 s1 R1 g1 x rx => ?_⟩
  refine ⟨ρ1, δ, S1, C.mono s1 R1, (gBind g1).mono fun db S2 ρ2 H2 s2 R2 g2 y ry => ?_⟩
  have C2 := (C.mono s1 R1).mono s2 R2
  refine ⟨ρ2, S2, da, db, R2, rx.mono s2, ry, ?_⟩
  refine Gd.qu (W := Wx (Rg.of X c cu W) σ) ?_ (qu_op o da db)
  have gb := gBind g2
  cases e : opD o da db S2 with
  | ok z S3 =>
    obtain ⟨k, rfl⟩ := op_bl hco e
    rw [e] at gb
    intro ρ3 H3 s3 R3 v rv
    cases rv
    refine ⟨k, rfl, ?_⟩
    have g3 := gb ρ3 H3 s3 R3
    cases k with
    | true =>
      refine ⟨ρ3, δ, S3, C2.mono s3 R3, (gBind (show Gd X.K ρ3 H3 _ (bnd (evE c δ d) (fun w => opD o' db w) S3) _ from g3)).mono fun dd S4 ρ4 H4 s4 R4 g4 w rw' => ?_⟩
      exact ⟨ρ4, S4, db, dd, R4, (ry.mono s3).mono s4, rw', g4.qu (qu_op o' db dd)⟩
    | false => exact Gd.here (show Gd X.K ρ3 H3 _ (.ok (.bl false) S3) (Vq X.K Q) from g3) R3 _ rfl
  | exn x' S3 => exact absurd e (qu_op o da db S2 x' S3)
  | bad => rw [e] at gb; exact gb
theorem e_chain {o o' : Op} {op op' : CmpOp} (hco : isCmp o = true) (ho : OpR X (compareOp op) (rD2 X.K (opD o))) (ho' : OpR X (compareOp op') (rD2 X.K (opD o'))) (ha : PE X ea (tE (Rg.of X c cu W) a)) (hb : PE X eb (tE (Rg.of X c cu W) b)) (hd : PE X ed (tE (Rg.of X c cu W) d)) (hm : noSet ed = true) :
    PE X (.Compare ea [op, op'] [eb, ed] pos) (tE (Rg.of X c cu W) (.chn o o' a b d)) :=
  PE.imp (pe_chain ho ho' ha hb hd (mark_of hm)) fun σ H Q h => chain_of hco h
theorem chn_bl {o o' : Op} (hco : isCmp o = true) (hco' : isCmp o' = true) {δ : Mi.Env} {S S' : Store} {z : D} (h : evE c δ (.chn o o' a b d) S = .ok z S') : ∃ k, z = .bl k := by
  have h : bnd (evE c δ a) (fun x => bnd (evE c δ b) fun y => bnd (opD o x y) fun z => chnD (bnd (evE c δ d) fun w => opD o' y w) z) S = .ok z S' := h
  unfold bnd at h
  cases e1 : evE c δ a S with
  | ok x S1 =>
    rw [e1] at h
    have h : (evE c δ b S1).bind _ = .ok z S' := h
    cases e2 : evE c δ b S1 with
    | ok y S2 =>
      rw [e2] at h
      have h : (opD o x y S2).bind _ = .ok z S' := h
      cases e3 : opD o x y S2 with
      | ok z0 S3 =>
        rw [e3] at h
        obtain ⟨k, rfl⟩ := op_bl hco e3
        cases k with
        | true =>
          have h : (evE c δ d S3).bind (fun w => opD o' y w) = .ok z S' := h
          cases e4 : evE c δ d S3 with
          | ok w S4 => rw [e4] at h; exact op_bl hco' h
          | exn _ _ => rw [e4] at h; cases h
          | bad => rw [e4] at h; cases h
        | false => cases h; exact ⟨_, rfl⟩
      | exn _ _ => rw [e3] at h; cases h
      | bad => rw [e3] at h; cases h
    | exn _ _ => rw [e2] at h; cases h
    | bad => rw [e2] at h; cases h
  | exn _ _ => rw [e1] at h; cases h
  | bad => rw [e1] at h; cases h
theorem t_chain {o o' : Op} {op op' : CmpOp} (hco : isCmp o = true) (hco' : isCmp o' = true) (ho : OpR X (compareOp op) (rD2 X.K (opD o))) (ho' : OpR X (compareOp op') (rD2 X.K (opD o'))) (ha : PE X ea (tE (Rg.of X c cu W) a)) (hb : PE X eb (tE (Rg.of X c cu W) b)) (hd : PE X ed (tE (Rg.of X c cu W) d)) (hm : noSet ed = true) :
    PT X (.Compare ea [op, op'] [eb, ed] pos) (tT (Rg.of X c cu W) (.chn o o' a b d)) :=
  PT.imp (pt_chain ho ho' ha hb hd (mark_of hm)) fun σ H Q h => by
    obtain ⟨ρ, δ, S, C, g⟩ := h
    exact chain_of (c := c) (cu := cu) (W := W) hco ⟨ρ, δ, S, C, Gd.bl (m := evE c δ (.chn o o' a b d)) (fun z S' e => chn_bl hco hco' e) g⟩
theorem e_ite (hd : PT X ed (tT (Rg.of X c cu W) d)) (ha : PE X ea (tE (Rg.of X c cu W) a)) (hb : PE X eb (tE (Rg.of X c cu W) b)) : PE X (.IfExp ed ea eb pos) (tE (Rg.of X c cu W) (.ite d a b)) :=
  PE.imp (pe_ifExp hd ha hb) fun σ H Q h => by
    obtain ⟨ρ, δ, S, C, g⟩ := h
    refine ⟨ρ, δ, S, C, (gBind g).mono fun k S1 ρ1 H1 s1 R1 g1 => ?_⟩
    cases k with
    | true => exact ⟨ρ1, δ, S1, C.mono s1 R1, g1⟩
    | false => exact ⟨ρ1, δ, S1, C.mono s1 R1, g1⟩
theorem e_ix (ha : PE X ea (tE (Rg.of X c cu W) a)) (hb : PE X eb (tE (Rg.of X c cu W) b)) (hs : PlainIx eb) : PE X (.Subscript ea eb pos) (tE (Rg.of X c cu W) (.op .ix a b)) :=
  PE.imp (pe_ix ix_any ha hb hs) fun σ H Q h => ch_op h
end
end Mi

set_option Elab.async false
set_option linter.all false
set_option maxRecDepth 100000
set_option maxHeartbeats 4000000
/-! Mi, 10: arguments, calls, lists, what is walked. -/
namespace Mi
open PySem PySem.Spec PyProof.Rows L2
theorem evEs_len {c : Ctx} {δ : Mi.Env} : ∀ (es : Es) {S S' : Store} {ds : List D}, evEs c δ es S = .ok ds S' → ds.length = es.len
  | .nil, S, S', ds, h => by cases h; rfl
  | .cons e es, S, S', ds, h => by
    have h : (evE c δ e S).bind (fun x => bnd (evEs c δ es) fun xs => pur (x :: xs)) = .ok ds S' := h
    cases e1 : evE c δ e S with
    | ok x S1 =>
      rw [e1] at h
      have h : (evEs c δ es S1).bind (fun xs => pur (x :: xs)) = .ok ds S' := h
      cases e2 : evEs c δ es S1 with
      | ok xs S2 =>
        rw [e2] at h
        cases h
        show xs.length + 1 = es.len + 1
        rw [evEs_len es e2]
      | exn _ _ => rw [e2] at h; cases h
      | bad => rw [e2] at h; cases h
    | exn _ _ => rw [e1] at h; cases h
    | bad => rw [e1] at h; cases h
section
variable {X : Cx} {c : Ctx} {cu : Option (Addr × Value × Option Addr)} {W : WX} {a b d : E} {ea eb ed : Expr} {pos p p2 : Pos} {x : Str} {es : Es} {exs : List Expr}
/-! ### arguments -/
theorem a_nil : PA X [] (tA (Rg.of X c cu W) .nil) := PA.imp pa_nil fun σ H Q ⟨ρ, δ, S, C, g⟩ => Gd.here (show Gd X.K ρ H _ (.ok [] S) _ from g) C.sto [] rfl rfl
theorem a_cons (hs : noStar ea = true) (ha : PE X ea (tE (Rg.of X c cu W) a)) (hr : PA X exs (tA (Rg.of X c cu W) es)) : PA X (ea :: exs) (tA (Rg.of X c cu W) (.cons a es)) :=
  PA.imp (pa_cons ha hr (star_of hs)) fun σ H Q h => by
    obtain ⟨ρ, δ, S, C, g⟩ := h
    refine ⟨ρ, δ, S, C, (gBind g).mono fun d1 S1 ρ1 H1 s1 R1 g1 v rv => ?_⟩
    refine ⟨ρ1, δ, S1, C.mono s1 R1, (gBind g1).mono fun ds S2 ρ2 H2 s2 R2 g2 vs rvs hl => ?_⟩
    exact Gd.here (show Gd X.K ρ2 H2 _ (.ok (d1 :: ds) S2) _ from g2) R2 (v :: vs) ⟨v, vs, rfl, rv.mono s2, rvs⟩ (by show vs.length + 1 = es.len + 1; rw [hl])
theorem e_tup {k : Nat} (h : PA X exs (tA (Rg.of X c cu W) es)) (hl : decide (es.len ≤ 1000) = true) : PE X (.Tuple exs k pos) (tE (Rg.of X c cu W) (.tup es)) :=
  PE.imp (pe_tup h) fun σ H Q h => by
    obtain ⟨ρ, δ, S, C, g⟩ := h
    refine ⟨ρ, δ, S, C, (gBind g).mono fun ds S1 ρ1 H1 s1 R1 g1 vs rvs hv => ⟨?_, fun p hp => ?_⟩⟩
    · rw [hv, sizeLine_eq]
      have := of_decide_eq_true hl
      omega
    · exact Gd.tupN (g1.qu qu_pur) R1 hp rvs
/-! ### calls -/
theorem e_call {f : String} {k : Nat} {fa : Addr} {fd : FuncData} {ps : List Str} (F : FnOk X.prog X.w X.K X.mg X.base (L2.CX X.prog X.w) k fa fd ps (spOf X.K X.mg (c.call f))) (hr : Room k X.A) (hg : Gl X x) (hm : X.mg x = some (.ref fa)) (hk : PySem.W.keepIn X.K (.ref fa) = true) (hb : Binds X.K fd ps [])
    (tk : Takes X W) (ha : PA X (ea :: exs) (tA (Rg.of X c cu W) es)) (hd : (x == ("__debug__" : Str)) = false) (hs : noStar ea = true) (hss : exs.all noStar = true) : PE X (.Call (.Name x p) (ea :: exs) [] pos) (tE (Rg.of X c cu W) (.call f es)) :=
  PE.imp (pe_callS F hr hg hm hk hb (passAt tk) ha hd (star_of hs) (stars_any hss)) fun σ H Q h => by
    obtain ⟨ρ, δ, S, C, g⟩ := h
    exact ⟨ρ, δ, S, C, (gBind g).mono fun ds S1 ρ1 H1 s1 R1 g1 vs rvs _ => ⟨ρ1, S1, ds, R1, rvs, g1⟩⟩
theorem e_call0 {f : String} {k : Nat} {fa : Addr} {fd : FuncData} {ps : List Str} (F : FnOk X.prog X.w X.K X.mg X.base (L2.CX X.prog X.w) k fa fd ps (spOf X.K X.mg (c.call f))) (hr : Room k X.A) (hg : Gl X x) (hm : X.mg x = some (.ref fa)) (hk : PySem.W.keepIn X.K (.ref fa) = true) (hb : Binds X.K fd ps [])
    (tk : Takes X W) (hd : (x == ("__debug__" : Str)) = false) : PE X (.Call (.Name x p) [] [] pos) (tE (Rg.of X c cu W) (.call f .nil)) := by
  refine ⟨fun pins s σ H Q I h => ?_⟩
  obtain ⟨ρ, δ, S, C, g⟩ := h
  refine wpAny_Call_Name_kw (ld_glob I hg hm ?_ hd)
  exact PySem.W.callWith_K0 I.kIn hk (run_fnS (us := []) (vs := []) (E := WE W) F hr hb (passAt tk σ) I .nil ⟨ρ, S, [], C.sto, rfl, g⟩)
theorem e_bi {bi : Bi} {id : String} (hc : CallR X (.builtin id) (rBi X.K bi)) (hg : Gl X x) (hm : X.mg x = none) (hv : bootBuiltins x = some (.builtin id)) (ha : PA X (ea :: exs) (tA (Rg.of X c cu W) es)) (hn : x ≠ "__name__") (hd : (x == ("__debug__" : Str)) = false)
    (hs : noStar ea = true) (hss : exs.all noStar = true) : PE X (.Call (.Name x p) (ea :: exs) [] pos) (tE (Rg.of X c cu W) (.bi bi es)) :=
  PE.imp (pe_callB hc hg hm hv ha hn hd (star_of hs) (stars_any hss)) fun σ H Q h => by
    obtain ⟨ρ, δ, S, C, g⟩ := h
    exact ⟨ρ, δ, S, C, (gBind g).mono fun ds S1 ρ1 H1 s1 R1 g1 vs rvs _ => ⟨ρ1, S1, ds, R1, rvs, g1.qu (qu_bi bi ds)⟩⟩
theorem e_biT {bi : Bi} {id : String} (hc : CallR X (.type id) (rBi X.K bi)) (hg : Gl X x) (hm : X.mg x = none) (hv : bootBuiltins x = some (.type id)) (ha : PA X (ea :: exs) (tA (Rg.of X c cu W) es)) (hn : x ≠ "__name__") (hd : (x == ("__debug__" : Str)) = false)
    (hs : noStar ea = true) (hss : exs.all noStar = true) : PE X (.Call (.Name x p) (ea :: exs) [] pos) (tE (Rg.of X c cu W) (.bi bi es)) :=
  PE.imp (pe_callTy hc hg hm hv ha hn hd (star_of hs) (stars_any hss)) fun σ H Q h => by
    obtain ⟨ρ, δ, S, C, g⟩ := h
    exact ⟨ρ, δ, S, C, (gBind g).mono fun ds S1 ρ1 H1 s1 R1 g1 vs rvs _ => ⟨ρ1, S1, ds, R1, rvs, g1.qu (qu_bi bi ds)⟩⟩
theorem rFr_of {f : F} {bi : Bi} {σ : L2.St} {H : Hp} {Q : VK} (h : tE (Rg.of X c cu W) (.bif bi f) σ H Q) : tCB (rFr X.K bi) (tCons (tF (Rg.of X c cu W) f) tNil) σ H Q := by
  obtain ⟨ρ, δ, S, C, g⟩ := h
  exact ⟨ρ, δ, S, C, (gBind g).mono fun ds S1 ρ1 H1 s1 R1 g1 p xs _ _ hp rs => ⟨ρ1, S1, ds, p, xs, rfl, hp, R1, rs, g1.qu (qu_biF bi ds)⟩⟩
theorem e_bif {f : F} {bi : Bi} {id : String} (hc : CallR X (.builtin id) (rFr X.K bi)) (hg : Gl X x) (hm : X.mg x = none) (hv : bootBuiltins x = some (.builtin id)) (ha : PE X ea (tF (Rg.of X c cu W) f)) (hn : x ≠ "__name__") (hd : (x == ("__debug__" : Str)) = false)
    (hs : noStar ea = true) : PE X (.Call (.Name x p) [ea] [] pos) (tE (Rg.of X c cu W) (.bif bi f)) :=
  PE.imp (pe_callB hc hg hm hv (pa_cons ha pa_nil (star_of hs)) hn hd (star_of hs) rfl) fun σ H Q h => rFr_of h
theorem e_bifT {f : F} {bi : Bi} {id : String} (hc : CallR X (.type id) (rFr X.K bi)) (hg : Gl X x) (hm : X.mg x = none) (hv : bootBuiltins x = some (.type id)) (ha : PE X ea (tF (Rg.of X c cu W) f)) (hn : x ≠ "__name__") (hd : (x == ("__debug__" : Str)) = false)
    (hs : noStar ea = true) : PE X (.Call (.Name x p) [ea] [] pos) (tE (Rg.of X c cu W) (.bif bi f)) :=
  PE.imp (pe_callTy hc hg hm hv (pa_cons ha pa_nil (star_of hs)) hn hd (star_of hs) rfl) fun σ H Q h => rFr_of h
theorem e_isi1 {t : Ty} {y : Str} {q : Pos} (hg : Gl X "isinstance") (hm : X.mg "isinstance" = none) (hgy : Gl X y) (hmy : X.mg y = none) (hvy : bootBuiltins y = some (.type t.nm)) (hny : y ≠ "__name__") (hdy : (y == ("__debug__" : Str)) = false) (ha : PE X ea (tE (Rg.of X c cu W) a)) (hs : noStar ea = true) :
    PE X (.Call (.Name "isinstance" p) [ea, .Name y q] [] pos) (tE (Rg.of X c cu W) (.isi a [t])) :=
  PE.imp (pe_callB ci_one hg hm (by decide +kernel) (pa_cons ha (pa_cons (pe_bltn (v := .ty t.nm) hgy hmy hvy rfl hny hdy) pa_nil rfl) (star_of hs)) (by decide) (by decide) (star_of hs) rfl) fun σ H Q h => by
    obtain ⟨ρ, δ, S, C, g⟩ := h
    exact ⟨ρ, δ, S, C, (gBind g).mono fun dd S1 ρ1 H1 s1 R1 g1 v rv => ⟨ρ1, S1, dd, v, rfl, R1, rv, g1.qu (qu_isAny dd [t])⟩⟩
/-! ### methods of lists -/
theorem few_of {env : PySem.Env} (hs : (ea :: exs).all noStar = true) (hl : decide ((ea :: exs).length < 30) = true) : ((backTo pos (starEach (ea :: exs) env)).all (fun x => !x.1) && (backToKw pos (keywordEach [] env)).all (fun x => x.1.isSome)
      && decide ((ea :: exs).length + ([] : List Keyword).length + (if ([] : List Keyword).isEmpty then 0 else 1) < 30)) = true := by
  rw [stars_all hs]
  exact hl
theorem isL_of {K : Fg} {ρ : List Addr} {H : Hp} {S : Store} {dd : D} {x : V} {P : Unit → Store → List Addr → Hp → Prop} (R : Sto K ρ S H) (r : Rv K ρ H dd x) (g : Gd K ρ H NoW (isL dd S) P) : tyV K "list" x H ∧ P () S ρ H := by
  cases dd with
  | ref n =>
    obtain ⟨a, rfl, hn⟩ := r
    obtain ⟨a', ds, xs, hS, h1, h2, h3, g⟩ := gGet R (gBind (show Gd K ρ H NoW (bnd (getL n) (fun _ => pur ()) S) P from g))
    rw [hn] at h1
    cases h1
    exact ⟨.inl ⟨rfl, xs, SqL.of h2⟩, Gd.here (show Gd K ρ H NoW (.ok () S) P from g) R⟩
  | _ => exact (show False from g).elim
theorem e_me0 {m : Me} {id : String} {n : Str} {ap : Pos} (sl : Slot "list" n id) (ty : typeOf (.builtin id) = pure (.type "method_descriptor")) (hm : MtM X id (rMe X.K m)) (ho : PE X ea (tE (Rg.of X c cu W) a)) (hb : noCall ea = true) (hl : (ap.endLine == pos.line) = true) :
    PE X (.Call (.Attribute ea n ap) [] [] pos) (tE (Rg.of X c cu W) (.me m a .nil)) :=
  PE.imp (pe_bm0 PySem.F.plainAttrs_list sl ty hm ho (base_of hb) hl) fun σ H Q h => by
    obtain ⟨ρ, δ, S, C, g⟩ := h
    refine ⟨ρ, δ, S, C, (gBind g).mono fun dd S1 ρ1 H1 s1 R1 g1 v rv => ?_⟩
    obtain ⟨h1, h2⟩ := isL_of R1 rv ((gBind g1).qu (qu_isL dd))
    exact ⟨h1, ρ1, S1, dd, [], R1, rv, rfl, (show Gd X.K ρ1 H1 (Wx (Rg.of X c cu W) σ) (meD m dd [] S1) (Vq X.K Q) from h2).qu (qu_me m dd [])⟩
theorem e_me {m : Me} {id : String} {n : Str} {ap : Pos} (sl : Slot "list" n id) (ty : typeOf (.builtin id) = pure (.type "method_descriptor")) (hm : MtM X id (rMe X.K m)) (ho : PE X eb (tE (Rg.of X c cu W) a)) (ha : PA X (ea :: exs) (tA (Rg.of X c cu W) es)) (hb : noCall eb = true) (hl : (ap.endLine == pos.line) = true)
    (hs : noStar ea = true) (hss : exs.all noStar = true) (hn : decide ((ea :: exs).length < 30) = true) : PE X (.Call (.Attribute eb n ap) (ea :: exs) [] pos) (tE (Rg.of X c cu W) (.me m a es)) :=
  PE.imp (pe_bm PySem.F.plainAttrs_list sl ty hm ho ha (base_of hb) (few_of (by rw [List.all_cons, hs, hss]; rfl) hn) hl (star_of hs) (stars_any hss)) fun σ H Q h => by
    obtain ⟨ρ, δ, S, C, g⟩ := h
    refine ⟨ρ, δ, S, C, (gBind g).mono fun dd S1 ρ1 H1 s1 R1 g1 v rv => ?_⟩
    obtain ⟨h1, h2⟩ := isL_of R1 rv ((gBind g1).qu (qu_isL dd))
    refine ⟨h1, ρ1, δ, S1, C.mono s1 R1, (gBind h2).mono fun ds S2 ρ2 H2 s2 R2 g2 vs rvs _ => ?_⟩
    exact ⟨ρ2, S2, dd, ds, R2, rv.mono s2, rvs, g2.qu (qu_me m dd ds)⟩
/-! ### slices -/
theorem o_non : PO X none (tO (Rg.of X c cu W) .non) := PO.imp po_none fun σ H Q ⟨ρ, δ, S, C, g⟩ => Gd.here (show Gd X.K ρ H _ (.ok none S) _ from g) C.sto
theorem o_som (h : PE X ea (tE (Rg.of X c cu W) a)) : PO X (some ea) (tO (Rg.of X c cu W) (.som a)) := PO.imp (po_some h) fun σ H Q hh => by
  obtain ⟨ρ, δ, S, C, g⟩ := hh
  refine ⟨ρ, δ, S, C, (gBind g).mono fun dd S1 ρ1 H1 s1 R1 g1 x rx => ?_⟩
  cases dd with
  | int i =>
    cases rx
    exact ⟨i, rfl, Gd.here (show Gd X.K ρ1 H1 _ (.ok (some i) S1) _ from g1) R1⟩
  | _ => exact (show False from g1).elim
theorem e_sl {lo hi : Eo} {elo ehi : Option Expr} (ha : PE X ea (tE (Rg.of X c cu W) a)) (hl : PO X elo (tO (Rg.of X c cu W) lo)) (hu : PO X ehi (tO (Rg.of X c cu W) hi)) : PE X (.Subscript ea (.Slice elo ehi none p2) pos) (tE (Rg.of X c cu W) (.sl a lo hi)) :=
  PE.imp (pe_slice sl_any ha hl hu) fun σ H Q h => by
    obtain ⟨ρ, δ, S, C, g⟩ := h
    refine ⟨ρ, δ, S, C, (gBind g).mono fun dd S1 ρ1 H1 s1 R1 g1 x rx => ?_⟩
    have C1 := C.mono s1 R1
    refine ⟨ρ1, δ, S1, C1, (gBind g1).mono fun l S2 ρ2 H2 s2 R2 g2 => ?_⟩
    refine ⟨ρ2, δ, S2, C1.mono s2 R2, (gBind g2).mono fun u S3 ρ3 H3 s3 R3 g3 => ?_⟩
    exact ⟨ρ3, S3, dd, R3, (rx.mono s2).mono s3, g3.qu (qu_sl dd l u)⟩
theorem e_rev {k : Nat} {p1 p3 : Pos} (ha : PE X ea (tE (Rg.of X c cu W) a)) : PE X (.Subscript ea (.Slice none none (some (.UnaryOp .USub (.Constant (.int 1) k p1) p2)) p3) pos) (tE (Rg.of X c cu W) (.rev a)) :=
  PE.imp (pe_revL ha) fun σ H Q h => by
    obtain ⟨ρ, δ, S, C, g⟩ := h
    refine ⟨ρ, δ, S, C, (gBind g).mono fun dd S1 ρ1 H1 s1 R1 g1 x rx => ?_⟩
    cases dd with
    | ref n =>
      obtain ⟨a', rfl, hn⟩ := rx
      obtain ⟨a2, ds, xs, hS, h1, h2, h3, g⟩ := gGet R1 (gBind (show Gd X.K ρ1 H1 NoW (bnd (getL n) (fun ds => Mi.alloc (.lst ds.reverse)) S1) (Vq X.K Q) from g1.qu (qu_rev (.ref n))))
      rw [hn] at h1
      cases h1
      exact ⟨a', xs, rfl, SqL.of h2, fun p hp => Gd.alloc g R1 hp h3.rev⟩
    | _ => exact (show False from g1).elim
theorem e_dic0 : PE X (.Dict [] [] pos) (tE (Rg.of X c cu W) .dic0) := PE.imp pe_dnewK fun σ H Q h p hp => by
  obtain ⟨ρ, δ, S, C, g⟩ := h
  have g : Gd X.K ρ H (Wx (Rg.of X c cu W) σ) (.ok (.ref S.length) (S ++ [.dic []])) (Vq X.K Q) := g
  refine g (ρ ++ [p]) _ (Stp.alloc hp) (C.sto.alloc hp ⟨[], upd_same, rfl⟩) (.ref p) ⟨p, rfl, ?_⟩
  rw [← C.sto.len]
  simp
/-! ### a new list -/
theorem Gd.all {α : Type} {K : Fg} {ρ : List Addr} {H : Hp} {W : Exn → Store → List Addr → Hp → Prop} {r : Mi.R α} {P P' : α → Store → List Addr → Hp → Prop} (h : Gd K ρ H W r P)
    (k : ∀ a S', (∀ ρ' H', Stp ρ H ρ' H' → Sto K ρ' S' H' → P a S' ρ' H') → ∀ ρ' H', Stp ρ H ρ' H' → Sto K ρ' S' H' → P' a S' ρ' H') : Gd K ρ H W r P' := by
  cases r with
  | ok a S' => exact k a S' h
  | exn x S' => exact h
  | bad => exact h
theorem Stp.none {K : Fg} {ρ ρ' : List Addr} {H H' : Hp} {S' : Store} {p : Addr} (s : Stp ρ H ρ' H') (R : Sto K ρ' S' H') (h : H' p = none) : H p = none := by
  cases e : H p with
  | none => rfl
  | some o =>
    by_cases m : p ∈ ρ
    · obtain ⟨u, q⟩ := R.some (s.1.subset m)
      rw [h] at q
      cases q
    · have q := (s.2 p o e m).1
      rw [h] at q
      cases q
theorem f_lst (h : PA X exs (tA (Rg.of X c cu W) es)) (hl : decide (es.len ≤ 1000) = true) : PE X (.List exs pos) (tF (Rg.of X c cu W) (.lst es)) :=
  PE.imp (pe_lst h) fun σ H Q hh => by
    obtain ⟨ρ, δ, S, C, g⟩ := hh
    refine ⟨ρ, δ, S, C, Gd.all g fun ds S1 k ρ1 H1 s1 R1 vs rvs hv => ⟨?_, fun p hp => ?_⟩⟩
    · rw [hv, sizeLine_eq]
      have := of_decide_eq_true hl
      omega
    · exact k ρ1 _ (s1.trans (Stp.new hp)) (R1.new hp) p vs (Stp.none s1 R1 hp) (R1.fresh hp) upd_same (rvs.mono (Stp.new hp))
theorem f_list (hg : Gl X "list") (hm : X.mg "list" = none) (ha : PE X ea (tE (Rg.of X c cu W) a)) (hs : noStar ea = true) : PE X (.Call (.Name "list" p) [ea] [] pos) (tF (Rg.of X c cu W) (.list a)) :=
  PE.imp (pe_callTy call_list_of hg hm (by decide +kernel) (pa_cons ha pa_nil (star_of hs)) (by decide) (by decide) (star_of hs) rfl) fun σ H Q hh => by
    obtain ⟨ρ, δ, S, C, g⟩ := hh
    have g := Gd.bind0 (show Gd X.K ρ H (Wx (Rg.of X c cu W) σ) ((evE c δ a S).bind itemsD) _ from g)
    refine ⟨ρ, δ, S, C, g.mono fun dd S1 ρ1 H1 s1 R1 g1 x rx => ?_⟩
    cases dd with
    | tup ds =>
      obtain ⟨q, xs, rfl, t, rs⟩ := rx
      refine ⟨q, xs, rfl, .inr t.sq, fun l hl => ?_⟩
      exact (show Gd X.K ρ H (Wx (Rg.of X c cu W) σ) (.ok ds S1) _ from g1) ρ1 _ (s1.trans (Stp.new hl)) (R1.new hl) l xs (Stp.none s1 R1 hl) (R1.fresh hl) upd_same (rs.mono (Stp.new hl))
    | ref n =>
      obtain ⟨q, rfl, hn⟩ := rx
      have g1 : Gd X.K ρ H (Wx (Rg.of X c cu W) σ) (getL n S1) _ := g1
      unfold getL at g1
      cases e : S1[n]? with
      | none => rw [e] at g1; exact (show False from g1).elim
      | some o =>
        rw [e] at g1
        cases o with
        | dic _ => exact (show False from g1).elim
        | lst ds =>
          obtain ⟨q2, xs, h1, h2, h3⟩ := R1.lst e
          rw [hn] at h1
          cases h1
          refine ⟨q, xs, rfl, .inl (SqL.of h2), fun l hl => ?_⟩
          exact (show Gd X.K ρ H (Wx (Rg.of X c cu W) σ) (.ok ds S1) _ from g1) ρ1 _ (s1.trans (Stp.new hl)) (R1.new hl) l xs (Stp.none s1 R1 hl) (R1.fresh hl) upd_same (h3.mono (Stp.new hl))
    | _ => exact (show False from g1).elim
/-- a list of our own becomes one of the store -/
theorem tp_adopt {K : Fg} {ρ : List Addr} {H : Hp} {p q : Addr} {ys xs : List V} (hp : H p = some (.lst ys)) (h : Tp K ρ H q xs) : Tp K (ρ ++ [p]) H q xs := by
  rcases h with ⟨n, h⟩ | h
  · refine .inl ⟨fun m => ?_, h⟩
    rcases List.mem_append.mp m with m | m
    · exact n m
    · have z : q = p := by simpa using m
      subst z
      rcases h with h | ⟨o, h⟩
      · rw [hp] at h; cases h
      · rw [hp] at h; cases h
  · exact .inr h
theorem rl_adopt {K : Fg} {ρ : List Addr} {H : Hp} {p q : Addr} {ys xs : List V} (hp : H p = some (.lst ys)) (h : Rl K ρ H q xs) : Rl K (ρ ++ [p]) H q xs := by
  rcases h with ⟨n, o, h⟩ | h
  · refine .inl ⟨fun m => ?_, o, h⟩
    rcases List.mem_append.mp m with m | m
    · exact n m
    · have z : q = p := by simpa using m
      subst z
      rw [hp] at h; cases h
  · exact .inr h
mutual
theorem rv_adopt {K : Fg} {ρ : List Addr} {H : Hp} {p : Addr} {ys : List V} (hp : H p = some (.lst ys)) : ∀ {d : D} {v : V}, Rv K ρ H d v → Rv K (ρ ++ [p]) H d v
  | .non, _, h => h
  | .bl _, _, h => h
  | .int _, _, h => h
  | .str _, _, h => h
  | .tup ds, _, h => by
    obtain ⟨a, xs, e, t, r⟩ := h
    exact ⟨a, xs, e, tp_adopt hp t, rvs_adopt hp (ds := ds) r⟩
  | .ref n, _, h => by
    obtain ⟨a, e, q⟩ := h
    exact ⟨a, e, pre_get (List.prefix_append _ _) q⟩
  | .rol ds, _, h => by
    obtain ⟨a, xs, e, t, r⟩ := h
    exact ⟨a, xs, e, rl_adopt hp t, rvs_adopt hp (ds := ds) r⟩
theorem rvs_adopt {K : Fg} {ρ : List Addr} {H : Hp} {p : Addr} {ys : List V} (hp : H p = some (.lst ys)) : ∀ {ds : List D} {vs : List V}, Rvs K ρ H ds vs → Rvs K (ρ ++ [p]) H ds vs
  | [], _, h => h
  | d :: ds, _, h => by
    obtain ⟨x, xs, e, r, t⟩ := h
    exact ⟨x, xs, e, rv_adopt hp (d := d) r, rvs_adopt hp (ds := ds) t⟩
end
theorem rkv_adopt {K : Fg} {ρ : List Addr} {H : Hp} {p : Addr} {ys : List V} (hp : H p = some (.lst ys)) : ∀ {ps : List (Kk × D)} {vs : List (Key × V)}, Rkv K ρ H ps vs → Rkv K (ρ ++ [p]) H ps vs
  | [], _, h => h
  | q :: ps, _, h => by
    obtain ⟨x, xs, e, r, t⟩ := h
    exact ⟨x, xs, e, rv_adopt hp r, rkv_adopt hp t⟩
theorem sto_adopt {K : Fg} {ρ : List Addr} {S : Store} {H : Hp} {p : Addr} {ds : List D} {xs : List V} (R : Sto K ρ S H) (n : p ∉ ρ) (hp : H p = some (.lst xs)) (rs : Rvs K ρ H ds xs) : Sto K (ρ ++ [p]) (S ++ [.lst ds]) H := by
  refine ⟨by simp [R.len], ?_, fun m w e => ?_⟩
  · refine List.nodup_append.mpr ⟨R.nd, by simp, fun x hx y hy => ?_⟩
    have z : y = p := by simpa using hy
    rw [z]
    intro q
    rw [q] at hx
    exact n hx
  · by_cases hm : m < S.length
    · rw [List.getElem?_append_left hm] at e
      obtain ⟨b, hb, q⟩ := R.at_ m w e
      refine ⟨b, ?_, ?_⟩
      · rw [List.getElem?_append_left (by rw [R.len]; exact hm)]
        exact hb
      · cases w with
        | lst es => obtain ⟨zs, h1, h2⟩ := q; exact ⟨zs, h1, rvs_adopt hp h2⟩
        | dic es => obtain ⟨zs, h1, h2⟩ := q; exact ⟨zs, h1, rkv_adopt hp h2⟩
    · have hm2 : m = S.length := by
        have := (List.getElem?_eq_some_iff.mp e).1
        simp at this
        omega
      subst hm2
      simp at e
      subst e
      refine ⟨p, ?_, xs, hp, rvs_adopt hp rs⟩
      rw [← R.len]
      simp
theorem stp_adopt {ρ ρ' : List Addr} {H H' : Hp} {p : Addr} (s : Stp ρ H ρ' H') (h0 : H p = none) : Stp ρ H (ρ' ++ [p]) H' := ⟨s.1.trans (List.prefix_append _ _), fun a o e n => by
  obtain ⟨h1, h2⟩ := s.2 a o e n
  refine ⟨h1, fun m => ?_⟩
  rcases List.mem_append.mp m with m | m
  · exact h2 m
  · have z : a = p := by simpa using m
    rw [z, h0] at e
    cases e⟩
theorem e_fre {f : F} (h : PE X ea (tF (Rg.of X c cu W) f)) : PE X ea (tE (Rg.of X c cu W) (.fre f)) :=
  PE.imp h fun σ H Q hh => by
    obtain ⟨ρ, δ, S, C, g⟩ := hh
    have g := Gd.bind0 (show Gd X.K ρ H (Wx (Rg.of X c cu W) σ) ((evF c δ f S).bind fun ds => Mi.alloc (.lst ds)) (Vq X.K Q) from g)
    refine ⟨ρ, δ, S, C, g.mono fun ds S1 ρ1 H1 s1 R1 g1 p xs h0 n hp rs => ?_⟩
    have g1 : Gd X.K ρ H (Wx (Rg.of X c cu W) σ) (.ok (.ref S1.length) (S1 ++ [.lst ds])) (Vq X.K Q) := g1
    refine g1 (ρ1 ++ [p]) H1 (stp_adopt s1 h0) (sto_adopt R1 n hp rs) (.ref p) ⟨p, rfl, ?_⟩
    rw [← R1.len]
    simp
end
end Mi

set_option Elab.async false
set_option linter.all false
set_option maxRecDepth 100000
set_option maxHeartbeats 4000000
/-! Mi, 11: targets, iterators. -/
namespace Mi
open PySem PySem.Spec PyProof.Rows L2

/-! ### targets -/
mutual
def Tg.sl : Tg → List Nat
  | .nm i => [i]
  | .tup ts => ts.sl
def Tgs.sl : Tgs → List Nat
  | .nil => []
  | .cons t ts => t.sl ++ ts.sl
end
/-- alike beside these slots -/
def Agr (l : List Nat) (σ σ' : L2.St) : Prop := σ'.length = σ.length ∧ ∀ (i : Nat), i ∉ l → σ'[i]? = σ[i]?
theorem Agr.refl (l : List Nat) (σ : L2.St) : Agr l σ σ := ⟨rfl, fun _ _ => rfl⟩
theorem Agr.trans {l m : List Nat} {σ σ1 σ2 : L2.St} (a : Agr l σ σ1) (b : Agr m σ1 σ2) : Agr (l ++ m) σ σ2 :=
  ⟨b.1.trans a.1, fun i h => (b.2 i fun z => h (List.mem_append_right _ z)).trans (a.2 i fun z => h (List.mem_append_left _ z))⟩
def tG (G : Rg) (tg : Tg) : TG := fun v σ H Q => ∃ ρ δ S d δ', Cfg G ρ δ S σ H ∧ Rv G.K ρ H d v ∧ putT tg d δ = some δ' ∧ ∀ σ', Cfg G ρ δ' S σ' H → Agr tg.sl σ σ' → Q σ' H
def tGs (G : Rg) (tgs : Tgs) : TGs := fun vs σ H Q => ∃ ρ δ S ds δ', Cfg G ρ δ S σ H ∧ Rvs G.K ρ H ds vs ∧ putTs tgs ds δ = some δ' ∧ ∀ σ', Cfg G ρ δ' S σ' H → Agr tgs.sl σ σ' → Q σ' H
theorem Cfg.set {G : Rg} {ρ : List Addr} {δ : Mi.Env} {S : Store} {σ : L2.St} {H : Hp} (C : Cfg G ρ δ S σ H) {i : Nat} {d : D} {v : V} (r : Rv G.K ρ H d v) (hc : ∀ j x, G.c.cur = some (j, x) → j ≠ i) : Cfg G ρ (δ.set i (some d)) S (σ.set i (some v)) H := by
  refine ⟨C.sto, by simp [C.len], fun j e h => ?_, fun j x h => ?_⟩
  · by_cases q : i = j
    · subst q
      by_cases hl : i < δ.length
      · rw [List.getElem?_set_self hl] at h
        cases h
        exact ⟨v, by rw [List.getElem?_set_self (by rw [← C.len]; exact hl)], r⟩
      · rw [List.getElem?_eq_none (by simpa using hl)] at h
        cases h
    · rw [List.getElem?_set_ne q] at h
      obtain ⟨u, h1, h2⟩ := C.env j e h
      exact ⟨u, by rw [List.getElem?_set_ne q]; exact h1, h2⟩
  · obtain ⟨a, cls, dd, h1, h2, h3⟩ := C.cur j x h
    exact ⟨a, cls, dd, h1, by rw [List.getElem?_set_ne (Ne.symm (hc j x h))]; exact h2, h3⟩
section
variable {X : Cx} {c : Ctx} {cu : Option (Addr × Value × Option Addr)} {W : WX} {pos : Pos} {x : Str}
theorem PG.imp {e : Expr} {t t' : TG} (h : PG X e t) (k : ∀ v σ H Q, t' v σ H Q → t v σ H Q) : PG X e t' := ⟨fun pins s σ H v u Q I r q => h.run pins s σ H v u Q I r (k v σ H Q q)⟩
theorem PGs.imp {e : List Expr} {t t' : TGs} (h : PGs X e t) (k : ∀ v σ H Q, t' v σ H Q → t v σ H Q) : PGs X e t' := ⟨fun pins s σ H v u Q I r q => h.run pins s σ H v u Q I r (k v σ H Q q)⟩
theorem g_nm {i : Nat} (hN : X.N.Nodup) (hi : X.N[i]? = some x) (hx : Loc X.env.scope x) (hf : X.fn x = true ∨ X.env.scope.names.lookup x = some .local) (hc : ∀ j y, c.cur = some (j, y) → j ≠ i) : PG X (.Name x pos) (tG (Rg.of X c cu W) (.nm i)) :=
  PG.imp (pg_name hN hi hx hf) fun v σ H Q h => by
    obtain ⟨ρ, δ, S, d, δ', C, r, hp, q⟩ := h
    cases hp
    refine q _ (C.set r hc) ⟨by simp, fun j hj => ?_⟩
    rw [List.getElem?_set_ne fun z => hj (by rw [z]; exact List.mem_singleton_self j)]
theorem gs_nil : PGs X [] (tGs (Rg.of X c cu W) .nil) := PGs.imp pgs_nil fun vs σ H Q h => by
  obtain ⟨ρ, δ, S, ds, δ', C, r, hp, q⟩ := h
  cases ds with
  | nil =>
    cases hp
    exact ⟨r, q σ C (Agr.refl _ _)⟩
  | cons _ _ => cases hp
theorem gs_cons {e : Expr} {es : List Expr} {t : Tg} {ts : Tgs} (hs : noStar e = true) (h1 : PG X e (tG (Rg.of X c cu W) t)) (h2 : PGs X es (tGs (Rg.of X c cu W) ts)) : PGs X (e :: es) (tGs (Rg.of X c cu W) (.cons t ts)) :=
  PGs.imp (pgs_cons h1 h2 (by cases e <;> first | rfl | exact absurd hs Bool.false_ne_true)) fun vs σ H Q h => by
    obtain ⟨ρ, δ, S, ds, δ', C, r, hp, q⟩ := h
    cases ds with
    | nil => cases hp
    | cons d ds =>
      obtain ⟨v, ws, rfl, rv, rs⟩ := r
      have hp : (putT t d δ).bind (fun δ' => putTs ts ds δ') = some δ' := hp
      cases e1 : putT t d δ with
      | none => rw [e1] at hp; cases hp
      | some δ1 =>
        rw [e1] at hp
        exact ⟨v, ws, rfl, ρ, δ, S, d, δ1, C, rv, e1, fun σ1 C1 A1 => ⟨ρ, δ1, S, ds, δ', C1, rs, hp, fun σ2 C2 A2 => q σ2 C2 (A1.trans A2)⟩⟩
def Tgs.len : Tgs → Nat
  | .nil => 0
  | .cons _ ts => ts.len + 1
theorem putTs_ln : ∀ (ts : Tgs) {ds : List D} {δ δ' : Mi.Env}, putTs ts ds δ = some δ' → ds.length = ts.len
  | .nil, [], _, _, _ => rfl
  | .nil, _ :: _, _, _, h => by cases h
  | .cons _ _, [], _, _, h => by cases h
  | .cons t ts, d :: ds, δ, δ', h => by
    have h : (putT t d δ).bind (fun δ' => putTs ts ds δ') = some δ' := h
    cases e1 : putT t d δ with
    | none => rw [e1] at h; cases h
    | some δ1 =>
      rw [e1] at h
      show ds.length + 1 = ts.len + 1
      rw [putTs_ln ts (show putTs ts ds δ1 = some δ' from h)]
theorem asn_len {env : PySem.Env} : ∀ {es : List Expr}, es.all noStar = true → (assignEach es env).length = es.length
  | [], _ => rfl
  | e :: es, h => by
    rw [List.all_cons, Bool.and_eq_true] at h
    have e1 : assignEach (e :: es) env = (false, assign e env) :: assignEach es env := by
      cases e <;> first | rfl | exact absurd h.1 Bool.false_ne_true
    rw [e1, List.length_cons, List.length_cons, asn_len h.2]
theorem asn_find {env : PySem.Env} : ∀ {es : List Expr}, es.all noStar = true → ∀ p ∈ assignEach es env, p.1 = false
  | [], _ => fun p hp => by cases hp
  | e :: es, h => by
    rw [List.all_cons, Bool.and_eq_true] at h
    have e1 : assignEach (e :: es) env = (false, assign e env) :: assignEach es env := by
      cases e <;> first | rfl | exact absurd h.1 Bool.false_ne_true
    rw [e1]
    intro p hp
    rcases List.mem_cons.mp hp with z | z
    · rw [z]
    · exact asn_find h.2 p z
theorem g_tup {es : List Expr} {k : Nat} {ts : Tgs} (hc : X.calm = true) (h : PGs X es (tGs (Rg.of X c cu W) ts)) (hs : es.all noStar = true) (hl : es.length = ts.len) : PG X (.Tuple es k pos) (tG (Rg.of X c cu W) (.tup ts)) :=
  PG.imp (pg_tup (n := ts.len) hc h (by rw [asn_len hs, hl]) (List.findIdx?_eq_none_iff.mpr fun p hp => asn_find hs p hp)) fun v σ H Q hh => by
    obtain ⟨ρ, δ, S, d, δ', C, r, hp, q⟩ := hh
    cases d with
    | tup ds =>
      obtain ⟨a, xs, rfl, t, rs⟩ := r
      have hp : putTs ts ds δ = some δ' := hp
      exact ⟨a, xs, rfl, t.sq, by rw [← rs.length]; exact putTs_ln ts hp, ρ, δ, S, ds, δ', C, rs, hp, q⟩
    | _ => cases hp
/-! ### what is walked -/
/-- J walks src, from (ρ, H) on -/
def ItS (K : Fg) (ρ0 : List Addr) (H0 : Hp) (src : Src) (J : L2.It) : Prop := ∀ ρ H S, Stp ρ0 H0 ρ H → Sto K ρ S H → src.ok S = true →
  J.stop src.items.length H ∧ ∀ (i : Nat) d, src.items[i]? = some d → J.go i H ∧ ∀ x H', J.yld i H x H' → Stp ρ H ρ H' ∧ Sto K ρ S H' ∧ Rv K ρ H' d x
def tI (G : Rg) (it : It) : TI := fun σ H R => rd G (fun δ => evI G.c δ it) σ H fun src _ ρ' H' => ∀ J, ItS G.K ρ' H' src J → R J H'
theorem its_tup {K : Fg} {ρ0 : List Addr} {H0 : Hp} {a : Addr} {ds : List D} {xs : List V} (t : Tp K ρ0 H0 a xs) (r : Rvs K ρ0 H0 ds xs) : ItS K ρ0 H0 (.its ds) (Itt K a) := fun ρ H S st R _ => by
  have t' := (t.mono st).sq
  refine ⟨⟨xs, t', by rw [← r.length]; exact Nat.le_refl _⟩, fun i d hd => ?_⟩
  obtain ⟨v, h1, h2⟩ := r.get hd
  refine ⟨⟨xs, v, t', h1⟩, fun x H' ⟨e, q⟩ => ?_⟩
  subst e
  have := q xs t'
  rw [h1] at this
  cases this
  exact ⟨Stp.refl, R, h2.mono st⟩
theorem its_rol {K : Fg} {ρ0 : List Addr} {H0 : Hp} {a : Addr} {ds : List D} {xs : List V} (t : Rl K ρ0 H0 a xs) (r : Rvs K ρ0 H0 ds xs) : ItS K ρ0 H0 (.its ds) (Itl K a) := fun ρ H S st R _ => by
  have t' := (t.mono st).sq
  refine ⟨⟨xs, t', by rw [← r.length]; exact Nat.le_refl _⟩, fun i d hd => ?_⟩
  obtain ⟨v, h1, h2⟩ := r.get hd
  refine ⟨⟨xs, v, t', h1⟩, fun x H' ⟨e, q⟩ => ?_⟩
  subst e
  have := q xs t'
  rw [h1] at this
  cases this
  exact ⟨Stp.refl, R, h2.mono st⟩
/-- a list of our own -/
theorem its_own {K : Fg} {ρ0 : List Addr} {H0 : Hp} {a : Addr} {ds : List D} {xs : List V} (n : a ∉ ρ0) (t : H0 a = some (.lst xs)) (r : Rvs K ρ0 H0 ds xs) : ItS K ρ0 H0 (.its ds) (Itl K a) := fun ρ H S st R _ => by
  have t' : SqL K H a xs := SqL.of (st.2 a _ t n).1
  refine ⟨⟨xs, t', by rw [← r.length]; exact Nat.le_refl _⟩, fun i d hd => ?_⟩
  obtain ⟨v, h1, h2⟩ := r.get hd
  refine ⟨⟨xs, v, t', h1⟩, fun x H' ⟨e, q⟩ => ?_⟩
  subst e
  have := q xs t'
  rw [h1] at this
  cases this
  exact ⟨Stp.refl, R, h2.mono st⟩
theorem its_loc {K : Fg} {ρ0 : List Addr} {H0 : Hp} {a : Addr} {n : Nat} {ds : List D} (hn : ρ0[n]? = some a) : ItS K ρ0 H0 (.loc n ds) (Itl K a) := fun ρ H S st R hok => by
  have hS : S[n]? = some (.lst ds) := of_decide_eq_true hok
  obtain ⟨a', xs, h1, h2, h3⟩ := R.lst hS
  rw [pre_get st.1 hn] at h1
  cases h1
  refine ⟨⟨xs, SqL.of h2, by rw [← h3.length]; exact Nat.le_refl _⟩, fun i d hd => ?_⟩
  obtain ⟨v, k1, k2⟩ := h3.get hd
  refine ⟨⟨xs, v, SqL.of h2, k1⟩, fun x H' ⟨e, q⟩ => ?_⟩
  subst e
  have := q xs (SqL.of h2)
  rw [k1] at this
  cases this
  exact ⟨Stp.refl, R, k2⟩
theorem its_str {K : Fg} {ρ0 : List Addr} {H0 : Hp} {s : List Nat} : ItS K ρ0 H0 (.its (s.map fun c => .str [c])) (Its (sV s)) := fun ρ H S st R _ => by
  refine ⟨show (sV s).cps.size ≤ (s.map fun c => D.str [c]).length by simp [sV], fun i d hd => ?_⟩
  have hd : (s.map fun c => D.str [c])[i]? = some d := hd
  rw [List.getElem?_map] at hd
  cases e : s[i]? with
  | none => rw [e] at hd; cases hd
  | some ch =>
    rw [e] at hd
    cases hd
    have hi : i < s.length := (List.getElem?_eq_some_iff.mp e).1
    refine ⟨show i < (sV s).cps.size by simpa [sV] using hi, fun x H' ⟨e1, c1, e2, e3⟩ => ?_⟩
    subst e1
    have e4 : s[i]? = some c1 := by simpa [sV] using e2
    rw [e] at e4
    cases e4
    exact ⟨Stp.refl, R, e3⟩
theorem its_rng {K : Fg} {ρ0 : List Addr} {H0 : Hp} {lo : Int} {n : Nat} : ItS K ρ0 H0 (.its (rangeD lo n)) (Itr lo n) := fun ρ H S st R _ => by
  refine ⟨show n ≤ (rangeD lo n).length by simp [rangeD], fun i d hd => ?_⟩
  unfold rangeD Src.items at hd
  simp only [List.getElem?_map] at hd
  by_cases hi : i < n
  · rw [List.getElem?_range hi] at hd
    cases hd
    refine ⟨hi, fun x H' ⟨e1, e2⟩ => ?_⟩
    subst e1
    exact ⟨Stp.refl, R, e2⟩
  · rw [List.getElem?_eq_none (by simpa using hi)] at hd
    cases hd
/-- walks with new tuples -/
theorem its_w {K : Fg} {ρ0 : List Addr} {H0 : Hp} {n : Nat} {Gp : Hp → Prop} {Y : Nat → List V → Prop} {items : List D} (hl : items.length = n) (hg : ∀ ρ H, Stp ρ0 H0 ρ H → Gp H)
    (hy : ∀ ρ H, Stp ρ0 H0 ρ H → ∀ (i : Nat) d xs, items[i]? = some d → Y i xs → ∃ es, d = .tup es ∧ Rvs K ρ H es xs) : ItS K ρ0 H0 (.its items) (ItW n Gp Y) := fun ρ H S st R _ => by
  refine ⟨⟨hl, hg ρ H st⟩, fun i d hd => ⟨⟨?_, hg ρ H st⟩, fun x H' ⟨T, xs, ex, hT, eH, y⟩ => ?_⟩⟩
  · rw [← hl]
    exact (List.getElem?_eq_some_iff.mp hd).1
  · subst ex eH
    have s1 : Stp ρ H ρ (upd H T (.tup xs)) := Stp.new hT
    obtain ⟨es, rfl, rs⟩ := hy ρ _ (st.trans s1) i d xs hd y
    exact ⟨s1, R.new hT, T, xs, rfl, .inl ⟨R.fresh hT, .inl upd_same⟩, rs⟩
theorem enumD_len : ∀ (ds : List D) (k : Nat), (enumD k ds).length = ds.length
  | [], _ => rfl
  | d :: ds, k => by
    show (enumD (k + 1) ds).length + 1 = ds.length + 1
    rw [enumD_len ds]
theorem enumD_get : ∀ (ds : List D) (k i : Nat) (e : D), (enumD k ds)[i]? = some e → ∃ d, ds[i]? = some d ∧ e = .tup [.int ((k + i : Nat) : Int), d]
  | [], _, _, _, h => by cases h
  | d :: ds, k, 0, e, h => by
    have h : some (D.tup [.int (k : Int), d]) = some e := h
    cases h
    exact ⟨d, rfl, rfl⟩
  | d :: ds, k, i + 1, e, h => by
    obtain ⟨d', h1, h2⟩ := enumD_get ds (k + 1) i e h
    refine ⟨d', h1, ?_⟩
    rw [h2]
    have : k + 1 + i = k + (i + 1) := by omega
    rw [this]
theorem its_enu {K : Fg} {ρ0 : List Addr} {H0 : Hp} {a : Addr} {ds : List D} {xs : List V} (t : Tp K ρ0 H0 a xs) (r : Rvs K ρ0 H0 ds xs) : ItS K ρ0 H0 (.its (enumD 0 ds)) (ItW xs.length (fun H => SqT K H a xs) (YEn xs)) :=
  its_w (by rw [enumD_len, r.length]) (fun ρ H s => (t.mono s).sq) fun ρ H s i d ys hd hy => by
    obtain ⟨e, h1, rfl⟩ := enumD_get ds 0 i d hd
    obtain ⟨x, h2, rfl⟩ := hy
    obtain ⟨v, h3, h4⟩ := r.get h1
    rw [h2] at h3
    cases h3
    refine ⟨_, rfl, .int (i : Nat), [x], rfl, ?_, Rvs.one (h4.mono s)⟩
    show V.int (i : Nat) = V.int (((0 + i : Nat) : Int))
    rw [Nat.zero_add]
theorem zip2_get : ∀ (as bs : List D) (i : Nat) (e : D), (zipD2 as bs)[i]? = some e → ∃ x y, as[i]? = some x ∧ bs[i]? = some y ∧ e = .tup [x, y]
  | [], _, _, _, h => by cases h
  | _ :: _, [], _, _, h => by cases h
  | a :: as, b :: bs, 0, e, h => by
    have h : some (D.tup [a, b]) = some e := h
    cases h
    exact ⟨a, b, rfl, rfl, rfl⟩
  | a :: as, b :: bs, i + 1, e, h => zip2_get as bs i e h
theorem zip2_len : ∀ (as bs : List D), (zipD2 as bs).length = min as.length bs.length
  | [], _ => by simp [zipD2]
  | _ :: _, [] => by simp [zipD2]
  | a :: as, b :: bs => by simp [zipD2, zip2_len as bs]
theorem zip3_get : ∀ (as bs cs : List D) (i : Nat) (e : D), (zipD3 as bs cs)[i]? = some e → ∃ x y z, as[i]? = some x ∧ bs[i]? = some y ∧ cs[i]? = some z ∧ e = .tup [x, y, z]
  | [], _, _, _, _, h => by cases h
  | _ :: _, [], _, _, _, h => by cases h
  | _ :: _, _ :: _, [], _, _, h => by cases h
  | a :: as, b :: bs, c :: cs, 0, e, h => by
    have h : some (D.tup [a, b, c]) = some e := h
    cases h
    exact ⟨a, b, c, rfl, rfl, rfl, rfl⟩
  | a :: as, b :: bs, c :: cs, i + 1, e, h => zip3_get as bs cs i e h
theorem zip3_len : ∀ (as bs cs : List D), (zipD3 as bs cs).length = min (min as.length bs.length) cs.length
  | [], _, _ => by simp [zipD3]
  | _ :: _, [], _ => by simp [zipD3]
  | _ :: _, _ :: _, [] => by simp [zipD3]
  | a :: as, b :: bs, c :: cs => by
    simp [zipD3, zip3_len as bs cs]
theorem its_z3 {K : Fg} {ρ0 : List Addr} {H0 : Hp} {a b c : Addr} {ds es fs : List D} {xs ys zs : List V} (t1 : Tp K ρ0 H0 a xs) (t2 : Tp K ρ0 H0 b ys) (t3 : Tp K ρ0 H0 c zs) (r1 : Rvs K ρ0 H0 ds xs) (r2 : Rvs K ρ0 H0 es ys) (r3 : Rvs K ρ0 H0 fs zs) :
    ItS K ρ0 H0 (.its (zipD3 ds es fs)) (ItW (min (min xs.length ys.length) zs.length) (GZ3 K a b c xs ys zs) (YZ3 xs ys zs)) :=
  its_w (by rw [zip3_len, r1.length, r2.length, r3.length]) (fun ρ H s => ⟨(t1.mono s).sq, (t2.mono s).sq, (t3.mono s).sq⟩) fun ρ H s i d ws hd hy => by
    obtain ⟨x, y, z, h1, h2, h3, rfl⟩ := zip3_get _ _ _ i d hd
    obtain ⟨u, v, w, k1, k2, k3, rfl⟩ := hy
    obtain ⟨u', l1, m1⟩ := r1.get h1
    obtain ⟨v', l2, m2⟩ := r2.get h2
    obtain ⟨w', l3, m3⟩ := r3.get h3
    rw [k1] at l1; cases l1
    rw [k2] at l2; cases l2
    rw [k3] at l3; cases l3
    exact ⟨_, rfl, u, [v, w], rfl, m1.mono s, v, [w], rfl, m2.mono s, Rvs.one (m3.mono s)⟩
theorem its_z2 {K : Fg} {ρ0 : List Addr} {H0 : Hp} {a b : Addr} {ds es : List D} {xs ys : List V} (t1 : Tp K ρ0 H0 a xs) (t2 : Tp K ρ0 H0 b ys) (r1 : Rvs K ρ0 H0 ds xs) (r2 : Rvs K ρ0 H0 es ys) :
    ItS K ρ0 H0 (.its (zipD2 ds es)) (RZ.ItzT K a b) := fun ρ H S st R _ => by
  have q1 := (t1.mono st).sq
  have q2 := (t2.mono st).sq
  refine ⟨⟨xs, ys, q1, q2, ?_⟩, fun i d hd => ?_⟩
  · show xs.length ≤ (zipD2 ds es).length ∨ ys.length ≤ (zipD2 ds es).length
    rw [zip2_len, r1.length, r2.length]
    omega
  · obtain ⟨x, y, h1, h2, rfl⟩ := zip2_get _ _ i d hd
    obtain ⟨u, l1, m1⟩ := r1.get h1
    obtain ⟨v, l2, m2⟩ := r2.get h2
    refine ⟨⟨xs, ys, u, v, q1, q2, l1, l2⟩, fun w H' ⟨T, u', v', ew, hT, eH, k1, k2⟩ => ?_⟩
    subst ew eH
    have z1 := k1 xs q1
    rw [l1] at z1
    cases z1
    have z2 := k2 ys q2
    rw [l2] at z2
    cases z2
    have s1 : Stp ρ H ρ (upd H T (.tup [u, v])) := Stp.new hT
    exact ⟨s1, R.new hT, T, _, rfl, .inl ⟨R.fresh hT, .inl upd_same⟩, u, [v], rfl, m1.mono (st.trans s1), Rvs.one (m2.mono (st.trans s1))⟩
end
end Mi

set_option Elab.async false
set_option linter.all false
set_option maxRecDepth 100000
set_option maxHeartbeats 4000000
/-! Mi, 12: iterators' rules, comprehensions, a caught exception's fields. -/
namespace Mi
open PySem PySem.Spec PyProof.Rows L2
section
variable {X : Cx} {c : Ctx} {cu : Option (Addr × Value × Option Addr)} {W : WX} {a b d : E} {ea eb ed tg : Expr} {pos p p2 : Pos} {x : Str} {es : Es} {exs : List Expr}
/-! ### a value that is walked -/
abbrev PIt (K : Fg) (R : L2.It → Hp → Prop) : Src → Store → List Addr → Hp → Prop := fun src _ ρ' H' => ∀ J, ItS K ρ' H' src J → R J H'
theorem gSrc {K : Fg} {ρ : List Addr} {H : Hp} {W : Exn → Store → List Addr → Hp → Prop} {src : Src} {S : Store} {R : L2.It → Hp → Prop} {J : L2.It} (g : Gd K ρ H W (.ok src S) (PIt K R)) (R0 : Sto K ρ S H) (h : ItS K ρ H src J) : R J H := g ρ H Stp.refl R0 J h
def iAny (K : Fg) (tl : TE) : TI := fun σ H R => tl σ H fun x H1 => (∃ a, x = .ref a ∧ (∃ xs, SqL K H1 a xs) ∧ R (Itl K a) H1) ∨ (∃ a, x = .ref a ∧ (∃ xs, SqT K H1 a xs) ∧ R (Itt K a) H1) ∨ ∃ y, x = .str y ∧ R (Its y) H1
theorem pi_any {l : Expr} {tl : TE} (hl : PE X l tl) : PI X tg l (iAny X.K tl) := by
  refine ⟨fun pins s σ H R I h => ?_⟩
  refine thn (hl.run pins s σ H _ I h) fun v s1 ⟨x, H1, I1, r1, q1⟩ => ?_
  have own : ∀ b ∈ [s1.heap.objs.size], FpOk X pins H1 b := fun b hb => by
    have e : b = s1.heap.objs.size := by simpa using hb
    subst e
    exact I1.fpOk (Nat.le_refl _) (I1.hok.fresh (Nat.le_refl _))
  rcases q1 with ⟨a, ex, ⟨xs, hq⟩, q⟩ | ⟨a, ex, ⟨xs, hq⟩, q⟩ | ⟨y, ex, q⟩
  · subst ex
    cases r1
    obtain ⟨its, rv, p, hz⟩ := I1.list hq
    refine wpAny_pyIter_list p.isList ?_
    exact ⟨_, _, _, _, H1, rfl, I1.kept (t' := s1.toks) fun b o e => Heap.get?_push_of_some _ e, turn_list a _, ⟨_, Heap.get?_push_size _ rfl, rfl, rfl⟩, own, q⟩
  · subst ex
    cases r1
    obtain ⟨its, rv, p, hz⟩ := I1.tuple hq
    refine wpAny_pyIter_tuple (show s1.heap.IsTuple a its.toArray from p) ?_
    exact ⟨_, _, _, _, H1, rfl, I1.kept (t' := s1.toks) fun b o e => Heap.get?_push_of_some _ e, turn_tuple a _, ⟨_, Heap.get?_push_size _ rfl, rfl, rfl⟩, own, q⟩
  · subst ex
    obtain ⟨t, rfl⟩ := r1
    cases ha : y.cps.all (· < 128)
    · exact wpAny_pyIter_wide ha (pi_one (tk := s1.toks) I1 _ (turn_str _ y t "str_iterator" (.inr rfl)) ⟨_, Heap.get?_push_size _ rfl, rfl, rfl⟩ q)
    · exact wpAny_pyIter_ascii ha (pi_one (tk := s1.toks) I1 _ (turn_str _ y t "str_ascii_iterator" (.inl rfl)) ⟨_, Heap.get?_push_size _ rfl, rfl, rfl⟩ q)
theorem i_e (ha : PE X ea (tE (Rg.of X c cu W) a)) : PI X tg ea (tI (Rg.of X c cu W) (.e a)) :=
  PI.imp (pi_any ha) fun σ H R hh => by
    obtain ⟨ρ, δ, S, C, g⟩ := hh
    refine ⟨ρ, δ, S, C, (gBind g).mono fun dd S1 ρ1 H1 s1 R1 g1 x rx => ?_⟩
    cases dd with
    | tup ds =>
      obtain ⟨q, xs, rfl, t, rs⟩ := rx
      exact .inr (.inl ⟨q, rfl, ⟨xs, t.sq⟩, gSrc (src := Src.its ds) g1 R1 (its_tup t rs)⟩)
    | rol ds =>
      obtain ⟨q, xs, rfl, t, rs⟩ := rx
      exact .inl ⟨q, rfl, ⟨xs, t.sq⟩, gSrc (src := Src.its ds) g1 R1 (its_rol t rs)⟩
    | str s =>
      cases rx
      obtain ⟨_, g2⟩ := ifG (show Gd X.K ρ1 H1 NoW ((if s.length ≤ mx then pur (Src.its (s.map fun c => .str [c])) else bad : M Src) S1) (PIt X.K R) from Gd.qu (m := srcD (.str s)) g1 (qu_src _))
      exact .inr (.inr ⟨sV s, rfl, gSrc (src := Src.its (s.map fun c => .str [c])) g2 R1 its_str⟩)
    | ref n =>
      obtain ⟨q, rfl, hn⟩ := rx
      obtain ⟨a2, ds, xs, hS, h1, h2, h3, g2⟩ := gGet R1 (gBind (show Gd X.K ρ1 H1 NoW (bnd (getL n) (fun ds => pur (Src.loc n ds)) S1) (PIt X.K R) from Gd.qu (m := srcD (.ref n)) g1 (qu_src _)))
      rw [hn] at h1
      cases h1
      exact .inl ⟨q, rfl, ⟨xs, SqL.of h2⟩, gSrc (src := Src.loc n ds) g2 R1 (its_loc hn)⟩
    | _ => exact (show False from g1).elim
theorem i_f {f : F} (ha : PE X ea (tF (Rg.of X c cu W) f)) : PI X tg ea (tI (Rg.of X c cu W) (.f f)) :=
  PI.imp (pi_list ha) fun σ H R hh => by
    obtain ⟨ρ, δ, S, C, g⟩ := hh
    have g := Gd.bind0 (show Gd X.K ρ H (Wx (Rg.of X c cu W) σ) ((evF c δ f S).bind fun ds => pur (Src.its ds)) (PIt X.K R) from g)
    refine ⟨ρ, δ, S, C, g.mono fun ds S1 ρ1 H1 s1 R1 g1 q xs _ n hp rs => ?_⟩
    exact ⟨q, rfl, ⟨xs, SqL.of hp⟩, (show Gd X.K ρ H (Wx (Rg.of X c cu W) σ) (.ok (Src.its ds) S1) (PIt X.K R) from g1) ρ1 H1 s1 R1 _ (its_own n hp rs)⟩
theorem star1 {e : Expr} {env : PySem.Env} (h : noStar e = true) : starEach [e] env = [(false, eval e env)] := star_of h
theorem i_rng1 (hg : Gl X "range") (hm : X.mg "range" = none) (ha : PE X ea (tE (Rg.of X c cu W) a)) (hs : noStar ea = true) : PI X tg (.Call (.Name "range" p) [ea] [] pos) (tI (Rg.of X c cu W) (.rng1 a)) :=
  PI.imp (pi_range1 hg hm (pa_cons ha pa_nil (star_of hs)) (star1 hs)) fun σ H R hh => by
    obtain ⟨ρ, δ, S, C, g⟩ := hh
    refine ⟨ρ, δ, S, C, (gBind g).mono fun dd S1 ρ1 H1 s1 R1 g1 x rx => ?_⟩
    cases dd with
    | int i =>
      cases rx
      have g2 : Gd X.K ρ1 H1 (Wx (Rg.of X c cu W) σ) ((if i.toNat ≤ mx ∧ -(2 ^ 62) ≤ i then pur (.its (rangeD 0 i.toNat)) else bad : M Src) S1) (PIt X.K R) := g1
      by_cases hc : i.toNat ≤ mx ∧ -(2 ^ 62) ≤ i
      · rw [if_pos hc] at g2
        have hm : i.toNat ≤ 16777216 := hc.1
        exact ⟨i, rfl, hc.2, by omega, gSrc (src := Src.its (rangeD 0 i.toNat)) g2 R1 its_rng⟩
      · rw [if_neg hc] at g2
        exact (show False from g2).elim
    | _ => exact (show False from g1).elim
theorem i_rng2 (hg : Gl X "range") (hm : X.mg "range" = none) (ha : PE X ea (tE (Rg.of X c cu W) a)) (hb : PE X eb (tE (Rg.of X c cu W) b)) (hs : noStar ea = true) (hs2 : noStar eb = true) : PI X tg (.Call (.Name "range" p) [ea, eb] [] pos) (tI (Rg.of X c cu W) (.rng2 a b)) :=
  PI.imp (pi_range2 hg hm (pa_cons ha (pa_cons hb pa_nil (star_of hs2)) (star_of hs)) (by rw [star_of hs, star1 hs2]) (star1 hs2)) fun σ H R hh => by
    obtain ⟨ρ, δ, S, C, g⟩ := hh
    refine ⟨ρ, δ, S, C, (gBind g).mono fun da S1 ρ1 H1 s1 R1 g1 x rx => ?_⟩
    refine ⟨ρ1, δ, S1, C.mono s1 R1, (gBind g1).mono fun db S2 ρ2 H2 s2 R2 g2 y ry => ?_⟩
    cases da with
    | int i =>
      cases db with
      | int j =>
        cases rx
        cases ry
        have g3 : Gd X.K ρ2 H2 (Wx (Rg.of X c cu W) σ) ((if (j - i).toNat ≤ mx ∧ (-(2 ^ 62) ≤ i ∧ i < 2 ^ 62 ∧ -(2 ^ 62) ≤ j ∧ j < 2 ^ 62) then pur (.its (rangeD i (j - i).toNat)) else bad : M Src) S2) (PIt X.K R) := g2
        by_cases hc : (j - i).toNat ≤ mx ∧ (-(2 ^ 62) ≤ i ∧ i < 2 ^ 62 ∧ -(2 ^ 62) ≤ j ∧ j < 2 ^ 62)
        · rw [if_pos hc] at g3
          exact ⟨i, j, rfl, hc.2, gSrc (src := Src.its (rangeD i (j - i).toNat)) g3 R2 its_rng⟩
        · rw [if_neg hc] at g3
          exact (show False from g3).elim
      | _ => exact (show False from g2).elim
    | _ => exact (show False from g2).elim
variable {elts : List Expr} {kk : Nat} {tpos : Pos}
theorem i_enu (hg : Gl X "enumerate") (hm : X.mg "enumerate" = none) (ha : PE X ea (tE (Rg.of X c cu W) a)) (hs : noStar ea = true) : PI X (.Tuple elts kk tpos) (.Call (.Name "enumerate" p) [ea] [] pos) (tI (Rg.of X c cu W) (.enu a)) :=
  PI.imp (pi_enumT hg hm (pa_cons ha pa_nil (star_of hs)) (star1 hs)) fun σ H R hh => by
    obtain ⟨ρ, δ, S, C, g⟩ := hh
    refine ⟨ρ, δ, S, C, (gBind g).mono fun dd S1 ρ1 H1 s1 R1 g1 x rx => ?_⟩
    cases dd with
    | tup ds =>
      obtain ⟨q, xs, rfl, t, rs⟩ := rx
      exact ⟨q, xs, rfl, t.sq, gSrc (src := Src.its (enumD 0 ds)) g1 R1 (its_enu t rs)⟩
    | _ => exact (show False from g1).elim
theorem i_z2 (hg : Gl X "zip") (hm : X.mg "zip" = none) (ha : PE X ea (tE (Rg.of X c cu W) a)) (hb : PE X eb (tE (Rg.of X c cu W) b)) (hs : noStar ea = true) (hs2 : noStar eb = true) : PI X (.Tuple elts kk tpos) (.Call (.Name "zip" p) [ea, eb] [] pos) (tI (Rg.of X c cu W) (.zip2 a b)) :=
  PI.imp (RZ.pi_zipA hg hm (pa_cons ha (pa_cons hb pa_nil (star_of hs2)) (star_of hs)) (star_of hs) (stars_any (by rw [List.all_cons, hs2]; rfl))) fun σ H R hh => by
    obtain ⟨ρ, δ, S, C, g⟩ := hh
    refine ⟨ρ, δ, S, C, (gBind g).mono fun da S1 ρ1 H1 s1 R1 g1 x rx => ?_⟩
    refine ⟨ρ1, δ, S1, C.mono s1 R1, (gBind g1).mono fun db S2 ρ2 H2 s2 R2 g2 y ry => ?_⟩
    cases da with
    | tup ds =>
      cases db with
      | tup es =>
        obtain ⟨q, xs, rfl, t, rs⟩ := rx
        obtain ⟨q2, ys, rfl, t2, rs2⟩ := ry
        exact ⟨q, q2, xs, ys, rfl, .inr ⟨(t.mono s2).sq, t2.sq, gSrc (src := Src.its (zipD2 ds es)) g2 R2 (its_z2 (t.mono s2) t2 (rs.mono s2) rs2)⟩⟩
      | _ => exact (show False from g2).elim
    | _ => exact (show False from g2).elim
theorem i_z3 (hg : Gl X "zip") (hm : X.mg "zip" = none) (ha : PE X ea (tE (Rg.of X c cu W) a)) (hb : PE X eb (tE (Rg.of X c cu W) b)) (hd : PE X ed (tE (Rg.of X c cu W) d)) (hs : noStar ea = true) (hs2 : noStar eb = true) (hs3 : noStar ed = true) :
    PI X (.Tuple elts kk tpos) (.Call (.Name "zip" p) [ea, eb, ed] [] pos) (tI (Rg.of X c cu W) (.zip3 a b d)) :=
  PI.imp (pi_zip3 hg hm (pa_cons ha (pa_cons hb (pa_cons hd pa_nil (star_of hs3)) (star_of hs2)) (star_of hs)) (star_of hs) (stars_any (by rw [List.all_cons, List.all_cons, hs2, hs3]; rfl))) fun σ H R hh => by
    obtain ⟨ρ, δ, S, C, g⟩ := hh
    refine ⟨ρ, δ, S, C, (gBind g).mono fun da S1 ρ1 H1 s1 R1 g1 x rx => ?_⟩
    have C1 := C.mono s1 R1
    refine ⟨ρ1, δ, S1, C1, (gBind g1).mono fun db S2 ρ2 H2 s2 R2 g2 y ry => ?_⟩
    refine ⟨ρ2, δ, S2, C1.mono s2 R2, (gBind g2).mono fun dc S3 ρ3 H3 s3 R3 g3 z rz => ?_⟩
    cases da with
    | tup ds =>
      cases db with
      | tup es =>
        cases dc with
        | tup fs =>
          obtain ⟨q, xs, rfl, t, rs⟩ := rx
          obtain ⟨q2, ys, rfl, t2, rs2⟩ := ry
          obtain ⟨q3, zs, rfl, t3, rs3⟩ := rz
          have u1 := (t.mono s2).mono s3
          have u2 := t2.mono s3
          exact ⟨q, q2, q3, xs, ys, zs, rfl, ⟨u1.sq, u2.sq, t3.sq⟩, gSrc (src := Src.its (zipD3 ds es fs)) g3 R3 (its_z3 u1 u2 t3 ((rs.mono s2).mono s3) (rs2.mono s3) rs3)⟩
        | _ => exact (show False from g3).elim
      | _ => exact (show False from g3).elim
    | _ => exact (show False from g3).elim
/-! ### comprehensions -/
def tY (G : Rg) : TT := fun σ H Q => ∃ ρ δ S, Cfg G ρ δ S σ H ∧ Q true H
theorem c_nil : PTs X [] (tC1 (Rg.of X c cu W) .nil) := ⟨fun pins s σ H Q I h => pts_nil.run pins s σ H Q I (by
  obtain ⟨ρ, δ, S, C, g⟩ := h
  exact Gd.here (show Gd X.K ρ H _ (.ok true S) _ from g) C.sto)⟩
theorem c_one (h : PT X ea (tT (Rg.of X c cu W) a)) : PTs X [ea] (tC1 (Rg.of X c cu W) (.cons a .nil)) := ⟨fun pins s σ H Q I hh => (pts_one h).run pins s σ H Q I (by
  obtain ⟨ρ, δ, S, C, g⟩ := hh
  refine ⟨ρ, δ, S, C, (gBind g).mono fun k S1 ρ1 H1 s1 R1 g1 => ?_⟩
  cases k with
  | true => exact Gd.here (show Gd X.K ρ1 H1 _ (.ok true S1) _ from g1) R1
  | false => exact Gd.here (show Gd X.K ρ1 H1 _ (.ok false S1) _ from g1) R1)⟩
end
/-! the wiped slots -/
theorem wipeD_get : ∀ (vs : List Nat) (δ : Mi.Env) (i : Nat) (d : D), (Mi.wipe δ vs)[i]? = some (some d) → i ∉ vs ∧ δ[i]? = some (some d)
  | [], δ, i, d, h => ⟨by simp, h⟩
  | v :: vs, δ, i, d, h => by
    obtain ⟨h1, h2⟩ := wipeD_get vs (δ.set v none) i d h
    by_cases q : v = i
    · subst q
      by_cases hl : v < δ.length
      · rw [List.getElem?_set_self hl] at h2; cases h2
      · rw [List.getElem?_eq_none (by simpa using hl)] at h2; cases h2
    · rw [List.getElem?_set_ne q] at h2
      exact ⟨by simp only [List.mem_cons, not_or]; exact ⟨fun e => q e.symm, h1⟩, h2⟩
theorem wipeD_len : ∀ (vs : List Nat) (δ : Mi.Env), (Mi.wipe δ vs).length = δ.length
  | [], _ => rfl
  | v :: vs, δ => by
    show (Mi.wipe (δ.set v none) vs).length = _
    rw [wipeD_len vs, List.length_set]
theorem wipe_at (σ : L2.St) (i : Nat) : ∀ vs : List Nat, (L2.wipe σ vs)[i]? = if i ∈ vs then (σ[i]?).map fun _ => none else σ[i]?
  | [] => by simp [L2.wipe]
  | v :: vs => by
    unfold L2.wipe
    by_cases q : v = i
    · subst q
      rw [if_pos List.mem_cons_self]
      by_cases hl : v < σ.length
      · rw [List.getElem?_set_self (by rw [L2.wipe_length]; exact hl), List.getElem?_eq_getElem hl]
        rfl
      · rw [List.getElem?_eq_none (by rw [List.length_set, L2.wipe_length]; omega), List.getElem?_eq_none (by omega)]
        rfl
    · rw [List.getElem?_set_ne q, wipe_at σ i vs]
      have : (i ∈ v :: vs) ↔ i ∈ vs := by
        rw [List.mem_cons]
        exact ⟨fun h => h.resolve_left fun e => q e.symm, fun h => .inr h⟩
      by_cases m : i ∈ vs
      · rw [if_pos m, if_pos (this.mpr m)]
      · rw [if_neg m, if_neg fun z => m (this.mp z)]
theorem wipe_agr {l vs : List Nat} {σ σ' : L2.St} (h : ∀ i ∈ l, i ∈ vs) (a : Agr l (L2.wipe σ vs) σ') : L2.wipe σ' vs = L2.wipe σ vs := by
  refine List.ext_getElem? fun i => ?_
  rw [wipe_at, wipe_at]
  have hl : σ'.length = σ.length := by rw [a.1, L2.wipe_length]
  by_cases m : i ∈ vs
  · rw [if_pos m, if_pos m]
    by_cases q : i < σ.length
    · rw [List.getElem?_eq_getElem q, List.getElem?_eq_getElem (by rw [hl]; exact q)]
      rfl
    · rw [List.getElem?_eq_none (by omega), List.getElem?_eq_none (by omega)]
  · rw [if_neg m, if_neg m, a.2 i fun z => m (h i z), wipe_at, if_neg m]
theorem Cfg.wipe {G G' : Rg} {ρ : List Addr} {δ : Mi.Env} {S : Store} {σ : L2.St} {H : Hp} (C : Cfg G ρ δ S σ H) (hK : G'.K = G.K) (hc : G'.c.cur = none) (vs : List Nat) : Cfg G' ρ (Mi.wipe δ vs) S (L2.wipe σ vs) H := by
  obtain ⟨K', mg', c', cu', W'⟩ := G'
  cases hK
  refine ⟨C.sto, by rw [wipeD_len, L2.wipe_length, C.len], fun i d h => ?_, fun i x h => ?_⟩
  · obtain ⟨h1, h2⟩ := wipeD_get vs δ i d h
    obtain ⟨v, h3, h4⟩ := C.env i d h2
    exact ⟨v, by rw [wipe_at, if_neg h1]; exact h3, h4⟩
  · rw [show c'.cur = none from hc] at h
    cases h
/-! a list of our own changes -/
section
variable {K : Fg} {ρ ρ' : List Addr} {H H' : Hp} {p : Addr} {ys zs : List V} {S : Store}
theorem tp_priv {q : Addr} {xs : List V} (hp : H p = some (.lst ys)) (h : Tp K ρ H q xs) : Tp K ρ (upd H p (.lst zs)) q xs := by
  have ne : ∀ o, H q = some o → o ≠ .lst ys → q ≠ p := fun o e n z => by
    subst z
    rw [hp] at e
    exact n (Option.some.inj e).symm
  rcases h with ⟨n, h | ⟨o, h⟩⟩ | h
  · exact .inl ⟨n, .inl (by rw [upd_ne (ne _ h fun z => by cases z)]; exact h)⟩
  · exact .inl ⟨n, .inr ⟨o, by rw [upd_ne (ne _ h fun z => by cases z)]; exact h⟩⟩
  · exact .inr h
theorem rl_priv {q : Addr} {xs : List V} (hp : H p = some (.lst ys)) (h : Rl K ρ H q xs) : Rl K ρ (upd H p (.lst zs)) q xs := by
  have ne : ∀ o, H q = some o → o ≠ .lst ys → q ≠ p := fun o e n z => by
    subst z
    rw [hp] at e
    exact n (Option.some.inj e).symm
  rcases h with ⟨n, o, h⟩ | h
  · exact .inl ⟨n, o, by rw [upd_ne (ne _ h fun z => by cases z)]; exact h⟩
  · exact .inr h
mutual
theorem rv_priv (hp : H p = some (.lst ys)) : ∀ {d : D} {v : V}, Rv K ρ H d v → Rv K ρ (upd H p (.lst zs)) d v
  | .non, _, h => h
  | .bl _, _, h => h
  | .int _, _, h => h
  | .str _, _, h => h
  | .tup ds, _, h => by
    obtain ⟨a, xs, e, t, r⟩ := h
    exact ⟨a, xs, e, tp_priv hp t, rvs_priv hp (ds := ds) r⟩
  | .ref n, _, h => h
  | .rol ds, _, h => by
    obtain ⟨a, xs, e, t, r⟩ := h
    exact ⟨a, xs, e, rl_priv hp t, rvs_priv hp (ds := ds) r⟩
theorem rvs_priv (hp : H p = some (.lst ys)) : ∀ {ds : List D} {vs : List V}, Rvs K ρ H ds vs → Rvs K ρ (upd H p (.lst zs)) ds vs
  | [], _, h => h
  | d :: ds, _, h => by
    obtain ⟨x, xs, e, r, t⟩ := h
    exact ⟨x, xs, e, rv_priv hp (d := d) r, rvs_priv hp (ds := ds) t⟩
end
theorem rkv_priv (hp : H p = some (.lst ys)) : ∀ {ps : List (Kk × D)} {vs : List (Key × V)}, Rkv K ρ H ps vs → Rkv K ρ (upd H p (.lst zs)) ps vs
  | [], _, h => h
  | q :: ps, _, h => by
    obtain ⟨x, xs, e, r, t⟩ := h
    exact ⟨x, xs, e, rv_priv hp r, rkv_priv hp t⟩
theorem sto_priv (R : Sto K ρ S H) (n : p ∉ ρ) (hp : H p = some (.lst ys)) : Sto K ρ S (upd H p (.lst zs)) := by
  refine ⟨R.len, R.nd, fun m w e => ?_⟩
  obtain ⟨b, hb, q⟩ := R.at_ m w e
  have hbp : b ≠ p := fun z => n (by rw [← z]; exact List.mem_of_getElem? hb)
  refine ⟨b, hb, ?_⟩
  cases w with
  | lst es => obtain ⟨ws, h1, h2⟩ := q; exact ⟨ws, by rw [upd_ne hbp]; exact h1, rvs_priv hp h2⟩
  | dic es => obtain ⟨ws, h1, h2⟩ := q; exact ⟨ws, by rw [upd_ne hbp]; exact h1, rkv_priv hp h2⟩
theorem stp_priv {o : HO} (s : Stp ρ H ρ' H') (h0 : H p = none) : Stp ρ H ρ' (upd H' p o) := ⟨s.1, fun a u e n => by
  obtain ⟨h1, h2⟩ := s.2 a u e n
  refine ⟨?_, h2⟩
  rw [upd_ne (ne_of_none e h0)]
  exact h1⟩
end
end Mi

set_option Elab.async false
set_option linter.all false
set_option maxRecDepth 100000
set_option maxHeartbeats 4000000
/-! Mi, 13: comprehensions; fields of a caught exception. -/
namespace Mi
open PySem PySem.Spec PyProof.Rows L2
abbrev noW : WX := fun _ _ _ _ => False
/-- one turn's function -/
def lcF (c : Ctx) (δ : Mi.Env) (own : List Nat) (elt : E) (tg : Tg) (ifs : Es) : D → M (Option D) := fun d => noX (match putT tg d (Mi.wipe δ own) with
    | some δ' => bnd (evC c δ' ifs) fun t => if t then bnd (evE c δ' elt) fun x => pur (some x) else pur none
    | none => bad)
/-- the last step of a comprehension: ds behind what there is -/
def PF (ρ0 : List Addr) (K : Fg) (H0 : Hp) (Q : VK) (pre : List D) : List D → Store → List Addr → Hp → Prop := fun ds _ ρ' H' => ∀ p xs, H0 p = none → p ∉ ρ' → H' p = some (.lst xs) → Rvs K ρ' H' (pre ++ ds) xs → Q (.ref p) H'
theorem noX_of {α : Type} (m : M α) (S : Store) : noX m S = (match m S with | .ok a S' => Mi.R.ok a S' | _ => .bad) := rfl
theorem bnd_ok {α β : Type} {m : M α} {k : α → M β} {S S1 : Store} {a : α} (e : m S = .ok a S1) : bnd m k S = k a S1 := by
  unfold bnd
  rw [e]
  rfl
section
variable {X : Cx} {c : Ctx} {cu : Option (Addr × Value × Option Addr)} {W : WX}
theorem lc_of {G G' : Rg} (hK : G'.K = G.K) (hC : G'.c = G.c) (hcur : G.c.cur = none) {own : List Nat} {elt : E} {tg : Tg} {it : It} {ifs : Es} (hsub : ∀ i ∈ tg.sl, i ∈ own) {σ : L2.St} {H : Hp} {Q : VK} (h : tF G (.lc own elt tg it ifs) σ H Q) :
    tLc (tI G it) (tG G' tg) (tC1 G' ifs) (tE G' elt) own σ H Q := by
  obtain ⟨K, mg, c, cu, W⟩ := G
  obtain ⟨K', mg', c', cu', W'⟩ := G'
  cases hK
  cases hC
  obtain ⟨ρ, δ, S, C, g⟩ := h
  have g := Gd.bind0 (show Gd K ρ H (Wx ⟨K, mg, c, cu, W⟩ σ) ((evI c δ it S).bind fun src => if src.items.length ≤ mx then lcL src (lcF c δ own elt tg ifs) src.items else bad) (PF ρ K H Q []) from g)
  refine ⟨ρ, δ, S, C, g.mono fun src S1 ρ1 H1 s1 R1 g1 J hJ D0 hD => ?_⟩
  have C1 := C.mono s1 R1
  by_cases hlen : src.items.length ≤ mx
  · rw [if_pos hlen] at g1
    have hD0 : H D0 = none := Stp.none s1 R1 hD
    refine ⟨fun i m Hx => m = src.items.length - i ∧ i ≤ src.items.length ∧ ∃ ρx Sx acc accD, Stp ρ1 H1 ρx Hx ∧ Sto K ρx Sx Hx ∧ D0 ∉ ρx ∧ Hx D0 = some (.lst acc) ∧ Rvs K ρx Hx accD acc ∧ acc.length ≤ i ∧
        Gd K ρ H (Wx ⟨K, mg, c, cu, W⟩ σ) (lcL src (lcF c δ own elt tg ifs) (src.items.drop i) Sx) (PF ρ K H Q accD),
      ⟨_, rfl, Nat.zero_le _, ρ1, S1, [], [], Stp.new hD, R1.new hD, R1.fresh hD, upd_same, rfl, Nat.le_refl _, g1⟩, ?_⟩
    rintro i m Hx ⟨rfl, hi, ρx, Sx, acc, accD, sx, Rx, nD, hacc, racc, lacc, gx⟩
    rcases Nat.lt_or_ge i src.items.length with hlt | hge
    · have hdrop : src.items.drop i = src.items[i] :: src.items.drop (i + 1) := List.drop_eq_getElem_cons hlt
      rw [hdrop] at gx
      have gx : Gd K ρ H (Wx ⟨K, mg, c, cu, W⟩ σ) (if src.ok Sx then ((lcF c δ own elt tg ifs src.items[i] Sx).bind fun o => bnd (lcL src (lcF c δ own elt tg ifs) (src.items.drop (i + 1))) fun ds => pur (match o with
        | some x => x :: ds
        | none => ds)) else .bad) (PF ρ K H Q accD) := gx
      by_cases hok : src.ok Sx = true
      · rw [if_pos hok] at gx
        obtain ⟨_, hgo⟩ := hJ ρx Hx Sx sx Rx hok
        obtain ⟨go, hyld⟩ := hgo i src.items[i] (List.getElem?_eq_getElem hlt)
        refine .inr ⟨go, fun H' => ∃ ρx Sx acc accD, Stp ρ1 H1 ρx H' ∧ Sto K ρx Sx H' ∧ D0 ∉ ρx ∧ H' D0 = some (.lst acc) ∧ Rvs K ρx H' accD acc ∧ acc.length ≤ i + 1 ∧
          Gd K ρ H (Wx ⟨K, mg, c, cu, W⟩ σ) (lcL src (lcF c δ own elt tg ifs) (src.items.drop (i + 1)) Sx) (PF ρ K H Q accD), fun H' hN => ⟨src.items.length - (i + 1), by omega, rfl, hlt, hN⟩, fun x H' hy => ?_⟩
        obtain ⟨sy, Ry, rx⟩ := hyld x H' hy
        have sxy := sx.trans sy
        have hacc' : H' D0 = some (.lst acc) := (sy.2 D0 _ hacc nD).1
        have Cy : Cfg ⟨K, mg', c, cu', W'⟩ ρx (Mi.wipe δ own) Sx (L2.wipe σ own) H' := (C1.mono sxy Ry).wipe (G' := ⟨K, mg', c, cu', W'⟩) rfl hcur own
        cases hput : putT tg src.items[i] (Mi.wipe δ own) with
        | none =>
          have e : lcF c δ own elt tg ifs src.items[i] Sx = .bad := by
            unfold lcF noX
            rw [hput]
            rfl
          rw [e] at gx
          exact (show False from gx).elim
        | some δ' =>
          have e : lcF c δ own elt tg ifs src.items[i] Sx = noX (bnd (evC c δ' ifs) fun t => if t then bnd (evE c δ' elt) fun x => pur (some x) else pur none) Sx := by
            unfold lcF
            rw [hput]
          rw [e] at gx
          refine ⟨ρx, _, Sx, src.items[i], δ', Cy, rx, hput, fun σ2 C2 A2 => ⟨wipe_agr hsub A2, ρx, δ', Sx, C2, ?_⟩⟩
          show Gd K ρx H' _ (evC c δ' ifs Sx) _
          cases e1 : evC c δ' ifs Sx with
          | exn y S2 =>
            have : noX (bnd (evC c δ' ifs) fun t => if t then bnd (evE c δ' elt) fun x => pur (some x) else pur none) Sx = .bad := by
              unfold noX bnd
              rw [e1]
              rfl
            rw [this] at gx
            exact (show False from gx).elim
          | bad =>
            have : noX (bnd (evC c δ' ifs) fun t => if t then bnd (evE c δ' elt) fun x => pur (some x) else pur none) Sx = .bad := by
              unfold noX bnd
              rw [e1]
              rfl
            rw [this] at gx
            exact (show False from gx).elim
          | ok t S2 =>
            intro ρ2 H2 s2 R2
            have n2 : D0 ∉ ρ2 := (s2.2 D0 _ hacc' nD).2
            have hacc2 : H2 D0 = some (.lst acc) := (s2.2 D0 _ hacc' nD).1
            cases t with
            | false =>
              have : noX (bnd (evC c δ' ifs) fun t => if t then bnd (evE c δ' elt) fun x => pur (some x) else pur none) Sx = .ok none S2 := by
                unfold noX bnd
                rw [e1]
                rfl
              rw [this] at gx
              have gx := Gd.bind0 (show Gd K ρ H (Wx ⟨K, mg, c, cu, W⟩ σ) ((lcL src (lcF c δ own elt tg ifs) (src.items.drop (i + 1)) S2).bind fun ds => pur ds) (PF ρ K H Q accD) from gx)
              show ∃ ρx Sx acc accD, _
              refine ⟨ρ2, S2, acc, accD, sxy.trans s2, R2, n2, hacc2, (racc.mono sy).mono s2, by omega, gx.mono fun ds S' ρ' H'' s' R' k => ?_⟩
              exact (show Gd K ρ H _ (.ok ds S') (PF ρ K H Q accD) from k) ρ' H'' s' R'
            | true =>
              refine ⟨ρ2, δ', S2, C2.mono s2 R2, ?_⟩
              show Gd K ρ2 H2 _ (evE c δ' elt S2) _
              cases e2 : evE c δ' elt S2 with
              | exn y S3 =>
                have : noX (bnd (evC c δ' ifs) fun t => if t then bnd (evE c δ' elt) fun x => pur (some x) else pur none) Sx = .bad := by
                  rw [noX_of, bnd_ok e1, if_pos rfl]
                  unfold bnd
                  rw [e2]
                  rfl
                rw [this] at gx
                exact (show False from gx).elim
              | bad =>
                have : noX (bnd (evC c δ' ifs) fun t => if t then bnd (evE c δ' elt) fun x => pur (some x) else pur none) Sx = .bad := by
                  rw [noX_of, bnd_ok e1, if_pos rfl]
                  unfold bnd
                  rw [e2]
                  rfl
                rw [this] at gx
                exact (show False from gx).elim
              | ok y S3 =>
                have : noX (bnd (evC c δ' ifs) fun t => if t then bnd (evE c δ' elt) fun x => pur (some x) else pur none) Sx = .ok (some y) S3 := by
                  rw [noX_of, bnd_ok e1, if_pos rfl]
                  unfold bnd
                  rw [e2]
                  rfl
                rw [this] at gx
                have gx := Gd.bind0 (show Gd K ρ H (Wx ⟨K, mg, c, cu, W⟩ σ) ((lcL src (lcF c δ own elt tg ifs) (src.items.drop (i + 1)) S3).bind fun ds => pur (y :: ds)) (PF ρ K H Q accD) from gx)
                intro ρ3 H3 s3 R3 v rv
                have n3 : D0 ∉ ρ3 := (s3.2 D0 _ hacc2 n2).2
                have hacc3 : H3 D0 = some (.lst acc) := (s3.2 D0 _ hacc2 n2).1
                have hz : acc.length < sizeLine := by
                  rw [sizeLine_eq]
                  have : src.items.length ≤ 16777216 := hlen
                  omega
                refine ⟨acc, hacc3, hz, ρ3, S3, acc ++ [v], accD ++ [y], stp_priv ((sxy.trans s2).trans s3) hD, sto_priv R3 n3 hacc3, n3, upd_same, ?_, by rw [List.length_append, List.length_singleton]; omega, gx.mono fun ds S' ρ' H'' s' R' k => ?_⟩
                · exact Rvs.app (rvs_priv hacc3 (((racc.mono sy).mono s2).mono s3)) (Rvs.one (rv_priv hacc3 rv))
                · have q := (show Gd K ρ H _ (.ok (y :: ds) S') (PF ρ K H Q accD) from k) ρ' H'' s' R'
                  intro p xs h1 h2 h3 h4
                  refine q p xs h1 h2 h3 ?_
                  rw [List.append_assoc] at h4
                  exact h4
      · rw [if_neg hok] at gx
        exact (show False from gx).elim
    · have hdrop : src.items.drop i = [] := List.drop_eq_nil_of_le hge
      rw [hdrop] at gx
      have gx : Gd K ρ H (Wx ⟨K, mg, c, cu, W⟩ σ) (if src.ok Sx then .ok [] Sx else .bad) (PF ρ K H Q accD) := gx
      by_cases hok : src.ok Sx = true
      · rw [if_pos hok] at gx
        obtain ⟨hstop, _⟩ := hJ ρx Hx Sx sx Rx hok
        have hi2 : i = src.items.length := by omega
        rw [← hi2] at hstop
        refine .inl ⟨hstop, ?_⟩
        exact (show Gd K ρ H _ (.ok [] Sx) (PF ρ K H Q accD) from gx) ρx Hx (s1.trans sx) Rx D0 acc hD0 nD hacc (by rw [List.append_nil]; exact racc)
      · rw [if_neg hok] at gx
        exact (show False from gx).elim
  · rw [if_neg hlen] at g1
    exact (show False from g1).elim
variable {ea tg ei : Expr} {ifs : List Expr} {pos : Pos} {scope : Scope} {elt : E} {t : Tg} {it : It} {cs : Es} {own : List (Str × Nat)}
/-- [elt for tg in it if ..] -/
theorem f_lc (hc : X.calm = true) (hcur : c.cur = none) (hN : X.N.Nodup) (hi : PI X tg ei (tI (Rg.of X c cu W) it)) (ok : BlkOk X.N X.env.scope scope own) (hsub : ∀ i ∈ t.sl, i ∈ own.map (·.2))
    (hg : ∀ (s : Shared) (H : Hp) (C : Addr) (cl : List (Str × Addr)) (fp : List Addr), PG (X.blk s H scope (compEnvC scope cl C X.env) fp) tg (tG (Rg.of X c cu noW) t))
    (ht : ∀ (s : Shared) (H : Hp) (C : Addr) (cl : List (Str × Addr)) (fp : List Addr), PTs (X.blk s H scope (compEnvC scope cl C X.env) fp) ifs (tC1 (Rg.of X c cu noW) cs))
    (he : ∀ (s : Shared) (H : Hp) (C : Addr) (cl : List (Str × Addr)) (fp : List Addr), PE (X.blk s H scope (compEnvC scope cl C X.env) fp) ea (tE (Rg.of X c cu noW) elt)) (hs : noSet ei = true) :
    PE X (.ListComp ea [⟨tg, ei, ifs, 0⟩] scope pos) (tF (Rg.of X c cu W) (.lc (own.map (·.2)) elt t it cs)) :=
  PE.imp (pe_lc hc hN hi ok hg ht he (fold_of hs)) fun σ H Q h => lc_of (G := Rg.of X c cu W) (G' := Rg.of X c cu noW) rfl rfl hcur hsub h
/-! ### the exception in hand -/
theorem e_err {X0 : Cx} {i : Nat} {f : String} {n : Str} {y : Str} {q : Pos} {a : Addr} {oe : Obj} {cls : Value} {dd : Option Addr} {pn : List (Addr × Obj)} (hX : X = X0.suite a ((a, oe) :: pn)) (hz : Zc cls dd oe) (hf : ∃ vs, oe.data = .fields vs) (hcu : cu = some (a, cls, dd))
    (hn : n = Str.ofString f) (hN : X.N[i]? = some y) (hv : Vis X.env.scope y) (hd : (y == ("__debug__" : Str)) = false) (hcd : (y == ("__classdict__" : Str)) = false) : PE X (.Attribute (.Name y q) n pos) (tE (Rg.of X c cu W) (.errA i f)) := by
  subst hX hn hcu
  refine ⟨fun pins s σ H Q I h => ?_⟩
  obtain ⟨ρ, δ, S, C, g⟩ := h
  have g : Gd X0.K ρ H _ ((match c.cur with
      | some (j, x) => if i = j then opt (x.fs.lookup f) else bad
      | none => bad : M D) S) (Vq X0.K Q) := g
  cases hc : c.cur with
  | none => rw [hc] at g; exact (show False from g).elim
  | some jx =>
    obtain ⟨j, x⟩ := jx
    rw [hc] at g
    have g2 : Gd X0.K ρ H (Wx (Rg.of (X0.suite a ((a, oe) :: pn)) c (some (a, cls, dd)) W) σ) ((if i = j then opt (x.fs.lookup f) else bad : M D) S) (Vq X0.K Q) := g
    clear g
    by_cases hij : i = j
    · rw [if_pos hij] at g2
      subst hij
      cases e : x.fs.lookup f with
      | none => rw [e] at g2; exact (show False from g2).elim
      | some d =>
        rw [e] at g2
        obtain ⟨a', cls', dd', h1, h2, C0, h3, h4, T, d0, fs, h5, h6, h7, h8⟩ := C.cur i x hc
        cases h1
        obtain ⟨k0, v, k1, k2⟩ := h8 f d e
        refine (pe_xf (cls := cls) (d := dd) (n := Str.ofString f) (pos := pos) T k0 hz hf (pe_var (pos := q) hN hv hd hcd)).run pins s σ H Q I ?_
        exact ⟨.ref a, h2, rfl, h3, d0, fs, v, h5, h6, k1, (show Gd X0.K ρ H _ (.ok d S) (Vq X0.K Q) from g2) ρ H Stp.refl C.sto v k2⟩
    · rw [if_neg hij] at g2
      exact (show False from g2).elim
end
end Mi

set_option Elab.async false
set_option linter.all false
set_option maxRecDepth 100000
set_option maxHeartbeats 4000000
/-! Mi, 14: statements. -/
namespace Mi
open PySem PySem.Spec PyProof.Rows L2
/-- what is wanted of a statement's end -/
def Gs (G : Rg) (ρ : List Addr) (H : Hp) (D : Ends) : SR → Prop
  | .nx δ' S' => ∀ ρ' H' σ', Stp ρ H ρ' H' → Cfg G ρ' δ' S' σ' H' → D.nx σ' H'
  | .brk δ' S' => ∀ ρ' H' σ', Stp ρ H ρ' H' → Cfg G ρ' δ' S' σ' H' → D.bk σ' H'
  | .cont δ' S' => ∀ ρ' H' σ', Stp ρ H ρ' H' → Cfg G ρ' δ' S' σ' H' → D.ct σ' H'
  | .ret d S' => ∀ ρ' H' v, Stp ρ H ρ' H' → Sto G.K ρ' S' H' → Rv G.K ρ' H' d v → D.rt v H'
  | .exn x δ' S' => ∀ ρ' H' σ' cls dd, Stp ρ H ρ' H' → Cfg G ρ' δ' S' σ' H' → ExnR G.K G.mg ρ' H' x cls dd → G.W cls dd σ' H'
  | .bad => False
def tS (G : Rg) (s : St) : TS := fun D σ H => ∃ ρ δ S, Cfg G ρ δ S σ H ∧ Gs G ρ H D (evS G.c s δ S)
def tSs (G : Rg) (ss : Ss) : TS := fun D σ H => ∃ ρ δ S, Cfg G ρ δ S σ H ∧ Gs G ρ H D (evSs G.c ss δ S)
section
variable {G : Rg} {ρ ρ' : List Addr} {H H' : Hp} {D D' : Ends} {δ : Mi.Env} {S : Store} {σ : L2.St}
theorem Gs.step {r : SR} (s : Stp ρ H ρ' H') (g : Gs G ρ H D r) : Gs G ρ' H' D r := by
  cases r with
  | nx δ' S' => exact fun ρ2 H2 σ2 t => g ρ2 H2 σ2 (s.trans t)
  | brk δ' S' => exact fun ρ2 H2 σ2 t => g ρ2 H2 σ2 (s.trans t)
  | cont δ' S' => exact fun ρ2 H2 σ2 t => g ρ2 H2 σ2 (s.trans t)
  | ret d S' => exact fun ρ2 H2 v t => g ρ2 H2 v (s.trans t)
  | exn x δ' S' => exact fun ρ2 H2 σ2 cls dd t => g ρ2 H2 σ2 cls dd (s.trans t)
  | bad => exact g
theorem Gs.lift {α : Type} {r : Mi.R α} {k : α → Store → SR} (C : Cfg G ρ δ S σ H) (g : Gs G ρ H D (lift δ r k)) : Gd G.K ρ H (Wx G σ) r fun a S' ρ' H' => Gs G ρ' H' D (k a S') := by
  cases r with
  | ok a S' => exact fun ρ' H' s R => Gs.step (r := k a S') s g
  | exn x S' => exact fun ρ' H' s R cls dd e => g ρ' H' σ cls dd s (C.mono s R) e
  | bad => exact g
end
section
variable {X : Cx} {c : Ctx} {cu : Option (Addr × Value × Option Addr)} {W : WX} {a b d : E} {ea eb ed : Expr} {pos p p2 : Pos} {x : Str} {es : Es} {exs : List Expr}
theorem PS.imp {st : Stmt} {t t' : TS} (h : PS X st t) (k : ∀ D σ H, t' D σ H → t D σ H) : PS X st t' := ⟨fun pins s σ H D I q => h.run pins s σ H D I (k D σ H q)⟩
theorem PSs.imp {st : List Stmt} {t t' : TS} (h : PSs X st t) (k : ∀ D σ H, t' D σ H → t D σ H) : PSs X st t' := ⟨fun pins s σ H D I q => h.run pins s σ H D I (k D σ H q)⟩
theorem ss_nil : PSs X [] (tSs (Rg.of X c cu W) .nil) := PSs.imp pss_nil fun D σ H h => by
  obtain ⟨ρ, δ, S, C, g⟩ := h
  exact g ρ H σ Stp.refl C
theorem ss_cons {st : Stmt} {sts : List Stmt} {s : St} {ss : Ss} (h1 : PS X st (tS (Rg.of X c cu W) s)) (h2 : PSs X sts (tSs (Rg.of X c cu W) ss)) : PSs X (st :: sts) (tSs (Rg.of X c cu W) (.cons s ss)) :=
  PSs.imp (pss_cons h1 h2) fun D σ H h => by
    obtain ⟨ρ, δ, S, C, g⟩ := h
    refine ⟨ρ, δ, S, C, ?_⟩
    have g : Gs (Rg.of X c cu W) ρ H D (match evS c s δ S with
      | .nx δ' S' => evSs c ss δ' S'
      | .cont δ' S' => .cont δ' S'
      | .brk δ' S' => .brk δ' S'
      | .ret d S' => .ret d S'
      | .exn x δ' S' => .exn x δ' S'
      | .bad => .bad) := g
    show Gs (Rg.of X c cu W) ρ H _ (evS c s δ S)
    cases e : evS c s δ S with
    | nx δ' S' =>
      rw [e] at g
      exact fun ρ' H' σ' st C' => ⟨ρ', δ', S', C', Gs.step (r := evSs c ss δ' S') st g⟩
    | cont δ' S' => rw [e] at g; exact g
    | brk δ' S' => rw [e] at g; exact g
    | ret d S' => rw [e] at g; exact g
    | exn x δ' S' => rw [e] at g; exact g
    | bad => rw [e] at g; exact g
/-! ### simple statements -/
def noComp : Expr → Bool
  | .ListComp .. => false
  | .SetComp .. => false
  | .DictComp .. => false
  | _ => true
def noTup : Expr → Bool
  | .Tuple .. => false
  | .List .. => false
  | _ => true
def noSlice : Expr → Bool
  | .Slice .. => false
  | _ => true
theorem store_at {o i : Expr} {p : Pos} {env : PySem.Env} (h : noSlice i = true) (v : Value) : assign (.Subscript o i p) env v = (do
      let ov ← holding [v] (eval o env)
      let iv ← holding [v, ov] (eval i env)
      standAt p
      holding [v, ov, iv] (PySem.setItem ov iv v)
      release [v, ov, iv] []) := by
  cases i <;> first | rfl | exact absurd h Bool.false_ne_true
theorem swap_of {e : Expr} {t : Option Expr} {l : Nat} {env : PySem.Env} (h : noComp e = true) : swapsWith e t l env = pure false := by
  cases e <;> first | rfl | exact absurd h Bool.false_ne_true
theorem swap2_of {tg e : Expr} {env : PySem.Env} (h : (noTup tg || noTup e) = true) : swappedStores [tg] e env = pure none := by
  cases tg <;> first | rfl | (cases e <;> first | rfl | exact absurd h Bool.false_ne_true)
theorem asn_of {tg : Expr} {env : PySem.Env} (h : noStar tg = true) : (assignEach [tg] env).map (·.2) = [assign tg env] := by
  cases tg <;> first | rfl | exact absurd h Bool.false_ne_true
theorem asg_of {t : Tg} {σ : L2.St} {H : Hp} {D : Ends} (h : tS (Rg.of X c cu W) (.asg t a) D σ H) : tAsg (tE (Rg.of X c cu W) a) (tG (Rg.of X c cu W) t) D σ H := by
  obtain ⟨ρ, δ, S, C, g⟩ := h
  refine ⟨ρ, δ, S, C, (Gs.lift C g).mono fun dd S1 ρ1 H1 s1 R1 g1 v rv => ?_⟩
  have C1 := C.mono s1 R1
  cases e : putT t dd δ with
  | none =>
    have g1 : Gs (Rg.of X c cu W) ρ1 H1 D (match putT t dd δ with
      | some δ' => SR.nx δ' S1
      | none => .bad) := g1
    rw [e] at g1
    exact (show False from g1).elim
  | some δ' =>
    have g1 : Gs (Rg.of X c cu W) ρ1 H1 D (match putT t dd δ with
      | some δ' => SR.nx δ' S1
      | none => .bad) := g1
    rw [e] at g1
    exact ⟨ρ1, δ, S1, dd, δ', C1, rv, e, fun σ' C' _ => g1 ρ1 H1 σ' Stp.refl C'⟩
theorem s_asg {tg : Expr} {t : Tg} (ha : PE X ea (tE (Rg.of X c cu W) a)) (hg : PG X tg (tG (Rg.of X c cu W) t)) (h1 : noComp ea = true) (h2 : (noTup tg || noTup ea) = true) (h3 : noStar tg = true) : PS X (.Assign [tg] ea pos) (tS (Rg.of X c cu W) (.asg t a)) :=
  PS.imp (ps_asg ha hg (swap_of h1) (swap2_of h2) (asn_of h3)) fun D σ H h => asg_of h
theorem s_asgN {y : Str} {i : Nat} {py : Pos} (hN : X.N.Nodup) (hi : X.N[i]? = some y) (hx : Loc X.env.scope y) (ha : PE X ea (tE (Rg.of X c cu W) a)) (hs : swapsWith ea (some (.Name y py)) pos.line X.env = pure false) (hf : X.fn y = true ∨ X.env.scope.names.lookup y = some .local) (hc : ∀ j y, c.cur = some (j, y) → j ≠ i) :
    PS X (.Assign [.Name y py] ea pos) (tS (Rg.of X c cu W) (.asg (.nm i) a)) :=
  PS.imp (ps_set hN hi hx ha hs hf) fun D σ H h => by
    obtain ⟨ρ, δ, S, C, g⟩ := h
    refine ⟨ρ, δ, S, C, (Gs.lift C g).mono fun dd S1 ρ1 H1 s1 R1 g1 v rv => ?_⟩
    exact (show Gs (Rg.of X c cu W) ρ1 H1 D (.nx (δ.set i (some dd)) S1) from g1) ρ1 H1 _ Stp.refl ((C.mono s1 R1).set rv hc)
theorem s_sub (hu : X.A.units + 1 < cLine) (ho : PE X eb (tE (Rg.of X c cu W) b)) (hi : PE X ed (tE (Rg.of X c cu W) d)) (ha : PE X ea (tE (Rg.of X c cu W) a)) (h1 : noComp ea = true) (h2 : noSlice ed = true) : PS X (.Assign [.Subscript eb ed p] ea pos) (tS (Rg.of X c cu W) (.sub b d a)) :=
  PS.imp (ps_asg ha (pg_sub ho hi (set_any hu) (store_at h2)) (show swapsWithSole [.Subscript eb ed p] ea pos.line X.env = pure false from swap_of (t := some (.Subscript eb ed p)) (l := pos.line) (env := X.env) h1) (swap2_of rfl) rfl) fun D σ H h => by
    obtain ⟨ρ, δ, S, C, g⟩ := h
    refine ⟨ρ, δ, S, C, (Gs.lift C g).mono fun da S1 ρ1 H1 s1 R1 g1 v rv => ?_⟩
    have C1 := C.mono s1 R1
    refine ⟨ρ1, δ, S1, C1, (Gs.lift C1 g1).mono fun db S2 ρ2 H2 s2 R2 g2 o ro => ?_⟩
    have C2 := C1.mono s2 R2
    refine ⟨ρ2, δ, S2, C2, (Gs.lift C2 g2).mono fun di S3 ρ3 H3 s3 R3 g3 i ri => ?_⟩
    have C3 := C2.mono s3 R3
    refine ⟨ρ3, S3, db, di, da, R3, ro.mono s3, ri, (rv.mono s2).mono s3, ?_⟩
    refine ((Gs.lift C3 g3).qu (qu_set db di da)).mono fun _ S4 ρ4 H4 s4 R4 g4 => ?_
    exact (show Gs (Rg.of X c cu W) ρ4 H4 D (.nx δ S4) from g4) ρ4 H4 σ Stp.refl (C3.mono s4 R4)
theorem s_aug {o : Op} {op : Operator} {i : Nat} {f : Int → Int → Int} (hop : PIp X op (ipI f)) (hf' : ∀ x y : Int, augD o (.int x) (.int y) = pur (.int (f x y))) (hN : X.N.Nodup) (hi : X.N[i]? = some x) (hx : Loc X.env.scope x) (ha : PE X ea (tE (Rg.of X c cu W) a)) (hf : X.fn x = true ∨ X.env.scope.names.lookup x = some .local) (hc : ∀ j y, c.cur = some (j, y) → j ≠ i) :
    PS X (.AugAssign (.Name x p) op ea pos) (tS (Rg.of X c cu W) (.aug i o a)) :=
  PS.imp (ps_aug hN hi hx ha hop hf) fun D σ H h => by
    obtain ⟨ρ, δ, S, C, g⟩ := h
    have g : Gs (Rg.of X c cu W) ρ H D (match δ[i]? with
      | some (some x) => lift δ (evE c δ a S) fun y S => lift δ (augD o x y S) fun z S => .nx (δ.set i (some z)) S
      | _ => .bad) := g
    cases e : δ[i]? with
    | none => rw [e] at g; exact (show False from g).elim
    | some od =>
      rw [e] at g
      cases od with
      | none => exact (show False from g).elim
      | some dx =>
        obtain ⟨vx, h1, h2⟩ := C.env i dx e
        have g : Gs (Rg.of X c cu W) ρ H D (lift δ (evE c δ a S) fun y S => lift δ (augD o dx y S) fun z S => .nx (δ.set i (some z)) S) := g
        refine ⟨vx, h1, ρ, δ, S, C, (Gs.lift C g).mono fun dy S1 ρ1 H1 s1 R1 g1 y ry => ?_⟩
        cases dx with
        | int m =>
          cases dy with
          | int n =>
            cases h2
            cases ry
            rw [hf'] at g1
            exact ⟨m, n, rfl, rfl, (show Gs (Rg.of X c cu W) ρ1 H1 D (.nx (δ.set i (some (.int (f m n)))) S1) from g1) ρ1 H1 _ Stp.refl ((C.mono s1 R1).set (i := i) (d := .int (f m n)) rfl hc)⟩
          | _ => exact (show False from g1).elim
        | _ => exact (show False from by cases dy <;> exact g1).elim
theorem s_exp (ha : PE X ea (tE (Rg.of X c cu W) a)) (h1 : noComp ea = true) : PS X (.Expr ea pos) (tS (Rg.of X c cu W) (.exp a)) :=
  PS.imp (ps_expr ha (swap_of h1)) fun D σ H h => by
    obtain ⟨ρ, δ, S, C, g⟩ := h
    refine ⟨ρ, δ, S, C, (Gs.lift C g).mono fun dd S1 ρ1 H1 s1 R1 g1 v rv => ?_⟩
    exact (show Gs (Rg.of X c cu W) ρ1 H1 D (.nx δ S1) from g1) ρ1 H1 σ Stp.refl (C.mono s1 R1)
theorem s_ret (ha : PE X ea (tE (Rg.of X c cu W) a)) : PS X (.Return (some ea) pos) (tS (Rg.of X c cu W) (.ret a)) :=
  PS.imp (ps_ret ha) fun D σ H h => by
    obtain ⟨ρ, δ, S, C, g⟩ := h
    refine ⟨ρ, δ, S, C, (Gs.lift C g).mono fun dd S1 ρ1 H1 s1 R1 g1 v rv => ?_⟩
    exact (show Gs (Rg.of X c cu W) ρ1 H1 D (.ret dd S1) from g1) ρ1 H1 v Stp.refl R1 rv
theorem s_retN : PS X (.Return none pos) (tS (Rg.of X c cu W) (.ret (.cst .non))) := PS.imp ps_retN fun D σ H h => by
  obtain ⟨ρ, δ, S, C, g⟩ := h
  exact (show Gs (Rg.of X c cu W) ρ H D (.ret .non S) from g) ρ H .non Stp.refl C.sto rfl
theorem s_if {u v : List Stmt} {su sv : Ss} (ha : PT X ea (tT (Rg.of X c cu W) a)) (hu : PSs X u (tSs (Rg.of X c cu W) su)) (hv : PSs X v (tSs (Rg.of X c cu W) sv)) : PS X (.If ea u v pos) (tS (Rg.of X c cu W) (.if_ a su sv)) :=
  PS.imp (ps_if ha hu hv) fun D σ H h => by
    obtain ⟨ρ, δ, S, C, g⟩ := h
    refine ⟨ρ, δ, S, C, (Gs.lift C g).mono fun k S1 ρ1 H1 s1 R1 g1 => ?_⟩
    cases k with
    | true => exact ⟨ρ1, δ, S1, C.mono s1 R1, g1⟩
    | false => exact ⟨ρ1, δ, S1, C.mono s1 R1, g1⟩
theorem s_brk : PS X (.Break pos) (tS (Rg.of X c cu W) .brk) := PS.imp ps_break fun D σ H h => by
  obtain ⟨ρ, δ, S, C, g⟩ := h
  exact (show Gs (Rg.of X c cu W) ρ H D (.brk δ S) from g) ρ H σ Stp.refl C
theorem s_cont : PS X (.Continue pos) (tS (Rg.of X c cu W) .cont) := PS.imp ps_continue fun D σ H h => by
  obtain ⟨ρ, δ, S, C, g⟩ := h
  exact (show Gs (Rg.of X c cu W) ρ H D (.cont δ S) from g) ρ H σ Stp.refl C
theorem s_pass : PS X (.Pass pos) (tS (Rg.of X c cu W) .pass) := PS.imp ps_pass fun D σ H h => by
  obtain ⟨ρ, δ, S, C, g⟩ := h
  exact (show Gs (Rg.of X c cu W) ρ H D (.nx δ S) from g) ρ H σ Stp.refl C
theorem s_doc {z : Str} {k : Nat} {q : Pos} : PS X (.Expr (.Constant (.str z) k q) pos) (tS (Rg.of X c cu W) .pass) := PS.imp ps_doc fun D σ H h => by
  obtain ⟨ρ, δ, S, C, g⟩ := h
  exact (show Gs (Rg.of X c cu W) ρ H D (.nx δ S) from g) ρ H σ Stp.refl C
/-! ### loops -/
theorem s_for {tg : Expr} {t : Tg} {it : It} {bd : List Stmt} {sb : Ss} (hp : PassesOwn (model X.prog X.w) X.A X.env X.xe) (hc : X.calm = true) (hi : PI X tg ea (tI (Rg.of X c cu W) it)) (hg : PG X tg (tG (Rg.of X c cu W) t)) (hb : PSs X bd (tSs (Rg.of X c cu W) sb)) (hs : noSet ea = true) :
    PS X (.For tg ea bd [] pos) (tS (Rg.of X c cu W) (.for_ t it sb)) :=
  PS.imp (ps_for hp hc hi hg hb (fold_of hs)) fun D σ H h => by
    obtain ⟨ρ, δ, S, C, g⟩ := h
    refine ⟨ρ, δ, S, C, (Gs.lift C g).mono fun src S1 ρ1 H1 s1 R1 g1 J hJ => ?_⟩
    have C1 := C.mono s1 R1
    obtain ⟨f, hf⟩ : ∃ f : Mi.D → Mi.Env → Store → SR, f = fun d δ S => match putT t d δ with
      | some δ' => evSs c sb δ' S
      | none => .bad := ⟨_, rfl⟩
    have g1 : Gs (Rg.of X c cu W) ρ1 H1 D (forL src f src.items δ S1) := by rw [hf]; exact g1
    refine ⟨fun i m σx Hx => m = src.items.length - i ∧ i ≤ src.items.length ∧ ∃ ρx δx Sx, Stp ρ1 H1 ρx Hx ∧ Cfg (Rg.of X c cu W) ρx δx Sx σx Hx ∧ Gs (Rg.of X c cu W) ρx Hx D (forL src f (src.items.drop i) δx Sx), ⟨_, rfl, Nat.zero_le _, ρ1, δ, S1, Stp.refl, C1, g1⟩, ?_⟩
    rintro i m σx Hx ⟨rfl, hi, ρx, δx, Sx, sx, Cx, gx⟩
    rcases Nat.lt_or_ge i src.items.length with hlt | hge
    · rw [List.drop_eq_getElem_cons hlt] at gx
      have gx : Gs (Rg.of X c cu W) ρx Hx D (if src.ok Sx then (match f src.items[i] δx Sx with
        | .nx δ' S' => forL src f (src.items.drop (i + 1)) δ' S'
        | .cont δ' S' => forL src f (src.items.drop (i + 1)) δ' S'
        | .brk δ' S' => .nx δ' S'
        | .ret d S' => .ret d S'
        | .exn x δ' S' => .exn x δ' S'
        | .bad => .bad) else .bad) := gx
      by_cases hok : src.ok Sx = true
      · rw [if_pos hok] at gx
        obtain ⟨_, hgo⟩ := hJ ρx Hx Sx sx Cx.sto hok
        obtain ⟨go, hyld⟩ := hgo i src.items[i] (List.getElem?_eq_getElem hlt)
        refine .inr ⟨go, fun σ' H' => ∃ ρx δx Sx, Stp ρ1 H1 ρx H' ∧ Cfg (Rg.of X c cu W) ρx δx Sx σ' H' ∧ Gs (Rg.of X c cu W) ρx H' D (forL src f (src.items.drop (i + 1)) δx Sx),
          fun σ' H' hN => ⟨src.items.length - (i + 1), by omega, rfl, hlt, hN⟩, fun v H' hy => ?_⟩
        obtain ⟨sy, Ry, rv⟩ := hyld v H' hy
        have Cy := Cx.mono sy Ry
        cases hput : putT t src.items[i] δx with
        | none =>
          have e : f src.items[i] δx Sx = .bad := by rw [hf]; simp only [hput]
          rw [e] at gx
          exact (show False from gx).elim
        | some δ' =>
          have e : f src.items[i] δx Sx = evSs c sb δ' Sx := by rw [hf]; simp only [hput]
          rw [e] at gx
          refine ⟨ρx, δx, Sx, src.items[i], δ', Cy, rv, hput, fun σ2 C2 _ => ⟨ρx, δ', Sx, C2, ?_⟩⟩
          have sxy := sx.trans sy
          show Gs (Rg.of X c cu W) ρx H' _ (evSs c sb δ' Sx)
          cases e2 : evSs c sb δ' Sx with
          | nx δ3 S3 =>
            rw [e2] at gx
            exact fun ρ3 H3 σ3 s3 C3 => ⟨ρ3, δ3, S3, sxy.trans s3, C3, Gs.step (r := forL src f (src.items.drop (i + 1)) δ3 S3) (sy.trans s3) gx⟩
          | cont δ3 S3 =>
            rw [e2] at gx
            exact fun ρ3 H3 σ3 s3 C3 => ⟨ρ3, δ3, S3, sxy.trans s3, C3, Gs.step (r := forL src f (src.items.drop (i + 1)) δ3 S3) (sy.trans s3) gx⟩
          | brk δ3 S3 =>
            rw [e2] at gx
            exact fun ρ3 H3 σ3 s3 C3 => (show Gs (Rg.of X c cu W) ρx Hx D (.nx δ3 S3) from gx) ρ3 H3 σ3 (sy.trans s3) C3
          | ret d3 S3 => rw [e2] at gx; exact Gs.step (r := .ret d3 S3) sy gx
          | exn x3 δ3 S3 => rw [e2] at gx; exact Gs.step (r := .exn x3 δ3 S3) sy gx
          | bad => rw [e2] at gx; exact gx
      · rw [if_neg hok] at gx
        exact (show False from gx).elim
    · rw [List.drop_eq_nil_of_le hge] at gx
      have gx : Gs (Rg.of X c cu W) ρx Hx D (if src.ok Sx then .nx δx Sx else .bad) := gx
      by_cases hok : src.ok Sx = true
      · rw [if_pos hok] at gx
        obtain ⟨hstop, _⟩ := hJ ρx Hx Sx sx Cx.sto hok
        have hi2 : i = src.items.length := by omega
        rw [← hi2] at hstop
        exact .inl ⟨hstop, gx ρx Hx σx Stp.refl Cx⟩
      · rw [if_neg hok] at gx
        exact (show False from gx).elim
theorem s_while {bd : List Stmt} {sb : Ss} (hp : PassesOwn (model X.prog X.w) X.A X.env X.xe) (ha : PT X ea (tT (Rg.of X c cu W) a)) (hb : PSs X bd (tSs (Rg.of X c cu W) sb)) : PS X (.While ea bd [] pos) (tS (Rg.of X c cu W) (.while_ a sb)) :=
  PS.imp (ps_while hp ha hb) fun D σ H h => by
    obtain ⟨ρ, δ, S, C, g⟩ := h
    have g : Gs (Rg.of X c cu W) ρ H D (whileL (fun δ => evT c δ a) (evSs c sb) c.fuel δ S) := g
    refine ⟨fun m σx Hx => ∃ ρx δx Sx, Cfg (Rg.of X c cu W) ρx δx Sx σx Hx ∧ Gs (Rg.of X c cu W) ρx Hx D (whileL (fun δ => evT c δ a) (evSs c sb) m δx Sx), ⟨_, ρ, δ, S, C, g⟩, ?_⟩
    rintro m σx Hx ⟨ρx, δx, Sx, Cx, gx⟩
    cases m with
    | zero => exact (show False from gx).elim
    | succ m =>
      have gx : Gs (Rg.of X c cu W) ρx Hx D (lift δx (evT c δx a Sx) fun b S => if b then (match evSs c sb δx S with
        | .nx δ' S' => whileL (fun δ => evT c δ a) (evSs c sb) m δ' S'
        | .cont δ' S' => whileL (fun δ => evT c δ a) (evSs c sb) m δ' S'
        | .brk δ' S' => .nx δ' S'
        | .ret d S' => .ret d S'
        | .exn x δ' S' => .exn x δ' S'
        | .bad => .bad) else .nx δx S) := gx
      refine ⟨ρx, δx, Sx, Cx, (Gs.lift Cx gx).mono fun k S1 ρ1 H1 s1 R1 g1 => ?_⟩
      have C1 := Cx.mono s1 R1
      cases k with
      | true =>
        rw [if_pos rfl] at g1
        refine Eq.mpr (if_pos rfl) ?_
        refine ⟨fun σ' H' => ∃ ρx δx Sx, Cfg (Rg.of X c cu W) ρx δx Sx σ' H' ∧ Gs (Rg.of X c cu W) ρx H' D (whileL (fun δ => evT c δ a) (evSs c sb) m δx Sx), fun σ' H' hN => ⟨m, Nat.lt_succ_self m, hN⟩, ρ1, δx, S1, C1, ?_⟩
        show Gs (Rg.of X c cu W) ρ1 H1 _ (evSs c sb δx S1)
        cases e2 : evSs c sb δx S1 with
        | nx δ3 S3 =>
          rw [e2] at g1
          exact fun ρ3 H3 σ3 s3 C3 => ⟨ρ3, δ3, S3, C3, Gs.step (r := whileL (fun δ => evT c δ a) (evSs c sb) m δ3 S3) s3 g1⟩
        | cont δ3 S3 =>
          rw [e2] at g1
          exact fun ρ3 H3 σ3 s3 C3 => ⟨ρ3, δ3, S3, C3, Gs.step (r := whileL (fun δ => evT c δ a) (evSs c sb) m δ3 S3) s3 g1⟩
        | brk δ3 S3 => rw [e2] at g1; exact g1
        | ret d3 S3 => rw [e2] at g1; exact g1
        | exn x3 δ3 S3 => rw [e2] at g1; exact g1
        | bad => rw [e2] at g1; exact g1
      | false =>
        rw [if_neg Bool.false_ne_true] at g1
        refine Eq.mpr (if_neg Bool.false_ne_true) ?_
        exact (show Gs (Rg.of X c cu W) ρ1 H1 D (.nx δx S1) from g1) ρ1 H1 σx Stp.refl C1
end
end Mi

set_option Elab.async false
set_option linter.all false
set_option maxRecDepth 100000
set_option maxHeartbeats 4000000
/-! Mi, 15: raise, try. -/
namespace Mi
open PySem PySem.Spec PyProof.Rows L2
/-- __init__ of an exception class whose fields are fl -/
def spI (C : Addr) (fl : List Str) : Sp := fun vs H Q E => ∃ a ws, vs = .ref a :: ws ∧ ws.length = fl.length ∧ H a = some (exo a C none) ∧
  ∀ d H2, H d = none → d ≠ a → H2 a = some (exo a C (some d)) → H2 d = some (exd d (fl.zip ws).reverse) → (∀ b, b ≠ a → b ≠ d → H2 b = H b) → Q .non H2
theorem sto_ext {K : Fg} {ρ : List Addr} {S : Store} {H H' : Hp} (R : Sto K ρ S H) (h : ∀ b o, H b = some o → H' b = some o) : Sto K ρ S H' ∧ Stp ρ H ρ H' := by
  have s : Stp ρ H ρ H' := ⟨List.prefix_refl _, fun a o e n => ⟨h a o e, n⟩⟩
  refine ⟨⟨R.len, R.nd, fun m w e => ?_⟩, s⟩
  obtain ⟨b, hb, q⟩ := R.at_ m w e
  obtain ⟨u, hu⟩ := R.some (List.mem_of_getElem? hb)
  exact ⟨b, hb, q.mono s ((h b u hu).trans hu.symm)⟩
/-- what is known of a class that is raised -/
structure XCls (P : Program) (w : World) (K : Fg) (mg : Str → Option Value) (base : Heap) (k : Nat) (nm : String) (fl : List String) : Prop where
  inX : nm ∈ xNames
  run : ∃ (C fI : Addr) (fd : FuncData) (ps : List Str), mg (Str.ofString nm) = some (.ref C) ∧ OexC K C ∧ XfC K C ∧ (∀ f ∈ fl, PySem.W.findIn K (.ref C) (Str.ofString f) = some none) ∧ PySem.W.findIn K (.ref C) "__init__" = some (some (.ref fI)) ∧
    PySem.W.typeIn K (.ref fI) = some (.type "function") ∧ FnOk P w K mg base (L2.CX P w) k fI fd ps (spI C (fl.map Str.ofString)) ∧ Binds K fd ps []
  two : (∃ f, fl = [f]) ∨ ∃ f g, fl = [f, g] ∧ (Str.ofString f == Str.ofString g) = false
theorem fld_of {K : Fg} {ρ : List Addr} {H : Hp} {fl : List String} (two : (∃ f, fl = [f]) ∨ ∃ f g, fl = [f, g] ∧ (Str.ofString f == Str.ofString g) = false) {ds : List D} {ws : List V} (r : Rvs K ρ H ds ws) (hl : fl.length = ds.length) {f : String} {e : D} (h : (fl.zip ds).lookup f = some e) :
    f ∈ fl ∧ ∃ v, ((fl.map Str.ofString).zip ws).reverse.lookup (Str.ofString f) = some v ∧ Rv K ρ H e v := by
  rcases two with ⟨g, rfl⟩ | ⟨g1, g2, rfl, hne⟩
  · match ds, r, hl with
    | [d], r, _ =>
      obtain ⟨x, _, rfl, rx, rfl⟩ := r
      have h : (match f == g with | true => some d | false => none) = some e := h
      cases q : f == g with
      | true =>
        rw [q] at h
        cases h
        have q2 : f = g := beq_iff_eq.mp q
        subst q2
        refine ⟨by simp, x, ?_, rx⟩
        simp [List.lookup]
      | false => rw [q] at h; cases h
  · match ds, r, hl with
    | [d1, d2], r, _ =>
      obtain ⟨x1, _, rfl, r1, x2, _, rfl, r2, rfl⟩ := r
      simp only [List.zip_cons_cons, List.zip_nil_right, List.lookup] at h
      cases q : f == g1 with
      | true =>
        rw [q] at h
        cases h
        have q2 : f = g1 := beq_iff_eq.mp q
        subst q2
        refine ⟨by simp, x1, ?_, r1⟩
        simp only [List.map_cons, List.map_nil, List.zip_cons_cons, List.zip_nil_right, List.reverse_cons, List.reverse_nil, List.nil_append, List.singleton_append, List.lookup, hne]
        simp
      | false =>
        rw [q] at h
        cases q' : f == g2 with
        | true =>
          rw [q'] at h
          cases h
          have q2 : f = g2 := beq_iff_eq.mp q'
          subst q2
          refine ⟨by simp, x2, ?_, r2⟩
          simp [List.lookup]
        | false => rw [q'] at h; cases h
section
variable {X : Cx} {c : Ctx} {cu : Option (Addr × Value × Option Addr)} {W : WX} {ea : Expr} {pos p p2 : Pos} {x : Str} {es : Es} {exs : List Expr}
theorem s_rais {nm : String} {fl : List String} {k : Nat} (T : XCls X.prog X.w X.K X.mg X.base k nm fl) (hini : c.ini nm = some fl) (hc : X.calm = true) (hr : Room (k + 1) X.A) (tk : Takes X W) (hg : Gl X (Str.ofString nm)) (ha : PA X (ea :: exs) (tA (Rg.of X c cu W) es))
    (hd : ((Str.ofString nm) == ("__debug__" : Str)) = false) (hs : noStar ea = true) (hss : exs.all noStar = true) (hl : decide (es.len ≤ 1000) = true) : PS X (.Raise (some (.Call (.Name (Str.ofString nm) p) (ea :: exs) [] pos)) none p2) (tS (Rg.of X c cu W) (.rais nm es)) := by
  obtain ⟨C, fI, fd, ps, h1, h2, h3, h4, h5, h6, h7, h8⟩ := T.run
  refine PS.imp (ps_raise hc tk (pmk_oex (dvs := []) h2 h5 h6 h7 hr h8 .nil (fun _ _ _ _ _ _ _ z => by
    obtain ⟨_, _, _, _, _, _, _, _, _, _, _, _, q⟩ := z
    exact q.elim) hg h1 ha hd (star_of hs) (stars_any hss))) fun D σ H h => ?_
  obtain ⟨ρ, δ, S, Cf, g⟩ := h
  refine ⟨ρ, δ, S, Cf, (Gs.lift Cf g).mono fun ds S1 ρ1 H1 s1 R1 g1 vs rvs hv => ⟨?_, fun a hna => ?_⟩⟩
  · rw [hv]
    exact of_decide_eq_true hl
  · have g1 : Gs (Rg.of X c cu W) ρ1 H1 D (match c.ini nm with
      | some fs => if fs.length = ds.length then SR.exn ⟨nm, fs.zip ds⟩ δ S1 else .bad
      | none => .bad) := g1
    rw [hini] at g1
    have g1 : Gs (Rg.of X c cu W) ρ1 H1 D (if fl.length = ds.length then SR.exn ⟨nm, fl.zip ds⟩ δ S1 else .bad) := g1
    by_cases hlen : fl.length = ds.length
    · rw [if_pos hlen] at g1
      have C1 := Cf.mono s1 R1
      refine ⟨a, vs, by rw [List.append_nil], by rw [List.length_map, hlen, rvs.length], upd_same, fun d H2 hd0 hda e1 e2 e3 => ⟨rfl, d, _, e1, e2, ?_, ?_⟩⟩
      · rw [upd_ne hda] at hd0
        exact hd0
      · have hd1 : H1 d = none := by rw [upd_ne hda] at hd0; exact hd0
        have ext : ∀ b o, H1 b = some o → (upd (del H2 a) d (.xd ((fl.map Str.ofString).zip vs).reverse)) b = some o := fun b o e => by
          have hba : b ≠ a := ne_of_none e hna
          have hbd : b ≠ d := ne_of_none e hd1
          rw [upd_ne hbd, del_ne hba, e3 b hba hbd, upd_ne hba]
          exact e
        obtain ⟨R2, s2⟩ := sto_ext R1 ext
        refine g1 ρ1 _ σ (.ref C) (some d) s2 (C1.mono s2 R2) ⟨C, rfl, ⟨h1, T.inX⟩, h3, d, _, rfl, upd_same, R1.fresh hd1, fun f e he => ?_⟩
        obtain ⟨hf, v, k1, k2⟩ := fld_of T.two (rvs.mono s2) hlen he
        exact ⟨h4 f hf, v, k1, k2⟩
    · rw [if_neg hlen] at g1
      exact (show False from g1).elim
end
/-! ### try: clauses with and without a name -/
def endI : Option Nat → Ends → Ends
  | none, D => D
  | some i, D => { nx := fun σ H => D.nx (σ.set i none) H, rt := D.rt, bk := fun σ H => D.bk (σ.set i none) H, ct := fun σ H => D.ct (σ.set i none) H }
def setI : Option Nat → Addr → L2.St → L2.St
  | none, _, σ => σ
  | some i, a, σ => σ.set i (some (.ref a))
abbrev Cl := Value × Option Nat × (Addr → Value → Option Addr → TS)
def wMix (K : Fg) (Wo : WX) (D : Ends) : List Cl → WX
  | [] => Wo
  | (k, i, ts) :: r => fun cls d σ H => ∃ b, PySem.W.exmOne K cls k = some b ∧ (b = true → ∀ a, H a = none → ts a cls d (endI i D) (setI i a σ) H) ∧ (b = false → wMix K Wo D r cls d σ H)
inductive HsM (X : Cx) : List ExceptHandler → List Cl → Prop
  | nil : HsM X [] []
  | plain {y : Str} {k : Value} {ts : Addr → Value → Option Addr → TS} {b0 : Stmt} {bs : List Stmt} {q1 q2 : Pos} {hs : List ExceptHandler} {l : List Cl} (nm : Names X y k)
      (suite : ∀ (a : Addr) (oe : Obj) (cls : Value) (d : Option Addr) (pn : List (Addr × Obj)), Zc cls d oe → (∃ vs, oe.data = .fields vs) → PSs (X.suite a ((a, oe) :: pn)) (b0 :: bs) (ts a cls d)) (r : HsM X hs l) :
      HsM X (.ExceptHandler (some (.Name y q1)) none (b0 :: bs) q2 :: hs) ((k, none, ts) :: l)
  | named {y n : Str} {i : Nat} {k : Value} {ts : Addr → Value → Option Addr → TS} {b0 : Stmt} {bs : List Stmt} {q1 q2 : Pos} {hs : List ExceptHandler} {l : List Cl} (nm : Names X y k) (hi : X.N[i]? = some n) (hn : X.env.kindOf n = some .local)
      (suite : ∀ (a : Addr) (oe : Obj) (cls : Value) (d : Option Addr) (pn : List (Addr × Obj)), Zc cls d oe → (∃ vs, oe.data = .fields vs) → PSs (X.suite a ((a, oe) :: pn)) (b0 :: bs) (ts a cls d)) (r : HsM X hs l) :
      HsM X (.ExceptHandler (some (.Name y q1)) (some n) (b0 :: bs) q2 :: hs) ((k, some i, ts) :: l)
section
variable {X : Cx} {bd : List Stmt} {h0 : ExceptHandler} {hs : List ExceptHandler} {l : List Cl} {pos : Pos} {tb : WX → TS} {Wo : WX}
/-- an exception that lies on the ground goes through the clauses -/
theorem clauses {D : Ends} {pins : List (Addr × Obj)} {σ : L2.St} {H : Hp} {a : Addr} {gr : Heap} {s0 s1 : Shared} {kc : Value} {kd : Option Addr} (stk : X.stack = X.env :: X.outer) (frm : X.env.frame = some X.env.locals) (hN : X.N.Nodup) (tk : Takes X Wo)
    (J : Inv X pins σ H s0) (nb : ∀ b o, s0.heap.get? b = some o → b ∉ frs X.stack → gr.get? b = some o) (na : H a = none) (os : s1.os = s0.os) (ag : AllBare s1.gens) (up : s0.heap.UpToSlots s1.heap) (fl : HandSPX.FlyingZ gr (X.env :: X.outer) a (Zc kc kd) s1.heap) (nL : a ≠ X.env.locals) (nF : a ∉ X.fs) :
    ∀ {gs : List ExceptHandler} {m : List Cl}, HsM X gs m → wMix X.K Wo D m kc kd σ H → wpAny (model X.prog X.w) X.A (handleBy (.ref a) X.env gs) (SP X pins D) X.xe s1 := by
  have J1 : Inv X pins σ H s1 := J.landed nb fl.1 up os ag
  obtain ⟨o1, v1, e1, z1, d1⟩ := fl.there
  have S1 := J1.suite e1 d1 na nL nF
  intro gs m hm
  have look : ∀ {y : Str} {k : Value} {q : Pos} {Q : Value → Shared → Prop} {E : Value → Shared → Prop}, Names X y k → Q k s1 → wpAny (model X.prog X.w) (X.A.mark (some (.ref a))) (eval (.Name y q) X.env) Q E s1 := fun {y k q Q E} nm hq => by
    obtain ⟨n1, n2, n3 | ⟨n3, n4, n5⟩⟩ := nm
    · exact ld_glob (X := X.suite a ((a, o1) :: (X.pn ++ pins))) S1 n1 n3 hq n2
    · exact ld_blt (X := X.suite a ((a, o1) :: (X.pn ++ pins))) S1 n1 n3 n4 hq n5 n2
  have cl : PySem.W.Looks (model X.prog X.w) s1.heap (typeOf (.ref a)) kc := fun A Q E s k q => wpAny_typeOf_ref (k _ _ e1) (by rw [z1.1]; exact q)
  induction hm with
  | nil =>
    intro hw
    refine wpAny_handleBy_nil ?_
    obtain ⟨_, _, _, oe, vs, T, oT, ts', he, _, hd, hf, _⟩ := id fl
    have fin : wpAny (model X.prog X.w) X.A (setFlight (.ref a) X.env.frame) (fun _ s => wpAny (model X.prog X.w) X.A (throw (.ref a) : Sem Flow) (SP X pins D) X.xe s) X.xe s1 := by
      rw [frm]
      refine HandSPX.setFlight_upZ fl fun h2 hh up2 => wpAny_throw (tk _ _ ?_)
      exact ⟨a, gr, s0, pins, σ, H, kc, kd, rfl, J, nb, up.trans up2, .inr (.inr (by rw [stk]; exact hh)), na, os, ag, hw⟩
    unfold PySem.passOn
    refine wpAny_bind (wpAny_field he hd hf ?_)
    rw [if_neg (show ¬ ((Value.ref T == Value.none) = true) from by simp)]
    first
      | exact wpAny_bind (wpAny_pure (wpAny_bind fin))
      | exact wpAny_bind fin
  | @plain y k ts b0 bs q1 q2 gs2 m2 nm suite r ih =>
    rintro ⟨b, w1, w2, w3⟩
    refine wpAny_handleBy_cons (codeAny_handlers_test (look nm ((PySem.W.exm_one (M := model X.prog X.w) J1.kIn cl w1).here ?_))) fun q => by cases q
    cases b with
    | false => exact ih (w3 rfl)
    | true =>
      refine codeAny_handlers_suite (HandSPX.lands_againZ fl fun h2 fl2 up2 => ?_)
      have J2 : Inv X pins σ H { s1 with heap := h2 } := J.landed nb fl2.1 (up.trans up2) os ag
      obtain ⟨o2, v2, e2, z2, d2⟩ := fl2.there
      have S2 := J2.suite e2 d2 na nL nF
      refine wpAny_mono ((suite a o2 kc kd (X.pn ++ pins) z2 ⟨_, d2⟩).run [] _ σ H _ S2 (w2 rfl a na)) (fun f s6 hsp => ?_) fun _ _ z => False.elim z
      cases f with
      | next => obtain ⟨σ6, H6, S6, q6⟩ := hsp; exact ⟨_, _, S6.unsuite J.ok, q6⟩
      | brk => obtain ⟨σ6, H6, S6, q6⟩ := hsp; exact ⟨_, _, S6.unsuite J.ok, q6⟩
      | cont => obtain ⟨σ6, H6, S6, q6⟩ := hsp; exact ⟨_, _, S6.unsuite J.ok, q6⟩
      | ret u => obtain ⟨v6, σ6, H6, S6, r6, q6⟩ := hsp; exact ⟨_, _, _, S6.unsuite J.ok, r6, q6⟩
  | @named y n i k ts b0 bs q1 q2 gs2 m2 nm hi hn suite r ih =>
    rintro ⟨b, w1, w2, w3⟩
    refine wpAny_handleBy_cons (codeAny_handlers_test (look nm ((PySem.W.exm_one (M := model X.prog X.w) J1.kIn cl w1).here ?_))) fun q => by cases q
    cases b with
    | false => exact ih (w3 rfl)
    | true =>
      refine codeAny_handlers_suite_as (HandSPX.lands_againZ fl fun h2 fl2 up2 => ?_)
      have J2 : Inv X pins σ H { s1 with heap := h2 } := J.landed nb fl2.1 (up.trans up2) os ag
      obtain ⟨o2, v2, e2, z2, d2⟩ := fl2.there
      have S2 := J2.suite e2 d2 na nL nF
      refine store_ok (X := X.suite a ((a, o2) :: (X.pn ++ pins))) (v := .ref a) S2 hN hi (.inl hn) rfl (fun s5 S5 => ?_) (.inr hn)
      refine wpAny_mono ((suite a o2 kc kd (X.pn ++ pins) z2 ⟨_, d2⟩).run [] s5 _ H _ S5 (w2 rfl a na)) (fun f s6 hsp => ?_) fun _ _ z => False.elim z
      have out : ∀ {σ6 : L2.St} {H6 : Hp} {Q : Shared → Prop}, Inv (X.suite a ((a, o2) :: (X.pn ++ pins))) [] σ6 H6 s6 → (∀ s7, Inv X pins (σ6.set i none) H6 s7 → Q s7) →
          wpAny (model X.prog X.w) X.A (do bindName X.env n .none; unbindBehindTheSuite X.env n q2) (fun _ s7 => Q s7) X.xe s6 := fun {σ6 H6 Q} S6 hq => gone_ok (S6.unsuite J.ok) hN hi hn hq
      cases f with
      | next => obtain ⟨σ6, H6, S6, q6⟩ := hsp; exact out S6 fun s7 J7 => ⟨_, _, J7, q6⟩
      | brk => obtain ⟨σ6, H6, S6, q6⟩ := hsp; exact out S6 fun s7 J7 => ⟨_, _, J7, q6⟩
      | cont => obtain ⟨σ6, H6, S6, q6⟩ := hsp; exact out S6 fun s7 J7 => ⟨_, _, J7, q6⟩
      | ret u => obtain ⟨v6, σ6, H6, S6, r6, q6⟩ := hsp; exact out S6 fun s7 J7 => ⟨_, _, _, J7, r6, q6⟩
theorem ps_mix (stk : X.stack = X.env :: X.outer) (frm : X.env.frame = some X.env.locals) (hN : X.N.Nodup) (tk : Takes X Wo)
    (hb : ∀ (W : WX) (pn : List (Addr × Obj)) (xe : Value → Shared → Prop), Takes (X.tr pn xe) W → PassesOwn (model X.prog X.w) X.A X.env xe → PSs (X.tr pn xe) bd (tb W)) (hm : HsM X (h0 :: hs) l) :
    PS X (.Try bd (h0 :: hs) [] [] pos) (fun D σ H => tb (wMix X.K Wo D l) D σ H) := by
  refine ⟨fun pins s σ H D I h => wpAny_Try_except ?_⟩
  have frA : X.A.frames = some (X.env :: X.outer) := by rw [I.ok.frames, stk]
  refine wpAny_mono ((hb (wMix X.K Wo D l) (X.pn ++ pins) (fun e t1 => wpAny (model X.prog X.w) X.A (noteFrame e X.env) (fun _ t2 => wpAny (model X.prog X.w) X.A (setFlight e none) (fun _ t3 =>
    wpAny (model X.prog X.w) X.A (handleBy e X.env (h0 :: hs)) (SP X pins D) X.xe t3) X.xe t2) X.xe t1) (fun u t xx => ?_) PassesOwn.looking).run [] s σ H D (I.toTry _) h) (fun f t hsp => ?_) fun _ _ he => he
  · obtain ⟨a, gr, s0, pq, σh, Hh, kc, kd, rfl, J', nb, up, sky, na, os, ag, w⟩ := xx
    have J : Inv X pins σh Hh s0 := J'.ofTry I.ok
    show wpAny (model X.prog X.w) X.A (noteFrame (.ref a) X.env) _ _ _
    refine Sky.land Zc.steady frA frm (by rw [← stk]; exact sky) fun h3 fl3 up3 => ?_
    obtain ⟨o3, v3, e3, _, d3⟩ := fl3.there
    have nfr : a ∉ frs (X.env :: X.outer) := fun hm => by
      obtain ⟨_, o', e', hnf⟩ := fl3.2.2.1.mem hm
      rw [e3] at e'
      cases e'
      exact hnf _ d3
    refine clauses (s1 := { t with heap := h3 }) stk frm hN tk J nb na os ag (up.trans up3) fl3 (fun z => nfr (List.mem_filterMap.mpr ⟨X.env, List.mem_cons_self, by rw [frm, z]⟩)) (fun hm => ?_) hm w
    obtain ⟨e, he, q⟩ := List.mem_filterMap.mp hm
    exact nfr (List.mem_filterMap.mpr ⟨e, List.mem_cons_of_mem _ he, q⟩)
  · cases f with
    | next => obtain ⟨σ', H', J', q⟩ := hsp; exact wpAny_execs_nil ⟨σ', H', J'.ofTry I.ok, q⟩
    | brk => obtain ⟨σ', H', J', q⟩ := hsp; exact ⟨σ', H', J'.ofTry I.ok, q⟩
    | cont => obtain ⟨σ', H', J', q⟩ := hsp; exact ⟨σ', H', J'.ofTry I.ok, q⟩
    | ret u => obtain ⟨v, σ', H', J', r, q⟩ := hsp; exact ⟨v, σ', H', J'.ofTry I.ok, r, q⟩
end
end Mi

set_option Elab.async false
set_option linter.all false
set_option maxRecDepth 100000
set_option maxHeartbeats 4000000
/-! Mi, 16: a text is that of a tree: expressions. -/
namespace Mi
open PySem PySem.Spec PyProof.Rows L2
structure Zn where
  N : List Str
  sc : Scope
  cu : Option Nat
  hot : Bool
  blk : Option Scope
structure Tab where
  fns : List String
  glo : List String
  exs : List String
  cat : List String
def bNames : List String := ["len", "int", "abs", "max", "min", "tuple", "str", "sum", "bool", "list", "dict", "isinstance", "range", "enumerate", "zip"]
structure Fx (P : Program) (w : World) (K : Fg) (mg : Str → Option Value) (base : Heap) (T : Tab) (k : Nat) (c : Ctx) : Prop where
  fn : ∀ f ∈ T.fns, ∃ fa fd ps, mg (Str.ofString f) = some (.ref fa) ∧ PySem.W.keepIn K (.ref fa) = true ∧ Binds K fd ps [] ∧ FnOk P w K mg base (L2.CX P w) k fa fd ps (spOf K mg (c.call f))
  glo : ∀ x ∈ T.glo, ∃ d u v, c.glo x = some d ∧ mg (Str.ofString x) = some u ∧ RelV v u ∧ ∀ ρ H, Rv K ρ H d v
  blt : ∀ x ∈ bNames, mg (Str.ofString x) = none
  exs : ∀ x ∈ T.exs, ∃ fl, c.ini x = some fl ∧ XCls P w K mg base k x fl
  cat : ∀ x ∈ T.cat, ∃ v, mg (Str.ofString x) = some v ∧ ∀ y cls dd ρ H, ExnR K mg ρ H y cls dd → PySem.W.exmOne K cls v = some (c.isa y.cls x)
structure Lk (X : Cx) (z : Zn) (T : Tab) (k : Nat) (c : Ctx) (cu : Option (Addr × Value × Option Addr)) (W : WX) : Prop where
  fx : Fx X.prog X.w X.K X.mg X.base T k c
  N : X.N = z.N
  nd : X.N.Nodup
  sc : X.env.scope = z.sc
  fk : X.env.scope.kind = .function
  un : X.A.units + 64 < cLine
  calm : z.hot = false → X.calm = true
  cold : z.hot = false → c.cur = none
  room : z.hot = false → Room (k + 1) X.A
  tk : Takes X W
  po : z.hot = false → z.blk = none → PassesOwn (model X.prog X.w) X.A X.env X.xe
  stk : z.blk = none → X.stack = X.env :: X.outer ∧ X.env.frame = some X.env.locals
  fn : ∀ x, X.fn x = (match z.blk with
    | none => true
    | some s => s.names.lookup x == some .cell)
  curS : ∀ i x, c.cur = some (i, x) → z.cu = some i
  hotX : z.cu ≠ none → ∃ X0 a cls dd oe pn, cu = some (a, cls, dd) ∧ X = Cx.suite X0 a ((a, oe) :: pn) ∧ Zc cls dd oe ∧ ∃ vs, oe.data = .fields vs

/-! ### names -/
def vis (z : Zn) (i : Nat) (x : Str) : Bool := decide (z.N[i]? = some x) && ((match z.sc.names.lookup x with
  | some .local => true
  | some .cell => true
  | some .free => true
  | _ => false) && (!(x == ("__debug__" : Str)) && !(x == ("__classdict__" : Str))))
def lcl (z : Zn) (i : Nat) (x : Str) : Bool := decide (z.N[i]? = some x) && ((match z.sc.names.lookup x with
  | some .local => true
  | some .cell => (match z.blk with
    | none => true
    | some s => s.names.lookup x == some .cell)
  | _ => false) && decide (z.cu ≠ some i))
def gl (z : Zn) (x : Str) (n : String) : Bool := decide (x = Str.ofString n) && (decide (z.sc.names.lookup x = some .globalImplicit) && (!(x == ("__debug__" : Str)) && decide (x ≠ "__name__")))
section
variable {X : Cx} {z : Zn} {T : Tab} {k : Nat} {c : Ctx} {cu : Option (Addr × Value × Option Addr)} {W : WX}
theorem vis_ok (L : Lk X z T k c cu W) {i : Nat} {x : Str} (h : vis z i x = true) : X.N[i]? = some x ∧ Vis X.env.scope x ∧ (x == ("__debug__" : Str)) = false ∧ (x == ("__classdict__" : Str)) = false := by
  unfold vis at h
  simp only [Bool.and_eq_true, decide_eq_true_eq, Bool.not_eq_true'] at h
  obtain ⟨h1, h2, h3, h4⟩ := h
  refine ⟨by rw [L.N]; exact h1, ?_, h3, h4⟩
  unfold Vis
  rw [L.sc]
  split at h2
  · exact .inl (by assumption)
  · exact .inr (.inl (by assumption))
  · exact .inr (.inr (by assumption))
  · cases h2
theorem lcl_ok (L : Lk X z T k c cu W) {i : Nat} {x : Str} (h : lcl z i x = true) : X.N[i]? = some x ∧ Loc X.env.scope x ∧ (X.fn x = true ∨ X.env.scope.names.lookup x = some .local) ∧ ∀ j y, c.cur = some (j, y) → j ≠ i := by
  unfold lcl at h
  simp only [Bool.and_eq_true, decide_eq_true_eq] at h
  obtain ⟨h1, h2, h3⟩ := h
  refine ⟨by rw [L.N]; exact h1, ?_, ?_, fun j y e q => h3 (by rw [L.curS j y e, q])⟩
  · unfold L2.Loc
    rw [L.sc]
    split at h2
    · exact .inl (by assumption)
    · exact .inr (by assumption)
    · cases h2
  · rw [L.sc, L.fn]
    split at h2
    · exact .inr (by assumption)
    · exact .inl h2
    · cases h2
theorem gl_ok (L : Lk X z T k c cu W) {x : Str} {n : String} (h : gl z x n = true) : x = Str.ofString n ∧ Gl X x ∧ (x == ("__debug__" : Str)) = false ∧ x ≠ "__name__" := by
  unfold gl at h
  simp only [Bool.and_eq_true, decide_eq_true_eq, Bool.not_eq_true'] at h
  obtain ⟨h1, h2, h3, h4⟩ := h
  refine ⟨h1, ?_, h3, h4⟩
  show X.env.scope.names.lookup x = _
  rw [L.sc]
  exact h2
theorem blt_ok (L : Lk X z T k c cu W) {n : String} (h : bNames.contains n = true) : X.mg (Str.ofString n) = none := L.fx.blt n (by simpa using h)

abbrev KE := Expr → Bool
/-! ### shapes -/
def cVar (z : Zn) (i : Nat) : KE
  | .Name x _ => vis z i x
  | _ => false
def cCst (d : D) : KE
  | .Constant (.int j) _ _ => decide (d = .int j)
  | .Constant (.bool b) _ _ => decide (d = .bl b)
  | .Constant .none _ _ => decide (d = .non)
  | .Constant (.str t) _ _ => (match d with
    | .str s => decide (t = sV s)
    | _ => false)
  | _ => false
def cGlo (T : Tab) (z : Zn) (n : String) : KE
  | .Name x _ => gl z x n && T.glo.contains n
  | _ => false
def cBop (op : Operator) : Option Op := match op with
  | .Add => some .add
  | .Sub => some .sub
  | .Mult => some .mul
  | .FloorDiv => some .fdiv
  | .Mod => some .mod
  | .Pow => some .pow
  | .BitAnd => some .band
  | _ => none
def cCmp (op : CmpOp) : Option Op := match op with
  | .Eq => some .eq
  | .NotEq => some .ne
  | .Lt => some .lt
  | .LtE => some .le
  | .Gt => some .gt
  | .GtE => some .ge
  | .Is => some .is_
  | .IsNot => some .isnot
  | .In => some .in_
  | .NotIn => some .notin
def plIx : Expr → Bool
  | .Slice .. => false
  | .Tuple .. => false
  | _ => true
def cOp (o : Op) (ka kb : KE) : KE
  | .BinOp a op b _ => decide (cBop op = some o) && (ka a && kb b)
  | .Compare a [op] [b] _ => decide (cCmp op = some o) && (ka a && (kb b && noSet b))
  | .Subscript a b _ => decide (o = .ix) && (ka a && (kb b && plIx b))
  | _ => false
def cOpT (o : Op) (ka kb : KE) : KE
  | .Compare a [op] [b] _ => decide (cCmp op = some o) && (ka a && (kb b && noSet b))
  | e => plainT e && cOp o ka kb e
def cNeg (ka : KE) : KE
  | .UnaryOp .USub a _ => ka a
  | _ => false
def cNo (ka : KE) : KE
  | .UnaryOp .Not a _ => ka a
  | _ => false
def cAnd (ka kb : KE) : KE
  | .BoolOp .And [a, b] _ => ka a && kb b
  | .BoolOp .And (a :: b :: r :: rs) p => ka a && kb (.BoolOp .And (b :: r :: rs) p)
  | _ => false
def cOr (ka kb : KE) : KE
  | .BoolOp .Or [a, b] _ => ka a && kb b
  | .BoolOp .Or (a :: b :: r :: rs) p => ka a && kb (.BoolOp .Or (b :: r :: rs) p)
  | _ => false
def cChn (o o' : Op) (ka kb kd : KE) : KE
  | .Compare a [op, op'] [b, d] _ => decide (cCmp op = some o) && (decide (cCmp op' = some o') && (ka a && (kb b && (kd d && noSet d))))
  | _ => false
def cIte (kt ka kb : KE) : KE
  | .IfExp t a b _ => kt t && (ka a && kb b)
  | _ => false
abbrev KEs := List Expr → Bool
def cTup (es : Es) (k : KEs) : KE
  | .Tuple xs _ _ => k xs && decide (es.len ≤ 1000)
  | _ => false
def cDic0 : KE
  | .Dict [] [] _ => true
  | _ => false
def cCall (T : Tab) (z : Zn) (f : String) (es : Es) (k : KEs) : KE
  | .Call (.Name x _) [] [] _ => (!z.hot && (gl z x f && T.fns.contains f)) && (match es with
    | .nil => true
    | _ => false)
  | .Call (.Name x _) (a :: as) [] _ => (!z.hot && (gl z x f && T.fns.contains f)) && (k (a :: as) && (a :: as).all noStar)
  | _ => false
def Bi.nm : Bi → String
  | .len => "len"
  | .int => "int"
  | .abs => "abs"
  | .max2 => "max"
  | .min2 => "min"
  | .tuple => "tuple"
  | .str => "str"
  | .sum => "sum"
  | .min1 => "min"
  | .max1 => "max"
  | .bool => "bool"
def Bi.calm : Bi → Bool
  | .max2 | .min2 | .sum | .min1 | .max1 => true
  | _ => false
def cBi (z : Zn) (b : Bi) (k : KEs) : KE
  | .Call (.Name x _) (a :: as) [] _ => gl z x b.nm && ((!b.calm || !z.hot) && (k (a :: as) && (a :: as).all noStar))
  | _ => false
def cBif (z : Zn) (b : Bi) (k : KE) : KE
  | .Call (.Name x _) [a] [] _ => gl z x b.nm && ((!b.calm || !z.hot) && (k a && noStar a))
  | _ => false
def cIsi (z : Zn) (ts : List Ty) (k : KE) : KE
  | .Call (.Name x _) [a, .Name y _] [] _ => gl z x "isinstance" && (k a && (noStar a && (match ts with
    | [t] => gl z y t.nm
    | _ => false)))
  | _ => false
def Me.nm : Me → String
  | .append => "append"
  | .pop0 => "pop"
  | .extend => "extend"
def cMe (m : Me) (es : Es) (ko : KE) (k : KEs) : KE
  | .Call (.Attribute o n ap) [] [] p => (decide (n = Str.ofString m.nm) && (ko o && (noCall o && (ap.endLine == p.line)))) && (match es with
    | .nil => true
    | _ => false)
  | .Call (.Attribute o n ap) (a :: as) [] p => (decide (n = Str.ofString m.nm) && (ko o && (noCall o && (ap.endLine == p.line)))) && (k (a :: as) && ((a :: as).all noStar && decide ((a :: as).length < 30)))
  | _ => false
abbrev KO := Option Expr → Bool
def cSl (ka : KE) (kl kh : KO) : KE
  | .Subscript a (.Slice l h none _) _ => ka a && (kl l && kh h)
  | _ => false
def cRev (ka : KE) : KE
  | .Subscript a (.Slice none none (some (.UnaryOp .USub (.Constant (.int i) _ _) _)) _) _ => ka a && decide (i = 1)
  | _ => false
def cErr (z : Zn) (i : Nat) (f : String) : KE
  | .Attribute (.Name y _) n _ => decide (z.cu = some i) && (vis z i y && decide (n = Str.ofString f))
  | _ => false

theorem ff {p : Prop} (h : false = true) : p := absurd h Bool.false_ne_true
section
variable (L : Lk X z T k c cu W) {a b d : E} {es : Es} {ka kb kd : KE} {ks : KEs} {e : Expr}
include L
theorem ok_var {i : Nat} (h : cVar z i e = true) : PE X e (tE (Rg.of X c cu W) (.var i)) := by
  cases e <;> first | exact ff h | skip
  rename_i x p
  obtain ⟨h1, h2, h3, h4⟩ := vis_ok L h
  exact e_var h1 h2 h3 h4
theorem ok_cst {dd : D} (h : cCst dd e = true) : PE X e (tE (Rg.of X c cu W) (.cst dd)) := by
  cases e <;> first | exact ff h | skip
  rename_i v kk p
  cases v <;> first | exact ff h | skip
  case int j =>
    have h := of_decide_eq_true (show decide (dd = .int j) = true from h)
    subst h
    exact e_val (dd := .int j) pe_int (fun _ _ => rfl) fun _ => rfl
  case bool j =>
    have h := of_decide_eq_true (show decide (dd = .bl j) = true from h)
    subst h
    exact e_val (dd := .bl j) pe_bl (fun _ _ => rfl) fun _ => rfl
  case none =>
    have h := of_decide_eq_true (show decide (dd = .non) = true from h)
    subst h
    exact e_val (dd := .non) pe_non (fun _ _ => rfl) fun _ => rfl
  case str t =>
    cases dd <;> first | exact ff h | skip
    rename_i s
    have h := of_decide_eq_true (show decide (t = sV s) = true from h)
    subst h
    exact e_val (dd := .str s) pe_str (fun _ _ => rfl) fun _ => rfl
theorem ok_glo {n : String} (h : cGlo T z n e = true) : PE X e (tE (Rg.of X c cu W) (.glo n)) := by
  cases e <;> first | exact ff h | skip
  rename_i x p
  have h : (gl z x n && T.glo.contains n) = true := h
  rw [Bool.and_eq_true] at h
  obtain ⟨h1, h2, h3, h4⟩ := gl_ok L h.1
  subst h1
  obtain ⟨dd, u, v, g1, g2, g3, g4⟩ := L.fx.glo n (by simpa using h.2)
  refine e_val (pe_glob h2 g2 g3 h3) g4 fun δ => ?_
  show opt (c.glo n) = _
  rw [g1]
  rfl
theorem bop_ok {op : Operator} {o : Op} (h : cBop op = some o) : OpR X (binaryOp op) (rD2 X.K (opD o)) := by
  cases op <;> first | (cases h; done) | skip
  all_goals cases h
  · exact bo_add
  · exact bo_sub
  · exact bo_mul
  · exact bo_mod
  · exact bo_pow
  · exact bo_band
  · exact bo_fdiv
theorem cmp_ok {op : CmpOp} {o : Op} (h : cCmp op = some o) : OpR X (compareOp op) (rD2 X.K (opD o)) := by
  have hu := L.un
  have hu0 : X.A.units < cLine := by omega
  cases op <;> cases h
  · exact co_eq hu
  · exact co_ne hu
  · exact co_lt hu0
  · exact co_le
  · exact co_gt
  · exact co_ge
  · exact co_is
  · exact co_isnot
  · exact co_in hu
  · exact co_notin hu
theorem cmp_is {op : CmpOp} {o : Op} (h : cCmp op = some o) : isCmp o = true := by
  cases op <;> cases h <;> rfl
theorem ix_ok {e : Expr} (h : plIx e = true) : PlainIx e := by
  cases e <;> first | exact ff h | exact fun _ _ => rfl
theorem ok_op {o : Op} (ha : ∀ e, ka e = true → PE X e (tE (Rg.of X c cu W) a)) (hb : ∀ e, kb e = true → PE X e (tE (Rg.of X c cu W) b)) (h : cOp o ka kb e = true) : PE X e (tE (Rg.of X c cu W) (.op o a b)) := by
  unfold cOp at h
  split at h
  · simp only [Bool.and_eq_true, decide_eq_true_eq] at h
    exact e_bop (bop_ok L h.1) (ha _ h.2.1) (hb _ h.2.2)
  · simp only [Bool.and_eq_true, decide_eq_true_eq] at h
    exact e_cmp (cmp_ok L h.1) (ha _ h.2.1) (hb _ h.2.2.1) h.2.2.2
  · simp only [Bool.and_eq_true, decide_eq_true_eq] at h
    obtain ⟨h1, h2, h3, h4⟩ := h
    subst h1
    exact e_ix (ha _ h2) (hb _ h3) (ix_ok L h4)
  · exact ff h
theorem ok_opT {o : Op} (ha : ∀ e, ka e = true → PE X e (tE (Rg.of X c cu W) a)) (hb : ∀ e, kb e = true → PE X e (tE (Rg.of X c cu W) b)) (h : cOpT o ka kb e = true) : PT X e (tT (Rg.of X c cu W) (.op o a b)) := by
  unfold cOpT at h
  split at h
  · simp only [Bool.and_eq_true, decide_eq_true_eq] at h
    exact t_cmp (cmp_is L h.1) (cmp_ok L h.1) (ha _ h.2.1) (hb _ h.2.2.1) h.2.2.2
  · rw [Bool.and_eq_true] at h
    exact t_plain (ok_op L ha hb h.2) h.1
theorem ok_neg (ha : ∀ e, ka e = true → PE X e (tE (Rg.of X c cu W) a)) (h : cNeg ka e = true) : PE X e (tE (Rg.of X c cu W) (.neg a)) := by
  unfold cNeg at h
  split at h
  · exact e_neg (ha _ h)
  · exact ff h
theorem ok_no (ha : ∀ e, ka e = true → PE X e (tE (Rg.of X c cu W) a)) (h : cNo ka e = true) : PE X e (tE (Rg.of X c cu W) (.no a)) := by
  unfold cNo at h
  split at h
  · exact e_not (ha _ h)
  · exact ff h
theorem ok_noT (ha : ∀ e, ka e = true → PT X e (tT (Rg.of X c cu W) a)) (h : cNo ka e = true) : PT X e (tT (Rg.of X c cu W) (.no a)) := by
  unfold cNo at h
  split at h
  · exact t_not (ha _ h)
  · exact ff h
theorem ok_and (ha : ∀ e, ka e = true → PE X e (tE (Rg.of X c cu W) a)) (hb : ∀ e, kb e = true → PE X e (tE (Rg.of X c cu W) b)) (h : cAnd ka kb e = true) : PE X e (tE (Rg.of X c cu W) (.and2 a b)) := by
  unfold cAnd at h
  split at h
  · rw [Bool.and_eq_true] at h
    exact e_and (ha _ h.1) (pe_one (hb _ h.2))
  · rw [Bool.and_eq_true] at h
    exact e_and (ha _ h.1) (hb _ h.2)
  · exact ff h
theorem ok_or (ha : ∀ e, ka e = true → PE X e (tE (Rg.of X c cu W) a)) (hb : ∀ e, kb e = true → PE X e (tE (Rg.of X c cu W) b)) (h : cOr ka kb e = true) : PE X e (tE (Rg.of X c cu W) (.or2 a b)) := by
  unfold cOr at h
  split at h
  · rw [Bool.and_eq_true] at h
    exact e_or (ha _ h.1) (pe_one (hb _ h.2))
  · rw [Bool.and_eq_true] at h
    exact e_or (ha _ h.1) (hb _ h.2)
  · exact ff h
theorem ok_chn {o o' : Op} (ha : ∀ e, ka e = true → PE X e (tE (Rg.of X c cu W) a)) (hb : ∀ e, kb e = true → PE X e (tE (Rg.of X c cu W) b)) (hd : ∀ e, kd e = true → PE X e (tE (Rg.of X c cu W) d)) (h : cChn o o' ka kb kd e = true) : PE X e (tE (Rg.of X c cu W) (.chn o o' a b d)) := by
  unfold cChn at h
  split at h
  · simp only [Bool.and_eq_true, decide_eq_true_eq] at h
    obtain ⟨h1, h2, h3, h4, h5, h6⟩ := h
    exact e_chain (cmp_is L h1) (cmp_ok L h1) (cmp_ok L h2) (ha _ h3) (hb _ h4) (hd _ h5) h6
  · exact ff h
theorem ok_chnT {o o' : Op} (ha : ∀ e, ka e = true → PE X e (tE (Rg.of X c cu W) a)) (hb : ∀ e, kb e = true → PE X e (tE (Rg.of X c cu W) b)) (hd : ∀ e, kd e = true → PE X e (tE (Rg.of X c cu W) d)) (h : cChn o o' ka kb kd e = true) : PT X e (tT (Rg.of X c cu W) (.chn o o' a b d)) := by
  unfold cChn at h
  split at h
  · simp only [Bool.and_eq_true, decide_eq_true_eq] at h
    obtain ⟨h1, h2, h3, h4, h5, h6⟩ := h
    exact t_chain (cmp_is L h1) (cmp_is L h2) (cmp_ok L h1) (cmp_ok L h2) (ha _ h3) (hb _ h4) (hd _ h5) h6
  · exact ff h
theorem ok_ite (hd : ∀ e, kd e = true → PT X e (tT (Rg.of X c cu W) d)) (ha : ∀ e, ka e = true → PE X e (tE (Rg.of X c cu W) a)) (hb : ∀ e, kb e = true → PE X e (tE (Rg.of X c cu W) b)) (h : cIte kd ka kb e = true) : PE X e (tE (Rg.of X c cu W) (.ite d a b)) := by
  unfold cIte at h
  split at h
  · simp only [Bool.and_eq_true] at h
    exact e_ite (hd _ h.1) (ha _ h.2.1) (hb _ h.2.2)
  · exact ff h
theorem ok_tup (hs : ∀ xs, ks xs = true → PA X xs (tA (Rg.of X c cu W) es)) (h : cTup es ks e = true) : PE X e (tE (Rg.of X c cu W) (.tup es)) := by
  unfold cTup at h
  split at h
  · rw [Bool.and_eq_true] at h
    exact e_tup (hs _ h.1) h.2
  · exact ff h
theorem ok_dic0 (h : cDic0 e = true) : PE X e (tE (Rg.of X c cu W) .dic0) := by
  unfold cDic0 at h
  split at h
  · exact e_dic0
  · exact ff h
theorem ok_call {f : String} (hs : ∀ xs, ks xs = true → PA X xs (tA (Rg.of X c cu W) es)) (h : cCall T z f es ks e = true) : PE X e (tE (Rg.of X c cu W) (.call f es)) := by
  unfold cCall at h
  split at h
  · simp only [Bool.and_eq_true, Bool.not_eq_true'] at h
    obtain ⟨⟨h0, h1, h2⟩, h3⟩ := h
    obtain ⟨g1, g2, g3, g4⟩ := gl_ok L h1
    subst g1
    obtain ⟨fa, fd, ps, f1, f2, f3, f4⟩ := L.fx.fn f (by simpa using h2)
    cases es with
    | nil => exact e_call0 f4 ((L.room h0).mono (Nat.le_succ _)) g2 f1 f2 f3 L.tk g3
    | cons _ _ => exact ff h3
  · simp only [Bool.and_eq_true, Bool.not_eq_true'] at h
    obtain ⟨⟨h0, h1, h2⟩, h3, h4⟩ := h
    obtain ⟨g1, g2, g3, g4⟩ := gl_ok L h1
    subst g1
    obtain ⟨fa, fd, ps, f1, f2, f3, f4⟩ := L.fx.fn f (by simpa using h2)
    rw [List.all_cons, Bool.and_eq_true] at h4
    exact e_call f4 ((L.room h0).mono (Nat.le_succ _)) g2 f1 f2 f3 L.tk (hs _ h3) g3 h4.1 h4.2
  · exact ff h
theorem calm_of {b : Bi} (h : (!b.calm || !z.hot) = true) (hb : b.calm = true) : X.calm = true := by
  rw [hb] at h
  exact L.calm (by simpa using h)
theorem ok_bi {bi : Bi} (hs : ∀ xs, ks xs = true → PA X xs (tA (Rg.of X c cu W) es)) (h : cBi z bi ks e = true) : PE X e (tE (Rg.of X c cu W) (.bi bi es)) := by
  unfold cBi at h
  split at h
  · simp only [Bool.and_eq_true] at h
    obtain ⟨h1, h2, h3, h4⟩ := h
    obtain ⟨g1, g2, g3, g4⟩ := gl_ok L h1
    subst g1
    have h4 := h4
    rw [List.all_cons, Bool.and_eq_true] at h4
    have hc := calm_of L (b := bi) h2
    cases bi
    · exact e_bi cb_len g2 (blt_ok L (by decide)) (by decide +kernel) (hs _ h3) g4 g3 h4.1 h4.2
    · exact e_biT cb_int g2 (blt_ok L (by decide)) (by decide +kernel) (hs _ h3) g4 g3 h4.1 h4.2
    · exact e_bi cb_abs g2 (blt_ok L (by decide)) (by decide +kernel) (hs _ h3) g4 g3 h4.1 h4.2
    · exact e_bi (cb_max2 (hc rfl)) g2 (blt_ok L (by decide)) (by decide +kernel) (hs _ h3) g4 g3 h4.1 h4.2
    · exact e_bi (cb_min2 (hc rfl)) g2 (blt_ok L (by decide)) (by decide +kernel) (hs _ h3) g4 g3 h4.1 h4.2
    · exact e_biT cb_tuple g2 (blt_ok L (by decide)) (by decide +kernel) (hs _ h3) g4 g3 h4.1 h4.2
    · exact e_biT cb_str g2 (blt_ok L (by decide)) (by decide +kernel) (hs _ h3) g4 g3 h4.1 h4.2
    · exact e_bi (cb_sum (hc rfl)) g2 (blt_ok L (by decide)) (by decide +kernel) (hs _ h3) g4 g3 h4.1 h4.2
    · exact e_bi (cb_min1 (hc rfl)) g2 (blt_ok L (by decide)) (by decide +kernel) (hs _ h3) g4 g3 h4.1 h4.2
    · exact e_bi (cb_max1 (hc rfl)) g2 (blt_ok L (by decide)) (by decide +kernel) (hs _ h3) g4 g3 h4.1 h4.2
    · exact e_biT cb_bool g2 (blt_ok L (by decide)) (by decide +kernel) (hs _ h3) g4 g3 h4.1 h4.2
  · exact ff h
theorem no_bif {bi : Bi} {f : F} (h : ∀ ds S, biF bi ds S = .bad) {e : Expr} {r : List V → Hp → VK → Prop} : CallR X (.builtin "len") (rFr X.K bi) := by
  rintro pins s σ H xs us Q I rr ⟨ρ, S, ds, a, ys, _, _, _, _, g⟩
  rw [h] at g
  exact (show False from g).elim
def Bi.fr : Bi → Bool
  | .len | .tuple | .sum | .min1 | .max1 => true
  | _ => false
theorem ok_bif {bi : Bi} {f : F} (hf : bi.fr = true) (hs : ∀ e, ka e = true → PE X e (tF (Rg.of X c cu W) f)) (h : cBif z bi ka e = true) : PE X e (tE (Rg.of X c cu W) (.bif bi f)) := by
  unfold cBif at h
  split at h
  · simp only [Bool.and_eq_true] at h
    obtain ⟨h1, h2, h3, h4⟩ := h
    obtain ⟨g1, g2, g3, g4⟩ := gl_ok L h1
    subst g1
    have hc := calm_of L (b := bi) h2
    cases bi <;> first | exact ff hf | skip
    · exact e_bif cf_len g2 (blt_ok L (by decide)) (by decide +kernel) (hs _ h3) g4 g3 h4
    · exact e_bifT cf_tuple g2 (blt_ok L (by decide)) (by decide +kernel) (hs _ h3) g4 g3 h4
    · exact e_bif (cf_sum (hc rfl)) g2 (blt_ok L (by decide)) (by decide +kernel) (hs _ h3) g4 g3 h4
    · exact e_bif (cf_min (hc rfl)) g2 (blt_ok L (by decide)) (by decide +kernel) (hs _ h3) g4 g3 h4
    · exact e_bif (cf_max (hc rfl)) g2 (blt_ok L (by decide)) (by decide +kernel) (hs _ h3) g4 g3 h4
  · exact ff h
theorem ty_b (t : Ty) : bNames.contains t.nm = true := by cases t <;> decide
theorem ty_v (t : Ty) : bootBuiltins (Str.ofString t.nm) = some (.type t.nm) := by cases t <;> decide +kernel
theorem ok_isi {ts : List Ty} (ha : ∀ e, ka e = true → PE X e (tE (Rg.of X c cu W) a)) (h : cIsi z ts ka e = true) : PE X e (tE (Rg.of X c cu W) (.isi a ts)) := by
  unfold cIsi at h
  split at h
  · simp only [Bool.and_eq_true] at h
    obtain ⟨h1, h2, h3, h4⟩ := h
    obtain ⟨g1, g2, g3, g4⟩ := gl_ok L h1
    subst g1
    match ts, h4 with
    | [t], h4 =>
      obtain ⟨k1, k2, k3, k4⟩ := gl_ok L h4
      subst k1
      exact e_isi1 g2 (blt_ok L (by decide)) k2 (blt_ok L (ty_b L t)) (ty_v L t) k4 k3 (ha _ h2) h3
    | [], h4 => exact ff h4
    | _ :: _ :: _, h4 => exact ff h4
  · exact ff h
theorem ok_me {m : Me} (ho : ∀ e, ka e = true → PE X e (tE (Rg.of X c cu W) a)) (hs : ∀ xs, ks xs = true → PA X xs (tA (Rg.of X c cu W) es)) (h : cMe m es ka ks e = true) : PE X e (tE (Rg.of X c cu W) (.me m a es)) := by
  unfold cMe at h
  split at h
  · simp only [Bool.and_eq_true, decide_eq_true_eq] at h
    obtain ⟨⟨h1, h2, h3, h4⟩, h5⟩ := h
    subst h1
    cases es with
    | cons _ _ => exact ff h5
    | nil =>
      cases m
      · exact e_me0 PySem.F.slot_list_append PySem.F.type_list_append cm_append (ho _ h2) h3 h4
      · exact e_me0 PySem.F.slot_list_pop PySem.F.type_list_pop cm_pop0 (ho _ h2) h3 h4
      · exact e_me0 PySem.F.slot_list_extend PySem.F.type_list_extend cm_extend (ho _ h2) h3 h4
  · simp only [Bool.and_eq_true, decide_eq_true_eq] at h
    obtain ⟨⟨h1, h2, h3, h4⟩, h5, h6, h7⟩ := h
    subst h1
    rw [List.all_cons, Bool.and_eq_true] at h6
    cases m
    · exact e_me PySem.F.slot_list_append PySem.F.type_list_append cm_append (ho _ h2) (hs _ h5) h3 h4 h6.1 h6.2 (decide_eq_true h7)
    · exact e_me PySem.F.slot_list_pop PySem.F.type_list_pop cm_pop0 (ho _ h2) (hs _ h5) h3 h4 h6.1 h6.2 (decide_eq_true h7)
    · exact e_me PySem.F.slot_list_extend PySem.F.type_list_extend cm_extend (ho _ h2) (hs _ h5) h3 h4 h6.1 h6.2 (decide_eq_true h7)
  · exact ff h
theorem ok_sl {lo hi : Eo} {kl kh : KO} (ha : ∀ e, ka e = true → PE X e (tE (Rg.of X c cu W) a)) (hl : ∀ e, kl e = true → PO X e (tO (Rg.of X c cu W) lo)) (hh : ∀ e, kh e = true → PO X e (tO (Rg.of X c cu W) hi)) (h : cSl ka kl kh e = true) : PE X e (tE (Rg.of X c cu W) (.sl a lo hi)) := by
  unfold cSl at h
  split at h
  · simp only [Bool.and_eq_true] at h
    exact e_sl (ha _ h.1) (hl _ h.2.1) (hh _ h.2.2)
  · exact ff h
theorem ok_rev (ha : ∀ e, ka e = true → PE X e (tE (Rg.of X c cu W) a)) (h : cRev ka e = true) : PE X e (tE (Rg.of X c cu W) (.rev a)) := by
  unfold cRev at h
  split at h
  · rw [Bool.and_eq_true, decide_eq_true_eq] at h
    obtain ⟨h1, h2⟩ := h
    subst h2
    exact e_rev (ha _ h1)
  · exact ff h
theorem ok_err {i : Nat} {f : String} (h : cErr z i f e = true) : PE X e (tE (Rg.of X c cu W) (.errA i f)) := by
  unfold cErr at h
  split at h
  · simp only [Bool.and_eq_true, decide_eq_true_eq] at h
    obtain ⟨h1, h2, h3⟩ := h
    obtain ⟨v1, v2, v3, v4⟩ := vis_ok L h2
    obtain ⟨X0, a0, cls, dd, oe, pn, x1, x2, x3, x4⟩ := L.hotX (by rw [h1]; exact fun q => by cases q)
    exact e_err x2 x3 x4 x1 h3 v1 v2 v3 v4
  · exact ff h
end
end
end Mi

set_option Elab.async false
set_option linter.all false
set_option maxRecDepth 100000
set_option maxHeartbeats 4000000
/-! Mi, 17: the check of expressions, and that it is right. -/
namespace Mi
open PySem PySem.Spec PyProof.Rows L2
def isBO : Expr → Bool
  | .BoolOp .. => true
  | _ => false
def cAndT (ka kb : KE) : KE
  | .BoolOp .And [a, b] _ => ka a && kb b
  | .BoolOp .And (a :: b :: r :: rs) p => ka a && kb (.BoolOp .And (b :: r :: rs) p)
  | _ => false
def cOrT (ka kb : KE) : KE
  | .BoolOp .Or [a, b] _ => ka a && kb b
  | .BoolOp .Or (a :: b :: r :: rs) p => ka a && kb (.BoolOp .Or (b :: r :: rs) p)
  | _ => false
def cLst (es : Es) (k : KEs) : KE
  | .List xs _ => k xs && decide (es.len ≤ 1000)
  | _ => false
def cList (z : Zn) (k : KE) : KE
  | .Call (.Name x _) [a] [] _ => gl z x "list" && (k a && noStar a)
  | _ => false
/-- the zone of a comprehension's block -/
def Zn.inn (z : Zn) (scope : Scope) : Zn := ⟨z.N, relS scope z.sc, none, false, some scope⟩
def ownP (z : Zn) (own : List Nat) : List (Str × Nat) := own.map fun i => ((z.N[i]?).getD "", i)
theorem ownP_ix (z : Zn) (own : List Nat) : (ownP z own).map (·.2) = own := by
  unfold ownP
  rw [List.map_map]
  exact List.map_id own
def cLc (z : Zn) (own sl : List Nat) (ke kt : Zn → KE) (ki : Expr → KE) (kc : Zn → KEs) : KE
  | .ListComp ea [⟨tg, ei, ifs, ia⟩] scope _ => !z.hot && (decide (ia = 0) && (blkC z.N z.sc scope (ownP z own) && (decide (∀ i ∈ sl, i ∈ own) && (noSet ei && (ki tg ei && (kt (z.inn scope) tg && (kc (z.inn scope) ifs && ke (z.inn scope) ea)))))))
  | _ => false
def cRng1 (z : Zn) (k : KE) : KE
  | .Call (.Name x _) [a] [] _ => gl z x "range" && (k a && noStar a)
  | _ => false
def cRng2 (z : Zn) (ka kb : KE) : KE
  | .Call (.Name x _) [a, b] [] _ => gl z x "range" && (ka a && (kb b && (noStar a && noStar b)))
  | _ => false
def cEnu (z : Zn) (k : KE) : KE
  | .Call (.Name x _) [a] [] _ => gl z x "enumerate" && (k a && noStar a)
  | _ => false
def cZ2 (z : Zn) (ka kb : KE) : KE
  | .Call (.Name x _) [a, b] [] _ => gl z x "zip" && (ka a && (kb b && (noStar a && noStar b)))
  | _ => false
def cZ3 (z : Zn) (ka kb kd : KE) : KE
  | .Call (.Name x _) [a, b, d] [] _ => gl z x "zip" && (ka a && (kb b && (kd d && (noStar a && (noStar b && noStar d)))))
  | _ => false
def isTp : Expr → Bool
  | .Tuple .. => true
  | _ => false
def cNm (z : Zn) (i : Nat) : KE
  | .Name x _ => lcl z i x
  | _ => false
def cTgT (z : Zn) (n : Nat) (k : KEs) : KE
  | .Tuple xs _ _ => !z.hot && (k xs && (xs.all noStar && decide (xs.length = n)))
  | _ => false
def cCons (k : KE) (ks : KEs) : KEs
  | x :: xs => noStar x && (k x && ks xs)
  | [] => false
def pl (k : KE) : KE × KE := (k, fun e => plainT e && k e)
mutual
def ch2 (T : Tab) : E → Zn → KE × KE
  | .var i, z => pl (cVar z i)
  | .cst d, z => pl (cCst d)
  | .glo n, z => pl (cGlo T z n)
  | .tup es, z => pl (cTup es (chEs T es z))
  | .fre f, z => pl (chF T f z)
  | .dic0, z => pl cDic0
  | .op o a b, z => (cOp o (ch2 T a z).1 (ch2 T b z).1, cOpT o (ch2 T a z).1 (ch2 T b z).1)
  | .neg a, z => pl (cNeg (ch2 T a z).1)
  | .no a, z => (cNo (ch2 T a z).1, cNo (ch2 T a z).2)
  | .and2 a b, z => (cAnd (ch2 T a z).1 (ch2 T b z).1, cAndT (ch2 T a z).2 (ch2 T b z).2)
  | .or2 a b, z => (cOr (ch2 T a z).1 (ch2 T b z).1, cOrT (ch2 T a z).2 (ch2 T b z).2)
  | .chn o p a b d, z => (cChn o p (ch2 T a z).1 (ch2 T b z).1 (ch2 T d z).1, cChn o p (ch2 T a z).1 (ch2 T b z).1 (ch2 T d z).1)
  | .ite t a b, z => (cIte (ch2 T t z).2 (ch2 T a z).1 (ch2 T b z).1, fun _ => false)
  | .call f es, z => pl (cCall T z f es (chEs T es z))
  | .bi b es, z => pl (cBi z b (chEs T es z))
  | .bif b f, z => pl fun e => b.fr && cBif z b (chF T f z) e
  | .isi a ts, z => pl (cIsi z ts (ch2 T a z).1)
  | .me m o es, z => pl (cMe m es (ch2 T o z).1 (chEs T es z))
  | .sl a lo hi, z => pl (cSl (ch2 T a z).1 (chO T lo z) (chO T hi z))
  | .rev a, z => pl (cRev (ch2 T a z).1)
  | .errA i f, z => pl (cErr z i f)
  | .errI _ _, _ => (fun _ => false, fun _ => false)
def chEs (T : Tab) : Es → Zn → KEs
  | .nil, _ => List.isEmpty
  | .cons a es, z => cCons (ch2 T a z).1 (chEs T es z)
def chO (T : Tab) : Eo → Zn → KO
  | .non, _ => fun o => o.isNone
  | .som e, z => fun o => match o with
    | some x => (ch2 T e z).1 x
    | none => false
def chF (T : Tab) : F → Zn → KE
  | .lst es, z => cLst es (chEs T es z)
  | .lc own elt tg it ifs, z => cLc z own tg.sl (fun z => (ch2 T elt z).1) (fun z => chTg tg z) (chI T it z) (fun z => chC T ifs z)
  | .list a, z => cList z (ch2 T a z).1
def chI (T : Tab) : It → Zn → Expr → KE
  | .e a, z => fun _ => (ch2 T a z).1
  | .f f, z => fun _ => chF T f z
  | .rng1 a, z => fun _ => cRng1 z (ch2 T a z).1
  | .rng2 a b, z => fun _ => cRng2 z (ch2 T a z).1 (ch2 T b z).1
  | .enu a, z => fun tg e => isTp tg && cEnu z (ch2 T a z).1 e
  | .zip2 a b, z => fun tg e => isTp tg && cZ2 z (ch2 T a z).1 (ch2 T b z).1 e
  | .zip3 a b d, z => fun tg e => isTp tg && cZ3 z (ch2 T a z).1 (ch2 T b z).1 (ch2 T d z).1 e
def chC (T : Tab) : Es → Zn → KEs
  | .nil, _ => List.isEmpty
  | .cons a es, z => fun xs => (match es with
    | .nil => true
    | _ => false) && (match xs with
    | [x] => (ch2 T a z).2 x
    | _ => false)
def chTg : Tg → Zn → KE
  | .nm i, z => cNm z i
  | .tup ts, z => cTgT z ts.len (chTgs ts z)
def chTgs : Tgs → Zn → KEs
  | .nil, _ => List.isEmpty
  | .cons t ts, z => cCons (chTg t z) (chTgs ts z)
end
section
variable {X : Cx} {z : Zn} {T : Tab} {k : Nat} {c : Ctx} {cu : Option (Addr × Value × Option Addr)} {W : WX}
/-- what is to be shown of a tree -/
def OkE (X : Cx) (z : Zn) (T : Tab) (c : Ctx) (cu : Option (Addr × Value × Option Addr)) (W : WX) (a : E) : Prop := ∀ e, ((ch2 T a z).1 e = true → PE X e (tE (Rg.of X c cu W) a)) ∧ ((ch2 T a z).2 e = true → PT X e (tT (Rg.of X c cu W) a) ∧ (isBO e = true → PW X e (tT (Rg.of X c cu W) a)))
theorem ok_pl {a : E} {kk : KE} (hk : ch2 T a z = pl kk) (h : ∀ e, kk e = true → PE X e (tE (Rg.of X c cu W) a)) : OkE X z T c cu W a := fun e => by
  rw [hk]
  refine ⟨h e, fun q => ?_⟩
  have q : (plainT e && kk e) = true := q
  rw [Bool.and_eq_true] at q
  refine ⟨t_plain (h e q.2) q.1, fun b => ?_⟩
  cases e <;> first | exact ff b | exact ff q.1
theorem nb {e : Expr} {p : Prop} (h : isBO e = true) (n : isBO e = false) : p := by
  rw [n] at h
  exact ff h
section
variable (L : Lk X z T k c cu W)
include L
theorem ok_andT {a b : E} {ka kb : KE} (ha : ∀ e, ka e = true → PT X e (tT (Rg.of X c cu W) a)) (hb : ∀ e, kb e = true → PT X e (tT (Rg.of X c cu W) b) ∧ (isBO e = true → PW X e (tT (Rg.of X c cu W) b))) {e : Expr} (h : cAndT ka kb e = true) : PW X e (tT (Rg.of X c cu W) (.and2 a b)) := by
  unfold cAndT at h
  split at h
  · rw [Bool.and_eq_true] at h
    exact w_and (ha _ h.1) (pw_and1 (hb _ h.2).1)
  · rw [Bool.and_eq_true] at h
    exact w_and (ha _ h.1) ((hb _ h.2).2 rfl)
  · exact ff h
theorem ok_orT {a b : E} {ka kb : KE} (ha : ∀ e, ka e = true → PT X e (tT (Rg.of X c cu W) a)) (hb : ∀ e, kb e = true → PT X e (tT (Rg.of X c cu W) b) ∧ (isBO e = true → PW X e (tT (Rg.of X c cu W) b))) {e : Expr} (h : cOrT ka kb e = true) : PW X e (tT (Rg.of X c cu W) (.or2 a b)) := by
  unfold cOrT at h
  split at h
  · rw [Bool.and_eq_true] at h
    exact w_or (ha _ h.1) (pw_or1 (hb _ h.2).1)
  · rw [Bool.and_eq_true] at h
    exact w_or (ha _ h.1) ((hb _ h.2).2 rfl)
  · exact ff h
theorem ok_lst {es : Es} {ks : KEs} {e : Expr} (hs : ∀ xs, ks xs = true → PA X xs (tA (Rg.of X c cu W) es)) (h : cLst es ks e = true) : PE X e (tF (Rg.of X c cu W) (.lst es)) := by
  unfold cLst at h
  split at h
  · rw [Bool.and_eq_true] at h
    exact f_lst (hs _ h.1) h.2
  · exact ff h
theorem ok_list {a : E} {ka : KE} {e : Expr} (ha : ∀ e, ka e = true → PE X e (tE (Rg.of X c cu W) a)) (h : cList z ka e = true) : PE X e (tF (Rg.of X c cu W) (.list a)) := by
  unfold cList at h
  split at h
  · simp only [Bool.and_eq_true] at h
    obtain ⟨g1, g2, g3, g4⟩ := gl_ok L h.1
    subst g1
    exact f_list g2 (blt_ok L (by decide)) (ha _ h.2.1) h.2.2
  · exact ff h
theorem Lk.inn (hh : z.hot = false) {scope : Scope} {own : List (Str × Nat)} (ok : BlkOk X.N X.env.scope scope own) (s : Shared) (H : Hp) (C : Addr) (cl : List (Str × Addr)) (fp : List Addr) :
    Lk (X.blk s H scope (compEnvC scope cl C X.env) fp) (z.inn scope) T k c cu noW where
  fx := L.fx
  N := L.N
  nd := L.nd
  sc := by
    show relabel scope X.env = relS scope z.sc
    rw [← L.sc]
    rfl
  fk := ok.kind
  un := L.un
  calm := fun _ => L.calm hh
  cold := fun _ => L.cold hh
  room := fun _ => L.room hh
  tk := takes_none5
  po := fun _ h => by cases h
  stk := fun h => by cases h
  fn := fun x => rfl
  curS := fun i x e => by rw [L.cold hh] at e; cases e
  hotX := fun h => absurd rfl h
theorem ok_rng1 {a : E} {ka : KE} {tg e : Expr} (ha : ∀ e, ka e = true → PE X e (tE (Rg.of X c cu W) a)) (h : cRng1 z ka e = true) : PI X tg e (tI (Rg.of X c cu W) (.rng1 a)) := by
  unfold cRng1 at h
  split at h
  · simp only [Bool.and_eq_true] at h
    obtain ⟨g1, g2, g3, g4⟩ := gl_ok L h.1
    subst g1
    exact i_rng1 g2 (blt_ok L (by decide)) (ha _ h.2.1) h.2.2
  · exact ff h
theorem ok_rng2 {a b : E} {ka kb : KE} {tg e : Expr} (ha : ∀ e, ka e = true → PE X e (tE (Rg.of X c cu W) a)) (hb : ∀ e, kb e = true → PE X e (tE (Rg.of X c cu W) b)) (h : cRng2 z ka kb e = true) : PI X tg e (tI (Rg.of X c cu W) (.rng2 a b)) := by
  unfold cRng2 at h
  split at h
  · simp only [Bool.and_eq_true] at h
    obtain ⟨g1, g2, g3, g4⟩ := gl_ok L h.1
    subst g1
    exact i_rng2 g2 (blt_ok L (by decide)) (ha _ h.2.1) (hb _ h.2.2.1) h.2.2.2.1 h.2.2.2.2
  · exact ff h
theorem ok_enu {a : E} {ka : KE} {tg e : Expr} (ht : isTp tg = true) (ha : ∀ e, ka e = true → PE X e (tE (Rg.of X c cu W) a)) (h : cEnu z ka e = true) : PI X tg e (tI (Rg.of X c cu W) (.enu a)) := by
  cases tg <;> first | exact ff ht | skip
  unfold cEnu at h
  split at h
  · simp only [Bool.and_eq_true] at h
    obtain ⟨g1, g2, g3, g4⟩ := gl_ok L h.1
    subst g1
    exact i_enu g2 (blt_ok L (by decide)) (ha _ h.2.1) h.2.2
  · exact ff h
theorem ok_z2 {a b : E} {ka kb : KE} {tg e : Expr} (ht : isTp tg = true) (ha : ∀ e, ka e = true → PE X e (tE (Rg.of X c cu W) a)) (hb : ∀ e, kb e = true → PE X e (tE (Rg.of X c cu W) b)) (h : cZ2 z ka kb e = true) : PI X tg e (tI (Rg.of X c cu W) (.zip2 a b)) := by
  cases tg <;> first | exact ff ht | skip
  unfold cZ2 at h
  split at h
  · simp only [Bool.and_eq_true] at h
    obtain ⟨g1, g2, g3, g4⟩ := gl_ok L h.1
    subst g1
    exact i_z2 g2 (blt_ok L (by decide)) (ha _ h.2.1) (hb _ h.2.2.1) h.2.2.2.1 h.2.2.2.2
  · exact ff h
theorem ok_z3 {a b d : E} {ka kb kd : KE} {tg e : Expr} (ht : isTp tg = true) (ha : ∀ e, ka e = true → PE X e (tE (Rg.of X c cu W) a)) (hb : ∀ e, kb e = true → PE X e (tE (Rg.of X c cu W) b)) (hd : ∀ e, kd e = true → PE X e (tE (Rg.of X c cu W) d)) (h : cZ3 z ka kb kd e = true) : PI X tg e (tI (Rg.of X c cu W) (.zip3 a b d)) := by
  cases tg <;> first | exact ff ht | skip
  unfold cZ3 at h
  split at h
  · simp only [Bool.and_eq_true] at h
    obtain ⟨g1, g2, g3, g4⟩ := gl_ok L h.1
    subst g1
    exact i_z3 g2 (blt_ok L (by decide)) (ha _ h.2.1) (hb _ h.2.2.1) (hd _ h.2.2.2.1) h.2.2.2.2.1 h.2.2.2.2.2.1 h.2.2.2.2.2.2
  · exact ff h
theorem ok_nm {i : Nat} {e : Expr} (h : cNm z i e = true) : PG X e (tG (Rg.of X c cu W) (.nm i)) := by
  unfold cNm at h
  split at h
  · obtain ⟨h1, h2, h3, h4⟩ := lcl_ok L h
    exact g_nm L.nd h1 h2 h3 h4
  · exact ff h
theorem ok_tgT {ts : Tgs} {ks : KEs} {e : Expr} (hs : ∀ xs, ks xs = true → PGs X xs (tGs (Rg.of X c cu W) ts)) (h : cTgT z ts.len ks e = true) : PG X e (tG (Rg.of X c cu W) (.tup ts)) := by
  unfold cTgT at h
  split at h
  · simp only [Bool.and_eq_true, Bool.not_eq_true', decide_eq_true_eq] at h
    exact g_tup (L.calm h.1) (hs _ h.2.1) h.2.2.1 h.2.2.2
  · exact ff h
theorem ok_lc {own : List Nat} {elt : E} {tg : Tg} {it : It} {ifs : Es} {ke kt : Zn → KE} {ki : Expr → KE} {kc : Zn → KEs} {e : Expr} (hi : ∀ t e, ki t e = true → PI X t e (tI (Rg.of X c cu W) it))
    (he : ∀ {X' : Cx} {z' : Zn} {W' : WX}, Lk X' z' T k c cu W' → ∀ e, ke z' e = true → PE X' e (tE (Rg.of X' c cu W') elt))
    (hg : ∀ {X' : Cx} {z' : Zn} {W' : WX}, Lk X' z' T k c cu W' → ∀ e, kt z' e = true → PG X' e (tG (Rg.of X' c cu W') tg))
    (hc : ∀ {X' : Cx} {z' : Zn} {W' : WX}, Lk X' z' T k c cu W' → ∀ e, kc z' e = true → PTs X' e (tC1 (Rg.of X' c cu W') ifs)) (h : cLc z own tg.sl ke kt ki kc e = true) : PE X e (tF (Rg.of X c cu W) (.lc own elt tg it ifs)) := by
  unfold cLc at h
  split at h
  · rename_i ea tg0 ei ifs0 ia scope0 pos0
    simp only [Bool.and_eq_true, Bool.not_eq_true', decide_eq_true_eq] at h
    obtain ⟨h1, h2, h3, h4, h5, h6, h7, h8, h9⟩ := h
    subst h2
    have ok : BlkOk X.N X.env.scope scope0 (ownP z own) := by
      rw [L.N, L.sc]
      exact blkOk_by h3
    have q := f_lc (own := ownP z own) (pos := pos0) (L.calm h1) (L.cold h1) L.nd (hi _ _ h6) ok (by rw [ownP_ix]; exact h4)
      (fun s H C cl fp => hg (L.inn h1 ok s H C cl fp) _ h7) (fun s H C cl fp => hc (L.inn h1 ok s H C cl fp) _ h8) (fun s H C cl fp => he (L.inn h1 ok s H C cl fp) _ h9) h5
    rw [ownP_ix] at q
    exact q
  · exact ff h
end
end
/-! ### all of them -/
theorem hE {X : Cx} {z : Zn} {T : Tab} {c : Ctx} {cu : Option (Addr × Value × Option Addr)} {W : WX} {a : E} (h : OkE X z T c cu W a) : ∀ e, (ch2 T a z).1 e = true → PE X e (tE (Rg.of X c cu W) a) := fun e => (h e).1
theorem hT {X : Cx} {z : Zn} {T : Tab} {c : Ctx} {cu : Option (Addr × Value × Option Addr)} {W : WX} {a : E} (h : OkE X z T c cu W a) : ∀ e, (ch2 T a z).2 e = true → PT X e (tT (Rg.of X c cu W) a) := fun e q => ((h e).2 q).1
mutual
theorem okE {T : Tab} {k : Nat} {c : Ctx} {cu : Option (Addr × Value × Option Addr)} : ∀ (a : E) {X : Cx} {z : Zn} {W : WX}, Lk X z T k c cu W → OkE X z T c cu W a
  | .var i, X, z, W, L => ok_pl rfl fun e h => ok_var L h
  | .cst d, X, z, W, L => ok_pl rfl fun e h => ok_cst L h
  | .glo n, X, z, W, L => ok_pl rfl fun e h => ok_glo L h
  | .tup es, X, z, W, L => ok_pl rfl fun e h => ok_tup L (okEs es L) h
  | .fre f, X, z, W, L => ok_pl rfl fun e h => e_fre (okF f L e h)
  | .dic0, X, z, W, L => ok_pl rfl fun e h => ok_dic0 L h
  | .op o a b, X, z, W, L => fun e => ⟨fun h => ok_op L (hE (okE a L)) (hE (okE b L)) h, fun h => ⟨ok_opT L (hE (okE a L)) (hE (okE b L)) h, fun q => by
    cases e <;> first | exact ff q | exact ff h⟩⟩
  | .neg a, X, z, W, L => ok_pl rfl fun e h => ok_neg L (hE (okE a L)) h
  | .no a, X, z, W, L => fun e => ⟨fun h => ok_no L (hE (okE a L)) h, fun h => ⟨ok_noT L (hT (okE a L)) h, fun q => by
    cases e <;> first | exact ff q | exact ff h⟩⟩
  | .and2 a b, X, z, W, L => fun e => ⟨fun h => ok_and L (hE (okE a L)) (hE (okE b L)) h, fun h => by
    have w := ok_andT L (hT (okE a L)) (fun e q => (okE b L e).2 q) h
    exact ⟨w.pt, fun _ => w⟩⟩
  | .or2 a b, X, z, W, L => fun e => ⟨fun h => ok_or L (hE (okE a L)) (hE (okE b L)) h, fun h => by
    have w := ok_orT L (hT (okE a L)) (fun e q => (okE b L e).2 q) h
    exact ⟨w.pt, fun _ => w⟩⟩
  | .chn o p a b d, X, z, W, L => fun e => ⟨fun h => ok_chn L (hE (okE a L)) (hE (okE b L)) (hE (okE d L)) h, fun h => ⟨ok_chnT L (hE (okE a L)) (hE (okE b L)) (hE (okE d L)) h, fun q => by
    cases e <;> first | exact ff q | exact ff h⟩⟩
  | .ite t a b, X, z, W, L => fun e => ⟨fun h => ok_ite L (hT (okE t L)) (hE (okE a L)) (hE (okE b L)) h, fun h => ff h⟩
  | .call f es, X, z, W, L => ok_pl rfl fun e h => ok_call L (okEs es L) h
  | .bi b es, X, z, W, L => ok_pl rfl fun e h => ok_bi L (okEs es L) h
  | .bif b f, X, z, W, L => ok_pl rfl fun e h => by
    have h : (b.fr && cBif z b (chF T f z) e) = true := h
    rw [Bool.and_eq_true] at h
    exact ok_bif L h.1 (okF f L) h.2
  | .isi a ts, X, z, W, L => ok_pl rfl fun e h => ok_isi L (hE (okE a L)) h
  | .me m o es, X, z, W, L => ok_pl rfl fun e h => ok_me L (hE (okE o L)) (okEs es L) h
  | .sl a lo hi, X, z, W, L => ok_pl rfl fun e h => ok_sl L (hE (okE a L)) (okO lo L) (okO hi L) h
  | .rev a, X, z, W, L => ok_pl rfl fun e h => ok_rev L (hE (okE a L)) h
  | .errA i f, X, z, W, L => ok_pl rfl fun e h => ok_err L h
  | .errI _ _, X, z, W, L => fun e => ⟨fun h => ff h, fun h => ff h⟩
theorem okEs {T : Tab} {k : Nat} {c : Ctx} {cu : Option (Addr × Value × Option Addr)} : ∀ (es : Es) {X : Cx} {z : Zn} {W : WX}, Lk X z T k c cu W → ∀ xs, chEs T es z xs = true → PA X xs (tA (Rg.of X c cu W) es)
  | .nil, X, z, W, L, [], h => a_nil
  | .nil, X, z, W, L, _ :: _, h => ff h
  | .cons a es, X, z, W, L, [], h => ff h
  | .cons a es, X, z, W, L, x :: xs, h => by
    have h : (noStar x && ((ch2 T a z).1 x && chEs T es z xs)) = true := h
    simp only [Bool.and_eq_true] at h
    exact a_cons h.1 ((okE a L x).1 h.2.1) (okEs es L xs h.2.2)
theorem okO {T : Tab} {k : Nat} {c : Ctx} {cu : Option (Addr × Value × Option Addr)} : ∀ (o : Eo) {X : Cx} {z : Zn} {W : WX}, Lk X z T k c cu W → ∀ x, chO T o z x = true → PO X x (tO (Rg.of X c cu W) o)
  | .non, X, z, W, L, none, h => o_non
  | .non, X, z, W, L, some _, h => ff h
  | .som a, X, z, W, L, none, h => ff h
  | .som a, X, z, W, L, some x, h => o_som ((okE a L x).1 h)
theorem okF {T : Tab} {k : Nat} {c : Ctx} {cu : Option (Addr × Value × Option Addr)} : ∀ (f : F) {X : Cx} {z : Zn} {W : WX}, Lk X z T k c cu W → ∀ e, chF T f z e = true → PE X e (tF (Rg.of X c cu W) f)
  | .lst es, X, z, W, L, e, h => ok_lst L (okEs es L) h
  | .lc own elt tg it ifs, X, z, W, L, e, h => ok_lc L (okI it L) (fun L' e q => (okE elt L' e).1 q) (fun L' e q => okTg tg L' e q) (fun L' e q => okC ifs L' e q) h
  | .list a, X, z, W, L, e, h => ok_list L (hE (okE a L)) h
theorem okI {T : Tab} {k : Nat} {c : Ctx} {cu : Option (Addr × Value × Option Addr)} : ∀ (it : It) {X : Cx} {z : Zn} {W : WX}, Lk X z T k c cu W → ∀ tg e, chI T it z tg e = true → PI X tg e (tI (Rg.of X c cu W) it)
  | .e a, X, z, W, L, tg, e, h => i_e ((okE a L e).1 h)
  | .f f, X, z, W, L, tg, e, h => i_f (okF f L e h)
  | .rng1 a, X, z, W, L, tg, e, h => ok_rng1 L (hE (okE a L)) h
  | .rng2 a b, X, z, W, L, tg, e, h => ok_rng2 L (hE (okE a L)) (hE (okE b L)) h
  | .enu a, X, z, W, L, tg, e, h => by
    have h : (isTp tg && cEnu z (ch2 T a z).1 e) = true := h
    rw [Bool.and_eq_true] at h
    exact ok_enu L h.1 (hE (okE a L)) h.2
  | .zip2 a b, X, z, W, L, tg, e, h => by
    have h : (isTp tg && cZ2 z (ch2 T a z).1 (ch2 T b z).1 e) = true := h
    rw [Bool.and_eq_true] at h
    exact ok_z2 L h.1 (hE (okE a L)) (hE (okE b L)) h.2
  | .zip3 a b d, X, z, W, L, tg, e, h => by
    have h : (isTp tg && cZ3 z (ch2 T a z).1 (ch2 T b z).1 (ch2 T d z).1 e) = true := h
    rw [Bool.and_eq_true] at h
    exact ok_z3 L h.1 (hE (okE a L)) (hE (okE b L)) (hE (okE d L)) h.2
theorem okC {T : Tab} {k : Nat} {c : Ctx} {cu : Option (Addr × Value × Option Addr)} : ∀ (es : Es) {X : Cx} {z : Zn} {W : WX}, Lk X z T k c cu W → ∀ xs, chC T es z xs = true → PTs X xs (tC1 (Rg.of X c cu W) es)
  | .nil, X, z, W, L, [], h => c_nil
  | .nil, X, z, W, L, _ :: _, h => ff h
  | .cons a .nil, X, z, W, L, [x], h => c_one ((okE a L x).2 h).1
  | .cons a .nil, X, z, W, L, [], h => ff h
  | .cons a .nil, X, z, W, L, _ :: _ :: _, h => ff h
  | .cons a (.cons _ _), X, z, W, L, _, h => ff h
theorem okTg {T : Tab} {k : Nat} {c : Ctx} {cu : Option (Addr × Value × Option Addr)} : ∀ (t : Tg) {X : Cx} {z : Zn} {W : WX}, Lk X z T k c cu W → ∀ e, chTg t z e = true → PG X e (tG (Rg.of X c cu W) t)
  | .nm i, X, z, W, L, e, h => ok_nm L h
  | .tup ts, X, z, W, L, e, h => ok_tgT L (okTgs ts L) h
theorem okTgs {T : Tab} {k : Nat} {c : Ctx} {cu : Option (Addr × Value × Option Addr)} : ∀ (ts : Tgs) {X : Cx} {z : Zn} {W : WX}, Lk X z T k c cu W → ∀ xs, chTgs ts z xs = true → PGs X xs (tGs (Rg.of X c cu W) ts)
  | .nil, X, z, W, L, [], h => gs_nil
  | .nil, X, z, W, L, _ :: _, h => ff h
  | .cons t ts, X, z, W, L, [], h => ff h
  | .cons t ts, X, z, W, L, x :: xs, h => by
    have h : (noStar x && (chTg t z x && chTgs ts z xs)) = true := h
    simp only [Bool.and_eq_true] at h
    exact gs_cons h.1 (okTg t L x h.2.1) (okTgs ts L xs h.2.2)
end
end Mi

set_option Elab.async false
set_option linter.all false
set_option maxRecDepth 100000
set_option maxHeartbeats 4000000
/-! Mi, 18: the check of statements, and that it is right. -/
namespace Mi
open PySem PySem.Spec PyProof.Rows L2
abbrev KS := Stmt → Bool
abbrev KSs := List Stmt → Bool
def cSw (z : Zn) (y : Str) (py : Pos) : Expr → Bool
  | .ListComp _ _ s p => decide (z.sc.names.lookup y = some .local) && ((py.line == p.line) && !(s.names.any fun q => q.1 == y && (q.2 == .local || q.2 == .cell)))
  | _ => false
def noSD : Expr → Bool
  | .SetComp .. => false
  | .DictComp .. => false
  | _ => true
/-- name = [..], the block's value stored at once -/
def isLcE : E → Bool
  | .fre (.lc _ _ _ _ _) => true
  | _ => false
theorem isLc_of {a : E} (h : isLcE a = true) : ∃ own elt tg it ifs, a = .fre (.lc own elt tg it ifs) := by
  unfold isLcE at h
  split at h
  · exact ⟨_, _, _, _, _, rfl⟩
  · exact absurd h Bool.false_ne_true
def cAsg (z : Zn) (t : Tg) (a : E) (ka kt : KE) : KS
  | .Assign [.Name y py] e _ => (match t with
    | .nm i => lcl z i y && (ka e && (noSD e && (!cSw z y py e || isLcE a)))
    | _ => false)
  | .Assign [tg] e _ => ka e && (kt tg && (noComp e && ((noTup tg || noTup e) && noStar tg)))
  | _ => false
def cSub (ko ki ka : KE) : KS
  | .Assign [.Subscript o i _] e _ => ko o && (ki i && (ka e && (noComp e && noSlice i)))
  | _ => false
def cAug (z : Zn) (i : Nat) (o : Op) (ka : KE) : KS
  | .AugAssign (.Name x _) .Add e _ => decide (o = .add) && (lcl z i x && ka e)
  | .AugAssign (.Name x _) .Sub e _ => decide (o = .sub) && (lcl z i x && ka e)
  | _ => false
def cExp (ka : KE) : KS
  | .Expr e _ => ka e && noComp e
  | _ => false
def cRet (a : E) (ka : KE) : KS
  | .Return (some e) _ => ka e
  | .Return none _ => (match a with
    | .cst .non => true
    | _ => false)
  | _ => false
def cIf (kt : KE) (ku kv : KSs) : KS
  | .If e u v _ => kt e && (ku u && kv v)
  | _ => false
def cFor (z : Zn) (ki : Expr → KE) (kt : KE) (kb : KSs) : KS
  | .For tg e bd [] _ => !z.hot && (ki tg e && (kt tg && (kb bd && noSet e)))
  | _ => false
def cWhile (z : Zn) (kt : KE) (kb : KSs) : KS
  | .While e bd [] _ => !z.hot && (kt e && kb bd)
  | _ => false
def cBrk : KS
  | .Break _ => true
  | _ => false
def cCont : KS
  | .Continue _ => true
  | _ => false
def cPass : KS
  | .Pass _ => true
  | .Expr (.Constant (.str _) _ _) _ => true
  | _ => false
def cRais (T : Tab) (z : Zn) (nm : String) (es : Es) (ks : KEs) : KS
  | .Raise (some (.Call (.Name x _) (a :: as) [] _)) none _ => !z.hot && (gl z x nm && (T.exs.contains nm && (ks (a :: as) && ((a :: as).all noStar && decide (es.len ≤ 1000)))))
  | _ => false
def cTry (z : Zn) (kb : KSs) (kh : List ExceptHandler → Bool) : KS
  | .Try bd (h0 :: hs) [] [] _ => !z.hot && (kb bd && kh (h0 :: hs))
  | _ => false
def cH (T : Tab) (z : Zn) (nm : String) (i : Option Nat) (kb : KSs) (kr : List ExceptHandler → Bool) : List ExceptHandler → Bool
  | .ExceptHandler (some (.Name y _)) n (b0 :: bs) _ :: r => gl z y nm && (T.cat.contains nm && ((match i, n with
    | none, none => true
    | some i, some n => decide (z.N[i]? = some n) && decide (z.sc.names.lookup n = some .local)
    | _, _ => false) && (kb (b0 :: bs) && kr r)))
  | _ => false
def cSs (k : KS) (ks : KSs) : KSs
  | s :: ss => k s && ks ss
  | [] => false
mutual
def chS (T : Tab) : St → Zn → KS
  | .asg t a, z => cAsg z t a (ch2 T a z).1 (chTg t z)
  | .sub o i a, z => cSub (ch2 T o z).1 (ch2 T i z).1 (ch2 T a z).1
  | .aug i o a, z => cAug z i o (ch2 T a z).1
  | .exp a, z => cExp (ch2 T a z).1
  | .ret a, z => cRet a (ch2 T a z).1
  | .if_ t a b, z => cIf (ch2 T t z).2 (chSs T a z) (chSs T b z)
  | .for_ t it b, z => cFor z (chI T it z) (chTg t z) (chSs T b z)
  | .while_ t b, z => cWhile z (ch2 T t z).2 (chSs T b z)
  | .brk, _ => cBrk
  | .cont, _ => cCont
  | .pass, _ => cPass
  | .rais nm es, z => cRais T z nm es (chEs T es z)
  | .try_ b hs, z => cTry z (chSs T b z) (chHs T hs z)
def chSs (T : Tab) : Ss → Zn → KSs
  | .nil, _ => List.isEmpty
  | .cons s ss, z => cSs (chS T s z) (chSs T ss z)
def chHs (T : Tab) : Hs → Zn → List ExceptHandler → Bool
  | .nil, _ => List.isEmpty
  | .cons nm i b hs, z => cH T z nm i (chSs T b ⟨z.N, z.sc, i, true, z.blk⟩) (chHs T hs z)
end
section
variable {X : Cx} {z : Zn} {T : Tab} {k : Nat} {c : Ctx} {cu : Option (Addr × Value × Option Addr)} {W : WX}
theorem swap_eq {ea : Expr} {gs : List Comprehension} {s : Scope} {p py : Pos} {y : Str} {l : Nat} {env : PySem.Env} (hk : env.scope.kind = .function) :
    swapsWith (.ListComp ea gs s p) (some (.Name y py)) l env = pure (env.kindOf y == some .local && py.line == p.line && !(s.names.any fun q => q.1 == y && (q.2 == .local || q.2 == .cell))) := by
  have hb : env.blockKind = .function := by unfold Env.blockKind; rw [hk]; rfl
  unfold swapsWith
  simp only [hb, Expr.pos]
  rfl
section
variable (L : Lk X z T k c cu W)
include L
theorem sw_no {y : Str} {py : Pos} {e : Expr} {l : Nat} (h1 : noSD e = true) (h2 : cSw z y py e = false) : swapsWith e (some (.Name y py)) l X.env = pure false := by
  cases e <;> first | exact ff h1 | rfl | skip
  rename_i ea gs s p
  rw [swap_eq L.fk]
  have h2 : (decide (z.sc.names.lookup y = some .local) && ((py.line == p.line) && !(s.names.any fun q => q.1 == y && (q.2 == .local || q.2 == .cell)))) = false := h2
  have e1 : (X.env.kindOf y == some .local) = decide (z.sc.names.lookup y = some .local) := by
    show (X.env.scope.names.lookup y == some .local) = _
    rw [L.sc]
    cases q : z.sc.names.lookup y with
    | none => rfl
    | some kd => cases kd <;> rfl
  rw [e1, Bool.and_assoc, h2]
theorem sw_yes {y : Str} {py : Pos} {ea : Expr} {gs : List Comprehension} {s : Scope} {p : Pos} {l : Nat} (h2 : cSw z y py (.ListComp ea gs s p) = true) : swapsWith (.ListComp ea gs s p) (some (.Name y py)) l X.env = pure true ∧ X.env.scope.names.lookup y = some .local := by
  have h2 : (decide (z.sc.names.lookup y = some .local) && ((py.line == p.line) && !(s.names.any fun q => q.1 == y && (q.2 == .local || q.2 == .cell)))) = true := h2
  have hl : X.env.scope.names.lookup y = some .local := by
    rw [Bool.and_eq_true, decide_eq_true_eq] at h2
    rw [L.sc]
    exact h2.1
  refine ⟨?_, hl⟩
  rw [swap_eq L.fk]
  have e1 : (X.env.kindOf y == some .local) = true := by
    show (X.env.scope.names.lookup y == some .local) = _
    rw [hl]
    rfl
  rw [Bool.and_eq_true] at h2
  rw [e1, Bool.and_assoc, h2.2]
  rfl
theorem s_setLc {i : Nat} {y : Str} {py spos p : Pos} {ea : Expr} {gs : List Comprehension} {s : Scope} {own : List Nat} {elt : E} {tg : Tg} {it : It} {ifs : Es} (hy : X.N[i]? = some y) (hcur : ∀ j x, c.cur = some (j, x) → j ≠ i) (h : chF T (.lc own elt tg it ifs) z (.ListComp ea gs s p) = true)
    (hs : cSw z y py (.ListComp ea gs s p) = true) : PS X (.Assign [.Name y py] (.ListComp ea gs s p) spos) (tS (Rg.of X c cu W) (.asg (.nm i) (.fre (.lc own elt tg it ifs)))) := by
  obtain ⟨w1, w2⟩ := sw_yes L (l := spos.line) hs
  have h : cLc z own tg.sl (fun z => (ch2 T elt z).1) (fun z => chTg tg z) (chI T it z) (fun z => chC T ifs z) (.ListComp ea gs s p) = true := h
  match gs, h, w1 with
  | [⟨tg0, ei, ifs0, ia⟩], h, w1 =>
    have h : (!z.hot && (decide (ia = 0) && (blkC z.N z.sc s (ownP z own) && (decide (∀ i ∈ tg.sl, i ∈ own) && (noSet ei && (chI T it z tg0 ei && (chTg tg (z.inn s) tg0 && (chC T ifs (z.inn s) ifs0 && (ch2 T elt (z.inn s)).1 ea)))))))) = true := h
    simp only [Bool.and_eq_true, Bool.not_eq_true', decide_eq_true_eq] at h
    obtain ⟨h1, h2, h3, h4, h5, h6, h7, h8, h9⟩ := h
    subst h2
    have ok : BlkOk X.N X.env.scope s (ownP z own) := by
      rw [L.N, L.sc]
      exact blkOk_by h3
    refine PS.imp (ps_setLc (wi := tI (Rg.of X c cu W) it) (g := tG (Rg.of X c cu noW) tg) (tt := tC1 (Rg.of X c cu noW) ifs) (te := tE (Rg.of X c cu noW) elt) (own := ownP z own) (L.calm h1) L.nd hy w2 w1 (okI it L _ _ h6) ok (fun s H C cl fp => okTg tg (Lk.inn L h1 ok s H C cl fp) _ h7) (fun s H C cl fp => okC ifs (Lk.inn L h1 ok s H C cl fp) _ h8)
      (fun s H C cl fp => (okE elt (Lk.inn L h1 ok s H C cl fp) _).1 h9) (fold_of h5)) fun D σ H hh => ?_
    rw [ownP_ix]
    have q := asg_of (X := X) (c := c) (cu := cu) (W := W) hh
    obtain ⟨ρ, δ, S, C, g⟩ := q
    have g := Gd.bind0 (show Gd X.K ρ H (Wx (Rg.of X c cu W) σ) ((evF c δ (.lc own elt tg it ifs) S).bind fun ds => Mi.alloc (.lst ds)) _ from g)
    refine lc_of (G := Rg.of X c cu W) (G' := Rg.of X c cu noW) rfl rfl (L.cold h1) h4 ⟨ρ, δ, S, C, g.mono fun ds S1 ρ1 H1 s1 R1 g1 p xs h0 n hp rs => ?_⟩
    have g1 : Gd X.K ρ H (Wx (Rg.of X c cu W) σ) (.ok (.ref S1.length) (S1 ++ [.lst ds])) (Vq X.K fun x H1 => tG (Rg.of X c cu W) (.nm i) x σ H1 D.nx) := g1
    have q := g1 (ρ1 ++ [p]) H1 (stp_adopt s1 h0) (sto_adopt R1 n hp rs) (.ref p) ⟨p, rfl, by rw [← R1.len]; simp⟩
    obtain ⟨ρ2, δ2, S2, d2, δ3, C2, r2, hp2, q2⟩ := q
    cases hp2
    refine q2 _ (C2.set r2 hcur) ⟨by simp, fun j hj => ?_⟩
    rw [List.getElem?_set_ne fun z => hj (by rw [z]; exact List.mem_singleton_self j)]
theorem Lk.tr (pn : List (Addr × Obj)) (xe : Value → Shared → Prop) {W' : WX} (hh : z.hot = false) (hcu : z.cu = none) (tk : Takes (X.tr pn xe) W') (po : PassesOwn (model X.prog X.w) X.A X.env xe) : Lk (X.tr pn xe) z T k c cu W' where
  fx := L.fx
  N := L.N
  nd := L.nd
  sc := L.sc
  fk := L.fk
  un := L.un
  calm := L.calm
  cold := L.cold
  room := L.room
  tk := tk
  po := fun _ _ => po
  stk := L.stk
  fn := L.fn
  curS := L.curS
  hotX := fun h => absurd hcu h
theorem Lk.suite (hb : z.blk = none) (a : Addr) (oe : Obj) (cls : Value) (d : Option Addr) (pn : List (Addr × Obj)) (hz : Zc cls d oe) (hf : ∃ vs, oe.data = .fields vs) (i : Option Nat) (x : Exn) :
    Lk (X.suite a ((a, oe) :: pn)) ⟨z.N, z.sc, i, true, z.blk⟩ T k { c with cur := i.map fun i => (i, x) } (some (a, cls, d)) noW where
  fx := ⟨L.fx.fn, L.fx.glo, L.fx.blt, L.fx.exs, L.fx.cat⟩
  N := L.N
  nd := L.nd
  sc := L.sc
  fk := L.fk
  un := L.un
  calm := fun h => by cases h
  cold := fun h => by cases h
  room := fun h => by cases h
  tk := takes_none5
  po := fun h => by cases h
  stk := L.stk
  fn := L.fn
  curS := fun j y e => by
    cases i with
    | none => cases e
    | some i => cases e; rfl
  hotX := fun _ => ⟨X, a, cls, d, oe, pn, rfl, rfl, hz, hf⟩
end
/-! ### try -/
def tsOf (X : Cx) (c : Ctx) (i : Option Nat) (b : Ss) : Addr → Value → Option Addr → TS := fun a cls dd D σ H => ∃ x : Exn, tSs ⟨X.K, X.mg, { c with cur := i.map fun i => (i, x) }, some (a, cls, dd), noW⟩ b D σ H
inductive ClR (X : Cx) (c : Ctx) : Hs → List Cl → Prop
  | nil : ClR X c .nil []
  | cons {nm : String} {i : Option Nat} {b : Ss} {hs : Hs} {v : Value} {l : List Cl} (hv : ∀ y cls dd ρ H, ExnR X.K X.mg ρ H y cls dd → PySem.W.exmOne X.K cls v = some (c.isa y.cls nm)) (r : ClR X c hs l) : ClR X c (.cons nm i b hs) ((v, i, tsOf X c i b) :: l)
theorem clr_at {i : Option Nat} {δ : Mi.Env} {j : Nat} {d : D} (h : (clr i δ)[j]? = some (some d)) : δ[j]? = some (some d) ∧ i ≠ some j := by
  cases i with
  | none => exact ⟨h, fun q => by cases q⟩
  | some i =>
    have h : (δ.set i none)[j]? = some (some d) := h
    by_cases q : i = j
    · subst q
      by_cases hl : i < δ.length
      · rw [List.getElem?_set_self hl] at h; cases h
      · rw [List.getElem?_eq_none (by simpa using hl)] at h; cases h
    · rw [List.getElem?_set_ne q] at h
      exact ⟨h, fun e => q (Option.some.inj e)⟩
theorem clr_len (i : Option Nat) (δ : Mi.Env) : (clr i δ).length = δ.length := by
  cases i
  · rfl
  · exact List.length_set
theorem mix_of (hcold : c.cur = none) : ∀ {hs : Hs} {l : List Cl}, ClR X c hs l → ∀ {D : Ends} {x : Exn} {δ : Mi.Env} {S : Store} {σ : L2.St} {ρ : List Addr} {H : Hp} {cls : Value} {dd : Option Addr}, Cfg (Rg.of X c cu W) ρ δ S σ H → ExnR X.K X.mg ρ H x cls dd → Gs (Rg.of X c cu W) ρ H D (evH c hs x δ S) → wMix X.K W D l cls dd σ H := by
  intro hs l r
  induction r with
  | nil =>
    intro D x δ S σ ρ H cls dd C hx g
    exact (show Gs (Rg.of X c cu W) ρ H D (.exn x δ S) from g) ρ H σ cls dd Stp.refl C hx
  | @cons nm i b hs v l hv r ih =>
    intro D x δ S σ ρ H cls dd C hx g
    refine ⟨_, hv x cls dd ρ H hx, fun ht a ha => ?_, fun ht => ?_⟩
    · have g : Gs (Rg.of X c cu W) ρ H D (if c.isa x.cls nm then (if inR i δ then (match evSs { c with cur := i.map fun i => (i, x) } b (clr i δ) S with
        | .nx δ' S' => .nx (clr i δ') S'
        | .cont δ' S' => .cont (clr i δ') S'
        | .brk δ' S' => .brk (clr i δ') S'
        | .ret d S' => .ret d S'
        | .exn _ _ _ => .bad
        | .bad => .bad) else .bad) else evH c hs x δ S) := g
      rw [if_pos ht] at g
      by_cases hin : inR i δ = true
      · rw [if_pos hin] at g
        refine ⟨x, ρ, clr i δ, S, ?_, ?_⟩
        · refine ⟨C.sto, ?_, fun j d hj => ?_, fun j y hj => ?_⟩
          · rw [clr_len]
            cases i with
            | none => exact C.len
            | some i => show δ.length = (σ.set i _).length; rw [List.length_set]; exact C.len
          · obtain ⟨h1, h2⟩ := clr_at hj
            obtain ⟨u, k1, k2⟩ := C.env j d h1
            refine ⟨u, ?_, k2⟩
            cases i with
            | none => exact k1
            | some i =>
              show (σ.set i _)[j]? = _
              rw [List.getElem?_set_ne fun z => h2 (by rw [z])]
              exact k1
          · cases i with
            | none => cases hj
            | some i =>
              cases hj
              refine ⟨a, cls, dd, rfl, ?_, hx⟩
              show (σ.set j _)[j]? = _
              rw [List.getElem?_set_self (by rw [← C.len]; exact of_decide_eq_true hin)]
        · have back : ∀ {ρ' : List Addr} {δ' : Mi.Env} {S' : Store} {σ' : L2.St} {H' : Hp}, Cfg ⟨X.K, X.mg, { c with cur := i.map fun i => (i, x) }, some (a, cls, dd), noW⟩ ρ' δ' S' σ' H' → Cfg (Rg.of X c cu W) ρ' (clr i δ') S' (match i with
              | none => σ'
              | some i => σ'.set i none) H' := fun {ρ' δ' S' σ' H'} C' => by
            refine ⟨C'.sto, ?_, fun j d hj => ?_, fun j y hj => ?_⟩
            · rw [clr_len]
              cases i with
              | none => exact C'.len
              | some i => show δ'.length = (σ'.set i _).length; rw [List.length_set]; exact C'.len
            · obtain ⟨h1, h2⟩ := clr_at hj
              obtain ⟨u, k1, k2⟩ := C'.env j d h1
              refine ⟨u, ?_, k2⟩
              cases i with
              | none => exact k1
              | some i =>
                show (σ'.set i _)[j]? = _
                rw [List.getElem?_set_ne fun z => h2 (by rw [z])]
                exact k1
            · rw [show (Rg.of X c cu W).c.cur = none from hcold] at hj
              cases hj
          show Gs _ ρ H _ (evSs { c with cur := i.map fun i => (i, x) } b (clr i δ) S)
          cases e : evSs { c with cur := i.map fun i => (i, x) } b (clr i δ) S with
          | nx δ' S' =>
            rw [e] at g
            intro ρ' H' σ' s' C'
            have q := g ρ' H' _ s' (back C')
            cases i with
            | none => exact q
            | some i => exact q
          | cont δ' S' =>
            rw [e] at g
            intro ρ' H' σ' s' C'
            have q := g ρ' H' _ s' (back C')
            cases i with
            | none => exact q
            | some i => exact q
          | brk δ' S' =>
            rw [e] at g
            intro ρ' H' σ' s' C'
            have q := g ρ' H' _ s' (back C')
            cases i with
            | none => exact q
            | some i => exact q
          | ret d' S' =>
            rw [e] at g
            intro ρ' H' v s' R' rv
            have q := g ρ' H' v s' R' rv
            cases i with
            | none => exact q
            | some i => exact q
          | exn y δ' S' => rw [e] at g; exact (show False from g).elim
          | bad => rw [e] at g; exact (show False from g).elim
      · rw [if_neg hin] at g
        exact (show False from g).elim
    · have g : Gs (Rg.of X c cu W) ρ H D (if c.isa x.cls nm then (if inR i δ then (match evSs { c with cur := i.map fun i => (i, x) } b (clr i δ) S with
        | .nx δ' S' => .nx (clr i δ') S'
        | .cont δ' S' => .cont (clr i δ') S'
        | .brk δ' S' => .brk (clr i δ') S'
        | .ret d S' => .ret d S'
        | .exn _ _ _ => .bad
        | .bad => .bad) else .bad) else evH c hs x δ S) := g
      rw [if_neg (by rw [ht]; exact Bool.false_ne_true)] at g
      exact ih C hx g
theorem try_of (hcold : c.cur = none) {b : Ss} {hs : Hs} {l : List Cl} (r : ClR X c hs l) {D : Ends} {σ : L2.St} {H : Hp} (h : tS (Rg.of X c cu W) (.try_ b hs) D σ H) : tSs (Rg.of X c cu (wMix X.K W D l)) b D σ H := by
  obtain ⟨ρ, δ, S, C, g⟩ := h
  refine ⟨ρ, δ, S, ⟨C.sto, C.len, C.env, C.cur⟩, ?_⟩
  have g : Gs (Rg.of X c cu W) ρ H D (match evSs c b δ S with
    | .exn x δ' S' => evH c hs x δ' S'
    | .nx δ' S' => .nx δ' S'
    | .cont δ' S' => .cont δ' S'
    | .brk δ' S' => .brk δ' S'
    | .ret d S' => .ret d S'
    | .bad => .bad) := g
  have tw : ∀ {ρ' : List Addr} {δ' : Mi.Env} {S' : Store} {σ' : L2.St} {H' : Hp}, Cfg (Rg.of X c cu (wMix X.K W D l)) ρ' δ' S' σ' H' → Cfg (Rg.of X c cu W) ρ' δ' S' σ' H' := fun C => ⟨C.sto, C.len, C.env, C.cur⟩
  show Gs _ ρ H D (evSs c b δ S)
  cases e : evSs c b δ S with
  | nx δ' S' => rw [e] at g; exact fun ρ' H' σ' s' C' => g ρ' H' σ' s' (tw C')
  | cont δ' S' => rw [e] at g; exact fun ρ' H' σ' s' C' => g ρ' H' σ' s' (tw C')
  | brk δ' S' => rw [e] at g; exact fun ρ' H' σ' s' C' => g ρ' H' σ' s' (tw C')
  | ret d' S' => rw [e] at g; exact g
  | bad => rw [e] at g; exact g
  | exn x δ' S' =>
    rw [e] at g
    exact fun ρ' H' σ' cls dd s' C' hx => mix_of hcold r (tw C') hx (Gs.step (r := evH c hs x δ' S') s' g)
end
/-! ### all of them -/
mutual
theorem okS {T : Tab} {k : Nat} : ∀ (s : St) {X : Cx} {z : Zn} {c : Ctx} {cu : Option (Addr × Value × Option Addr)} {W : WX}, Lk X z T k c cu W → z.blk = none → (z.hot = false → z.cu = none) → ∀ st, chS T s z st = true → PS X st (tS (Rg.of X c cu W) s)
  | .asg t a, X, z, c, cu, W, L, hb, hh, st, h => by
    have h : cAsg z t a (ch2 T a z).1 (chTg t z) st = true := h
    unfold cAsg at h
    split at h
    · cases t with
      | tup ts => exact ff h
      | nm i =>
        rename_i y py e p h0
        simp only [Bool.and_eq_true, Bool.or_eq_true, Bool.not_eq_true'] at h
        obtain ⟨h1, h2, h3, h4⟩ := h
        obtain ⟨l1, l2, l3, l4⟩ := lcl_ok L h1
        cases q : cSw z y py e with
        | false => exact s_asgN L.nd l1 l2 ((okE a L e).1 h2) (sw_no L h3 q) l3 l4
        | true =>
          rw [q] at h4
          have h4 : isLcE a = true := h4.resolve_left fun z => by cases z
          cases e <;> first | exact ff q | skip
          obtain ⟨own, elt, tg, it, ifs, rfl⟩ := isLc_of h4
          exact s_setLc L l1 l4 h2 q
    · simp only [Bool.and_eq_true] at h
      obtain ⟨h1, h2, h3, h4, h5⟩ := h
      exact s_asg ((okE a L _).1 h1) (okTg t L _ h2) h3 h4 h5
    · exact ff h
  | .sub o i a, X, z, c, cu, W, L, hb, hh, st, h => by
    have h : cSub (ch2 T o z).1 (ch2 T i z).1 (ch2 T a z).1 st = true := h
    unfold cSub at h
    split at h
    · simp only [Bool.and_eq_true] at h
      obtain ⟨h1, h2, h3, h4, h5⟩ := h
      exact s_sub (by have := L.un; omega) ((okE o L _).1 h1) ((okE i L _).1 h2) ((okE a L _).1 h3) h4 h5
    · exact ff h
  | .aug i o a, X, z, c, cu, W, L, hb, hh, st, h => by
    have h : cAug z i o (ch2 T a z).1 st = true := h
    unfold cAug at h
    split at h
    · simp only [Bool.and_eq_true, decide_eq_true_eq] at h
      obtain ⟨h1, h2, h3⟩ := h
      subst h1
      obtain ⟨l1, l2, l3, l4⟩ := lcl_ok L h2
      exact s_aug ip_add (fun _ _ => rfl) L.nd l1 l2 ((okE a L _).1 h3) l3 l4
    · simp only [Bool.and_eq_true, decide_eq_true_eq] at h
      obtain ⟨h1, h2, h3⟩ := h
      subst h1
      obtain ⟨l1, l2, l3, l4⟩ := lcl_ok L h2
      exact s_aug ip_sub (fun _ _ => rfl) L.nd l1 l2 ((okE a L _).1 h3) l3 l4
    · exact ff h
  | .exp a, X, z, c, cu, W, L, hb, hh, st, h => by
    have h : cExp (ch2 T a z).1 st = true := h
    unfold cExp at h
    split at h
    · rw [Bool.and_eq_true] at h
      exact s_exp ((okE a L _).1 h.1) h.2
    · exact ff h
  | .ret a, X, z, c, cu, W, L, hb, hh, st, h => by
    have h : cRet a (ch2 T a z).1 st = true := h
    unfold cRet at h
    split at h
    · exact s_ret ((okE a L _).1 h)
    · split at h
      · exact s_retN
      · exact ff h
    · exact ff h
  | .if_ t a b, X, z, c, cu, W, L, hb, hh, st, h => by
    have h : cIf (ch2 T t z).2 (chSs T a z) (chSs T b z) st = true := h
    unfold cIf at h
    split at h
    · simp only [Bool.and_eq_true] at h
      exact s_if ((okE t L _).2 h.1).1 (okSs a L hb hh _ h.2.1) (okSs b L hb hh _ h.2.2)
    · exact ff h
  | .for_ t it b, X, z, c, cu, W, L, hb, hh, st, h => by
    have h : cFor z (chI T it z) (chTg t z) (chSs T b z) st = true := h
    unfold cFor at h
    split at h
    · simp only [Bool.and_eq_true, Bool.not_eq_true'] at h
      obtain ⟨h1, h2, h3, h4, h5⟩ := h
      exact s_for (L.po h1 hb) (L.calm h1) (okI it L _ _ h2) (okTg t L _ h3) (okSs b L hb hh _ h4) h5
    · exact ff h
  | .while_ t b, X, z, c, cu, W, L, hb, hh, st, h => by
    have h : cWhile z (ch2 T t z).2 (chSs T b z) st = true := h
    unfold cWhile at h
    split at h
    · simp only [Bool.and_eq_true, Bool.not_eq_true'] at h
      obtain ⟨h1, h2, h3⟩ := h
      exact s_while (L.po h1 hb) ((okE t L _).2 h2).1 (okSs b L hb hh _ h3)
    · exact ff h
  | .brk, X, z, c, cu, W, L, hb, hh, st, h => by
    have h : cBrk st = true := h
    unfold cBrk at h
    split at h
    · exact s_brk
    · exact ff h
  | .cont, X, z, c, cu, W, L, hb, hh, st, h => by
    have h : cCont st = true := h
    unfold cCont at h
    split at h
    · exact s_cont
    · exact ff h
  | .pass, X, z, c, cu, W, L, hb, hh, st, h => by
    have h : cPass st = true := h
    unfold cPass at h
    split at h
    · exact s_pass
    · exact s_doc
    · exact ff h
  | .rais nm es, X, z, c, cu, W, L, hb, hh, st, h => by
    have h : cRais T z nm es (chEs T es z) st = true := h
    unfold cRais at h
    split at h
    · simp only [Bool.and_eq_true, Bool.not_eq_true'] at h
      obtain ⟨h1, h2, h3, h4, h5, h6⟩ := h
      obtain ⟨g1, g2, g3, g4⟩ := gl_ok L h2
      subst g1
      obtain ⟨fl, f1, f2⟩ := L.fx.exs nm (by simpa using h3)
      rw [List.all_cons, Bool.and_eq_true] at h5
      exact s_rais f2 f1 (L.calm h1) (L.room h1) L.tk g2 (okEs es L _ h4) g3 h5.1 h5.2 h6
    · exact ff h
  | .try_ b hs, X, z, c, cu, W, L, hb, hh, st, h => by
    have h : cTry z (chSs T b z) (chHs T hs z) st = true := h
    unfold cTry at h
    split at h
    · simp only [Bool.and_eq_true, Bool.not_eq_true'] at h
      obtain ⟨h1, h2, h3⟩ := h
      obtain ⟨l, r1, r2⟩ := okHs hs L hb _ h3
      obtain ⟨s1, s2⟩ := L.stk hb
      exact PS.imp (ps_mix (tb := fun W => tSs (Rg.of X c cu W) b) s1 s2 L.nd L.tk (fun W' pn xe tk po => okSs b (Lk.tr L pn xe h1 (hh h1) tk po) hb hh _ h2) r1) fun D σ H q => try_of (L.cold h1) r2 q
    · exact ff h
theorem okSs {T : Tab} {k : Nat} : ∀ (ss : Ss) {X : Cx} {z : Zn} {c : Ctx} {cu : Option (Addr × Value × Option Addr)} {W : WX}, Lk X z T k c cu W → z.blk = none → (z.hot = false → z.cu = none) → ∀ st, chSs T ss z st = true → PSs X st (tSs (Rg.of X c cu W) ss)
  | .nil, X, z, c, cu, W, L, hb, hh, [], h => ss_nil
  | .nil, X, z, c, cu, W, L, hb, hh, _ :: _, h => ff h
  | .cons s ss, X, z, c, cu, W, L, hb, hh, [], h => ff h
  | .cons s ss, X, z, c, cu, W, L, hb, hh, st :: sts, h => by
    have h : (chS T s z st && chSs T ss z sts) = true := h
    rw [Bool.and_eq_true] at h
    exact ss_cons (okS s L hb hh st h.1) (okSs ss L hb hh sts h.2)
theorem okHs {T : Tab} {k : Nat} : ∀ (hs : Hs) {X : Cx} {z : Zn} {c : Ctx} {cu : Option (Addr × Value × Option Addr)} {W : WX}, Lk X z T k c cu W → z.blk = none → ∀ xs, chHs T hs z xs = true → ∃ l, HsM X xs l ∧ ClR X c hs l
  | .nil, X, z, c, cu, W, L, hb, [], h => ⟨[], .nil, .nil⟩
  | .nil, X, z, c, cu, W, L, hb, _ :: _, h => ff h
  | .cons nm i b hs, X, z, c, cu, W, L, hb, xs, h => by
    have h : cH T z nm i (chSs T b ⟨z.N, z.sc, i, true, z.blk⟩) (chHs T hs z) xs = true := h
    unfold cH at h
    split at h
    · simp only [Bool.and_eq_true] at h
      obtain ⟨h1, h2, h3, h4, h5⟩ := h
      obtain ⟨g1, g2, g3, g4⟩ := gl_ok L h1
      subst g1
      obtain ⟨v, f1, f2⟩ := L.fx.cat nm (by simpa using h2)
      obtain ⟨l, r1, r2⟩ := okHs hs L hb _ h5
      have nms : Names X (Str.ofString nm) v := ⟨g2, g3, .inl f1⟩
      have sui : ∀ (a : Addr) (oe : Obj) (cls : Value) (d : Option Addr) (pn : List (Addr × Obj)), Zc cls d oe → (∃ vs, oe.data = .fields vs) → PSs (X.suite a ((a, oe) :: pn)) _ (tsOf X c i b a cls d) := fun a oe cls d pn hz hf =>
        ⟨fun pins s σ H D I ⟨x, q⟩ => (okSs b (Lk.suite L hb a oe cls d pn hz hf i x) hb (fun q => by cases q) _ h4).run pins s σ H D I q⟩
      split at h3
      · exact ⟨_, .plain nms sui r1, .cons f2 r2⟩
      · simp only [Bool.and_eq_true, decide_eq_true_eq] at h3
        refine ⟨_, .named nms (by rw [L.N]; exact h3.1) (by show X.env.scope.names.lookup _ = _; rw [L.sc]; exact h3.2) sui r1, .cons f2 r2⟩
      · exact ff h3
    · exact ff h
end
end Mi

set_option Elab.async false
set_option linter.all false
set_option maxRecDepth 100000
set_option maxHeartbeats 4000000
/-! Mi, 19: functions of a program. -/
namespace Mi
open PySem PySem.Spec PyProof.Rows L2

/-! ### what is older than a call -/
mutual
theorem rv_bel {K : Fg} {ρ : List Addr} {H : Hp} : ∀ {d : D} {v : V}, Rv K ρ H d v → d.bel ρ.length = true
  | .non, _, _ => rfl
  | .bl _, _, _ => rfl
  | .int _, _, _ => rfl
  | .str _, _, _ => rfl
  | .tup ds, _, h => by
    obtain ⟨_, _, _, _, r⟩ := h
    exact rvs_bel (ds := ds) r
  | .ref n, _, h => by
    obtain ⟨a, _, q⟩ := h
    exact decide_eq_true (List.getElem?_eq_some_iff.mp q).1
  | .rol ds, _, h => by
    obtain ⟨_, _, _, _, r⟩ := h
    exact rvs_bel (ds := ds) r
theorem rvs_bel {K : Fg} {ρ : List Addr} {H : Hp} : ∀ {ds : List D} {vs : List V}, Rvs K ρ H ds vs → D.bels ρ.length ds = true
  | [], _, _ => rfl
  | d :: ds, _, h => by
    obtain ⟨_, _, _, r, t⟩ := h
    show (d.bel ρ.length && D.bels ρ.length ds) = true
    rw [rv_bel r, rvs_bel t]
    rfl
end
section
variable {K : Fg} {ρ ρ' : List Addr} {H : Hp}
theorem pre_back {m : Nat} {a : Addr} (p : ρ <+: ρ') (hm : m < ρ.length) (h : ρ'[m]? = some a) : ρ[m]? = some a := by
  obtain ⟨t, rfl⟩ := p
  rw [List.getElem?_append_left hm] at h
  exact h
theorem tp_back {a : Addr} {xs : List V} (p : ρ <+: ρ') (h : Tp K ρ' H a xs) : Tp K ρ H a xs := h.imp (fun ⟨n, q⟩ => ⟨fun m => n (p.subset m), q⟩) fun q => q
theorem rl_back {a : Addr} {xs : List V} (p : ρ <+: ρ') (h : Rl K ρ' H a xs) : Rl K ρ H a xs := h.imp (fun ⟨n, q⟩ => ⟨fun m => n (p.subset m), q⟩) fun q => q
mutual
theorem rv_back (p : ρ <+: ρ') : ∀ {d : D} {v : V}, d.bel ρ.length = true → Rv K ρ' H d v → Rv K ρ H d v
  | .non, _, _, h => h
  | .bl _, _, _, h => h
  | .int _, _, _, h => h
  | .str _, _, _, h => h
  | .tup ds, _, b, h => by
    obtain ⟨a, xs, e, t, r⟩ := h
    exact ⟨a, xs, e, tp_back p t, rvs_back p (ds := ds) b r⟩
  | .ref n, _, b, h => by
    obtain ⟨a, e, q⟩ := h
    exact ⟨a, e, pre_back p (of_decide_eq_true b) q⟩
  | .rol ds, _, b, h => by
    obtain ⟨a, xs, e, t, r⟩ := h
    exact ⟨a, xs, e, rl_back p t, rvs_back p (ds := ds) b r⟩
theorem rvs_back (p : ρ <+: ρ') : ∀ {ds : List D} {vs : List V}, D.bels ρ.length ds = true → Rvs K ρ' H ds vs → Rvs K ρ H ds vs
  | [], _, _, h => h
  | d :: ds, _, b, h => by
    obtain ⟨x, xs, e, r, t⟩ := h
    have b : (d.bel ρ.length && D.bels ρ.length ds) = true := b
    rw [Bool.and_eq_true] at b
    exact ⟨x, xs, e, rv_back p b.1 r, rvs_back p b.2 t⟩
end
theorem rkv_back (p : ρ <+: ρ') : ∀ {ps : List (Kk × D)} {vs : List (Key × V)}, (ps.all fun p => p.2.bel ρ.length) = true → Rkv K ρ' H ps vs → Rkv K ρ H ps vs
  | [], _, _, h => h
  | q :: ps, _, b, h => by
    obtain ⟨x, xs, e, r, t⟩ := h
    rw [List.all_cons, Bool.and_eq_true] at b
    exact ⟨x, xs, e, rv_back p b.1 r, rkv_back p b.2 t⟩
theorem obj_bel {a : Addr} {o : O} (h : ObjR K ρ H a o) : o.bel ρ.length = true := by
  cases o with
  | lst ds => obtain ⟨_, _, r⟩ := h; exact rvs_bel r
  | dic ps =>
    obtain ⟨_, _, r⟩ := h
    show (ps.all fun p => p.2.bel ρ.length) = true
    have : ∀ {ps : List (Kk × D)} {vs : List (Key × V)}, Rkv K ρ H ps vs → (ps.all fun p => p.2.bel ρ.length) = true := by
      intro ps
      induction ps with
      | nil => intro _ _; rfl
      | cons q ps ih =>
        intro vs r
        obtain ⟨x, xs, _, r1, r2⟩ := r
        rw [List.all_cons, rv_bel r1, ih r2]
        rfl
    exact this r
theorem obj_back {a : Addr} {o : O} (p : ρ <+: ρ') (b : o.bel ρ.length = true) (h : ObjR K ρ' H a o) : ObjR K ρ H a o := by
  cases o with
  | lst ds => obtain ⟨xs, e, r⟩ := h; exact ⟨xs, e, rvs_back p b r⟩
  | dic ps => obtain ⟨xs, e, r⟩ := h; exact ⟨xs, e, rkv_back p b r⟩
/-- the store as it was ahead of the call, as it is now -/
theorem sto_back {S S' : Store} {H' : Hp} (R : Sto K ρ S H) (s : Stp ρ H ρ' H') (R' : Sto K ρ' S' H') (o : oldOk S S' = true) : Sto K ρ (S'.take S.length) H' ∧ Stp ρ H ρ H' := by
  have hle : ρ.length ≤ ρ'.length := s.1.length_le
  refine ⟨⟨?_, R.nd, fun m w e => ?_⟩, List.prefix_refl _, fun a u e n => ⟨(s.2 a u e n).1, n⟩⟩
  · rw [List.length_take, ← R.len, ← R'.len]
    omega
  · have hm : m < S.length := by
      have := (List.getElem?_eq_some_iff.mp e).1
      rw [List.length_take] at this
      omega
    rw [List.getElem?_take_of_lt hm] at e
    obtain ⟨a, ha, q⟩ := R'.at_ m w e
    have hb : w.bel ρ.length = true := by
      have z := List.all_eq_true.mp o m (List.mem_range.mpr hm)
      rw [Bool.or_eq_true] at z
      rcases z with z | z
      · have z := of_decide_eq_true z
        rw [e] at z
        obtain ⟨a0, _, q0⟩ := R.at_ m w z.symm
        exact obj_bel q0
      · rw [e] at z
        rw [R.len]
        exact z
    refine ⟨a, pre_back s.1 (by rw [R.len]; exact hm) ha, obj_back s.1 hb q⟩
theorem exn_back {mg : Str → Option Value} {x : Exn} {cls : Value} {dd : Option Addr} (p : ρ <+: ρ') (b : (x.fs.all fun p => p.2.bel ρ.length) = true) (h : ExnR K mg ρ' H x cls dd) : ExnR K mg ρ H x cls dd := by
  obtain ⟨C, h1, h2, h3, d, fs, h4, h5, h6, h7⟩ := h
  refine ⟨C, h1, h2, h3, d, fs, h4, h5, fun m => h6 (p.subset m), fun f e q => ?_⟩
  obtain ⟨k0, v, k1, k2⟩ := h7 f e q
  refine ⟨k0, v, k1, rv_back p ?_ k2⟩
  have mem : (f, e) ∈ x.fs := by
    have : ∀ {l : List (String × D)}, l.lookup f = some e → (f, e) ∈ l := by
      intro l
      induction l with
      | nil => intro z; cases z
      | cons y l ih =>
        intro z
        obtain ⟨g, d'⟩ := y
        rw [List.lookup_cons] at z
        cases hh : f == g with
        | true =>
          rw [hh] at z
          cases z
          rw [beq_iff_eq.mp hh]
          exact List.mem_cons_self
        | false =>
          rw [hh] at z
          exact List.mem_cons_of_mem _ (ih z)
    exact this q
  exact List.all_eq_true.mp b _ mem
end
/-- what a body gives, from what the call gives -/
theorem gs_fin {K : Fg} {mg : Str → Option Value} {c : Ctx} {cu : Option (Addr × Value × Option Addr)} {ρ : List Addr} {S : Store} {H : Hp} {Q : VK} {E : XK} (R : Sto K ρ S H) {r : SR} (g : Gd K ρ H (Wxe K mg E) (fin S (endR r)) (Vq K Q)) :
    Gs ⟨K, mg, c, cu, fun cls d _ H => E cls d H⟩ ρ H { nx := fun _ H' => Q .non H', rt := Q } r := by
  have key : ∀ (d : D) (S' : Store), Gd K ρ H (Wxe K mg E) (fin S (.ok d S')) (Vq K Q) → ∀ ρ' H', Stp ρ H ρ' H' → Sto K ρ' S' H' → ∀ v, Rv K ρ' H' d v → Q v H' := by
    intro d S' g ρ' H' s R' v rv
    have g : Gd K ρ H (Wxe K mg E) (if d.bel S.length && oldOk S S' then .ok d (S'.take S.length) else .ok d S') (Vq K Q) := g
    by_cases hc : (d.bel S.length && oldOk S S') = true
    · rw [if_pos hc] at g
      rw [Bool.and_eq_true] at hc
      obtain ⟨R2, s2⟩ := sto_back R s R' hc.2
      exact g ρ H' s2 R2 v (rv_back s.1 (by rw [R.len]; exact hc.1) rv)
    · rw [if_neg hc] at g
      exact g ρ' H' s R' v rv
  cases r with
  | nx δ' S' => exact fun ρ' H' σ' s C => key .non S' g ρ' H' s C.sto .non rfl
  | ret d S' => exact fun ρ' H' v s R' rv => key d S' g ρ' H' s R' v rv
  | brk δ' S' => exact (show False from g).elim
  | cont δ' S' => exact (show False from g).elim
  | bad => exact (show False from g).elim
  | exn x δ' S' =>
    intro ρ' H' σ' cls dd s C hx
    have g : Gd K ρ H (Wxe K mg E) (if (x.fs.all fun p => p.2.bel S.length) && oldOk S S' then .exn x (S'.take S.length) else .exn x S') (Vq K Q) := g
    by_cases hc : ((x.fs.all fun p => p.2.bel S.length) && oldOk S S') = true
    · rw [if_pos hc] at g
      rw [Bool.and_eq_true] at hc
      obtain ⟨R2, s2⟩ := sto_back R s C.sto hc.2
      exact g ρ H' s2 R2 cls dd (exn_back s.1 (by rw [R.len]; exact hc.1) hx)
    · rw [if_neg hc] at g
      exact g ρ' H' s C.sto cls dd hx
/-! ### a def's scope, its parameters -/
def fscB (N P : List Str) (sc : Scope) : Bool := (match sc.kind with
  | .function => true
  | _ => false) && ((!sc.isCoroutine && !sc.isGenerator) && (decide N.Nodup && (decide (N.take P.length = P) && ((P.all fun x => match sc.names.lookup x with
    | some .local => true
    | some .cell => true
    | _ => false) && sc.names.all fun y => match y.2 with
    | .free => false
    | _ => true))))
theorem fsc_of {N P : List Str} {sc : Scope} (h : fscB N P sc = true) : FnScope N P sc := by
  unfold fscB at h
  simp only [Bool.and_eq_true, List.all_eq_true, decide_eq_true_eq, Bool.not_eq_true'] at h
  obtain ⟨h1, ⟨h2, h3⟩, h4, h5, h6, h7⟩ := h
  refine ⟨?_, h2, h3, h4, h5, fun x hx => ?_, fun y hy e => ?_⟩
  · split at h1
    · assumption
    · cases h1
  · have q := h6 x hx
    split at q
    · exact .inl (by assumption)
    · exact .inr (by assumption)
    · cases q
  · have q := h7 y hy
    rw [e] at q
    cases q
def parB (a : Arguments) (ps : List Str) : Bool := match a with
  | ⟨[], as, none, [], [], none, []⟩ => decide (as.map (·.arg) = ps) && decide ps.Nodup
  | _ => false
theorem look_zip {ps : List Str} {us : List Value} (nd : ps.Nodup) (hl : us.length = ps.length) : (∀ n ∈ ps, ((ps.zip us).lookup n).isNone = false) ∧ ps.filterMap (fun n => ((ps.zip us).lookup n).map fun v => (n, v)) = ps.zip us := by
  induction ps generalizing us with
  | nil =>
    refine ⟨fun n h => ?_, rfl⟩
    cases h
  | cons p ps ih =>
    cases us with
    | nil => cases hl
    | cons u us =>
      have hl2 : us.length = ps.length := Nat.succ.inj hl
      obtain ⟨hn, nd2⟩ := List.nodup_cons.mp nd
      obtain ⟨h1, h2⟩ := ih nd2 hl2
      have ne : ∀ n ∈ ps, (n == p) = false := fun n h => by
        have : n ≠ p := fun e => hn (by rw [← e]; exact h)
        simpa using this
      refine ⟨fun n h => ?_, ?_⟩
      · show (((p, u) :: ps.zip us).lookup n).isNone = false
        rw [List.lookup_cons]
        rcases List.mem_cons.mp h with e | h
        · rw [e]; simp
        · rw [ne n h]; exact h1 n h
      · show (p :: ps).filterMap (fun n => (((p, u) :: ps.zip us).lookup n).map fun v => (n, v)) = (p, u) :: ps.zip us
        rw [List.filterMap_cons]
        have e1 : (((p, u) :: ps.zip us).lookup p) = some u := by rw [List.lookup_cons]; simp
        rw [e1]
        show (p, u) :: ps.filterMap (fun n => (((p, u) :: ps.zip us).lookup n).map fun v => (n, v)) = _
        have e2 : ps.filterMap (fun n => (((p, u) :: ps.zip us).lookup n).map fun v => (n, v)) = ps.filterMap (fun n => ((ps.zip us).lookup n).map fun v => (n, v)) := by
          have gen : ∀ l : List Str, (∀ n ∈ l, (n == p) = false) → l.filterMap (fun n => (((p, u) :: ps.zip us).lookup n).map fun v => (n, v)) = l.filterMap (fun n => ((ps.zip us).lookup n).map fun v => (n, v)) := by
            intro l
            induction l with
            | nil => intro _; rfl
            | cons y l ihl =>
              intro hh
              rw [List.filterMap_cons, List.filterMap_cons, List.lookup_cons, hh y List.mem_cons_self, ihl fun n hn => hh n (List.mem_cons_of_mem _ hn)]
          exact gen ps ne
        rw [e2, h2]
theorem bind_of0 {as : List Arg} (nd : (as.map (·.arg)).Nodup) {x qual : Str} {body : List Stmt} {scope : Scope} {kV doc pm : Value} {an : Option Addr} {cdv ct : Value} {us : List Value} (hl : us.length = as.length) :
    bindArgs (PySem.W.fnOf x qual ⟨[], as, none, [], [], none, []⟩ body scope .none kV doc pm an cdv ct) ⟨us, []⟩ = pure ((as.map (·.arg)).zip us) := by
  obtain ⟨h1, h2⟩ := look_zip nd (us := us) (by rw [List.length_map]; exact hl)
  have h3 : (as.map (·.arg)).filter (fun n => (((as.map (·.arg)).zip us).lookup n).isNone) = [] := List.filter_eq_nil_iff.mpr fun n hn => by rw [h1 n hn]; decide
  have hs : seqItems? (Value.none) = pure none := rfl
  unfold bindArgs
  simp only [hs, List.map_nil, List.nil_append, List.length_map, hl, List.forIn_nil, pure_bind]
  have t0 : (as.map (·.arg)).take as.length = as.map (·.arg) := List.take_of_length_le (by simp)
  have a0 : ((none : Option (Array Value)).getD #[]).toList = [] := rfl
  have d0 : (decide (as.length > as.length) && (none : Option Arg).isNone) = false := by simp
  rw [d0]
  simp only [a0, List.drop_nil, List.length_nil, Nat.sub_zero, t0, h3, List.isEmpty_nil, List.zip_nil_right, List.forIn_nil, pure_bind, h2, List.append_nil, Bool.not_true, Bool.false_eq_true, if_false, if_neg]
theorem bind_of {a : Arguments} {ps : List Str} (h : parB a ps = true) {x qual : Str} {body : List Stmt} {scope : Scope} {kV doc pm : Value} {an : Option Addr} {cdv ct : Value} {us : List Value} (hl : us.length = ps.length) :
    bindArgs (PySem.W.fnOf x qual a body scope .none kV doc pm an cdv ct) ⟨us, []⟩ = pure (ps.zip us) := by
  unfold parB at h
  split at h
  · simp only [Bool.and_eq_true, decide_eq_true_eq] at h
    obtain ⟨h1, h2⟩ := h
    subst h1
    rw [List.length_map] at hl
    exact bind_of0 h2 hl
  · cases h
/-! ### one function -/
structure FnE where
  nm : String
  N : List Str
  ps : List Str
  f : Fn
def chkFn (T : Tab) (d : He.DefD) (e : FnE) : Bool := decide (d.at_ = (Str.ofString e.nm, none)) && (d.dfl.isEmpty && (d.kwd.isEmpty && (fscB e.N e.ps d.scope && (parB d.params e.ps && (decide (e.ps.length = e.f.pars) && (decide (e.N.length = e.f.slots) && (decide (e.f.pars ≤ e.f.slots) && chSs T e.f.body ⟨e.N, d.scope, none, false, none⟩ d.body)))))))
theorem fn_ok {P : Program} {w : World} {K : Fg} {mg : Str → Option Value} {base : Heap} {T : Tab} {d : He.DefD} {e : FnE} {fa : Addr} {fd : FuncData} {k : Nat} {c : Ctx} (hcur : c.cur = none) (F : FunD K d.name d.qual d.params d.body d.scope (d.dvs K) (d.kws K) fa fd) (h : chkFn T d e = true) (fx : Fx P w K mg base T k c) :
    FnOk P w K mg base (L2.CX P w) (k + 2) fa fd e.ps (spOf K mg fun ds S => if ds.length = e.f.pars then fin S (endR (evSs c e.f.body (ds.map some ++ List.replicate (e.f.slots - e.f.pars) none) S)) else .bad) ∧ Binds K fd e.ps [] ∧
      ∀ (s : Shared) (us : List Value), us.length = e.ps.length → BindsTo s fd ⟨us, []⟩ (e.ps.zip us) := by
  unfold chkFn at h
  simp only [Bool.and_eq_true, decide_eq_true_eq, List.isEmpty_iff] at h
  obtain ⟨h1, h2, h3, h4, h5, h6, h7, h8, h9⟩ := h
  have e1 : d.dvs K = [] := by unfold He.DefD.dvs; rw [h2]; rfl
  have e2 : d.kws K = [] := by unfold He.DefD.kws; rw [h3]; rfl
  rw [e1, e2] at F
  have SC := fsc_of h4
  refine ⟨FunD.ok F SC (fun vs H Q E hsp => ?_) (fun cdv A outer s H vs Q E hr hsp => ?_), F.bindsN fun _ _ _ _ _ _ us hl => bind_of h5 hl, F.bindsA fun _ _ _ _ _ _ us hl => bind_of h5 hl⟩
  · obtain ⟨ρ, S, ds, R, rs, g⟩ := hsp
    dsimp only at g
    by_cases hl : ds.length = e.f.pars
    · rw [← rs.length, hl, h6]
    · rw [if_neg hl] at g
      exact (show False from g).elim
  · obtain ⟨ρ, S, ds, R, rs, g⟩ := hsp
    dsimp only at g
    by_cases hl : ds.length = e.f.pars
    · rw [if_pos hl] at g
      obtain ⟨X, hX⟩ : ∃ X, X = cxOf (L2.CX P w) P w K mg base e.N d.qual d.scope fa cdv A outer s H E := ⟨_, rfl⟩
      have L : Lk X ⟨e.N, d.scope, none, false, none⟩ T k c none (fun cls dd _ H => E cls dd H) := by
        subst hX
        exact { fx := fx, N := rfl, nd := SC.nd, sc := rfl, fk := SC.kind, un := hr.units, calm := fun _ => rfl, cold := fun _ => hcur, room := fun _ => hr,
                tk := takes_of (E := E) rfl rfl rfl rfl, po := fun _ _ => passes_of rfl, stk := fun _ => ⟨rfl, rfl⟩, fn := fun _ => rfl, curS := fun i x q => (by rw [hcur] at q; cases q), hotX := fun q => absurd rfl q }
      refine ⟨tSs (Rg.of X c none (fun cls dd _ H => E cls dd H)) e.f.body, by rw [← hX]; exact okSs e.f.body L rfl (fun _ => rfl) d.body h9, ρ, ds.map some ++ List.replicate (e.f.slots - e.f.pars) none, S, ?_, ?_⟩
      · subst hX
        have hvl : vs.length = e.f.pars := by rw [← rs.length, hl]
        refine ⟨R, ?_, fun i dd q => ?_, fun i x q => by rw [show (Rg.of _ c none _).c.cur = none from hcur] at q; cases q⟩
        · unfold L2.start
          rw [List.length_append, List.length_append, List.length_map, List.length_map, List.length_replicate, List.length_replicate, hvl, hl, h7]
        · by_cases hi : i < ds.length
          · rw [List.getElem?_append_left (by simpa using hi), List.getElem?_map] at q
            cases q2 : ds[i]? with
            | none => rw [q2] at q; cases q
            | some d2 =>
              rw [q2] at q
              cases q
              obtain ⟨v, k1, k2⟩ := rs.get q2
              refine ⟨v, ?_, k2⟩
              unfold L2.start
              rw [List.getElem?_append_left (by simpa using (List.getElem?_eq_some_iff.mp k1).1), List.getElem?_map, k1]
              rfl
          · rw [List.getElem?_append_right (by simpa using hi)] at q
            rw [List.getElem?_replicate] at q
            split at q <;> cases q
      · subst hX
        exact gs_fin R g
    · rw [if_neg hl] at g
      exact (show False from g).elim
/-! ### the program -/
/-- what is known of the module at K -/
structure PgX (P : Program) (w : World) (K : Fg) (mg : Str → Option Value) (base : Heap) (T : Tab) (Pr : Prog) : Prop where
  fns : ∀ f ∈ T.fns, ∃ (d : He.DefD) (e : FnE) (fa : Addr) (fd : FuncData), Pr.fns f = some e.f ∧ chkFn T d e = true ∧ FunD K d.name d.qual d.params d.body d.scope (d.dvs K) (d.kws K) fa fd ∧ mg (Str.ofString f) = some (.ref fa)
  glo : ∀ x ∈ T.glo, ∃ d u v, Pr.glo x = some d ∧ mg (Str.ofString x) = some u ∧ RelV v u ∧ ∀ ρ H, Rv K ρ H d v
  blt : ∀ x ∈ bNames, mg (Str.ofString x) = none
  exs : ∀ x ∈ T.exs, ∃ fl, Pr.ini x = some fl ∧ XCls P w K mg base 1 x fl
  cat : ∀ x ∈ T.cat, ∃ v, mg (Str.ofString x) = some v ∧ ∀ y cls dd ρ H, ExnR K mg ρ H y cls dd → PySem.W.exmOne K cls v = some (Pr.isa y.cls x)
theorem XCls.mono {P : Program} {w : World} {K : Fg} {mg : Str → Option Value} {base : Heap} {j k : Nat} {nm : String} {fl : List String} (h : j ≤ k) (x : XCls P w K mg base j nm fl) : XCls P w K mg base k nm fl :=
  ⟨x.inX, let ⟨C, fI, fd, ps, a, b, c, d, e, f, g, i⟩ := x.run; ⟨C, fI, fd, ps, a, b, c, d, e, f, g.mono h, i⟩, x.two⟩
theorem prog_ok {P : Program} {w : World} {K : Fg} {mg : Str → Option Value} {base : Heap} {T : Tab} {Pr : Prog} {fu : Nat} (G : PgX P w K mg base T Pr) : ∀ n, Fx P w K mg base T (2 * n + 1) (ctx Pr fu (callN Pr fu n)) ∧
    ∀ f ∈ T.fns, ∀ (fa : Addr), mg (Str.ofString f) = some (.ref fa) → ∃ fd ps, FnOk P w K mg base (L2.CX P w) (2 * n + 1) fa fd ps (spOf K mg (callN Pr fu n f)) ∧ Binds K fd ps [] ∧ ∀ (s : Shared) (us : List Value), us.length = ps.length → BindsTo s fd ⟨us, []⟩ (ps.zip us) := by
  have mk : ∀ n, (∀ f ∈ T.fns, ∀ (fa : Addr), mg (Str.ofString f) = some (.ref fa) → ∃ fd ps, FnOk P w K mg base (L2.CX P w) (2 * n + 1) fa fd ps (spOf K mg (callN Pr fu n f)) ∧ Binds K fd ps [] ∧ ∀ (s : Shared) (us : List Value), us.length = ps.length → BindsTo s fd ⟨us, []⟩ (ps.zip us)) →
      Fx P w K mg base T (2 * n + 1) (ctx Pr fu (callN Pr fu n)) := fun n h => by
    refine ⟨fun f hf => ?_, G.glo, G.blt, fun x hx => ?_, G.cat⟩
    · obtain ⟨d, e, fa, fd0, _, _, F, hm⟩ := G.fns f hf
      obtain ⟨fd, ps, k1, k2, _⟩ := h f hf fa hm
      exact ⟨fa, fd, ps, hm, F.kp, k2, k1⟩
    · obtain ⟨fl, k1, k2⟩ := G.exs x hx
      exact ⟨fl, k1, k2.mono (by omega)⟩
  intro n
  induction n with
  | zero =>
    have z : ∀ f ∈ T.fns, ∀ (fa : Addr), mg (Str.ofString f) = some (.ref fa) → ∃ fd ps, FnOk P w K mg base (L2.CX P w) (2 * 0 + 1) fa fd ps (spOf K mg (callN Pr fu 0 f)) ∧ Binds K fd ps [] ∧ ∀ (s : Shared) (us : List Value), us.length = ps.length → BindsTo s fd ⟨us, []⟩ (ps.zip us) := by
      intro f hf fa hm
      obtain ⟨d, e, fa', fd, _, hc, F, hm'⟩ := G.fns f hf
      rw [hm] at hm'
      cases hm'
      unfold chkFn at hc
      simp only [Bool.and_eq_true, decide_eq_true_eq, List.isEmpty_iff] at hc
      obtain ⟨h1, h2, h3, h4, h5, h6, h7, h8, h9⟩ := hc
      have e1 : d.dvs K = [] := by unfold He.DefD.dvs; rw [h2]; rfl
      have e2 : d.kws K = [] := by unfold He.DefD.kws; rw [h3]; rfl
      rw [e1, e2] at F
      have no : ∀ vs H Q E, ¬ spOf K mg (callN Pr fu 0 f) vs H Q E := fun vs H Q E ⟨ρ, S, ds, R, rs, g⟩ => g
      exact ⟨fd, e.ps, ⟨fun vs H Q E h => (no vs H Q E h).elim, fun A outer s H args us vs Q E _ _ _ _ h => (no vs H Q E h).elim⟩, F.bindsN fun _ _ _ _ _ _ us hl => bind_of h5 hl, F.bindsA fun _ _ _ _ _ _ us hl => bind_of h5 hl⟩
    exact ⟨mk 0 z, z⟩
  | succ n ih =>
    have z : ∀ f ∈ T.fns, ∀ (fa : Addr), mg (Str.ofString f) = some (.ref fa) → ∃ fd ps, FnOk P w K mg base (L2.CX P w) (2 * (n + 1) + 1) fa fd ps (spOf K mg (callN Pr fu (n + 1) f)) ∧ Binds K fd ps [] ∧ ∀ (s : Shared) (us : List Value), us.length = ps.length → BindsTo s fd ⟨us, []⟩ (ps.zip us) := by
      intro f hf fa hm
      obtain ⟨d, e, fa', fd, hp, hc, F, hm'⟩ := G.fns f hf
      rw [hm] at hm'
      cases hm'
      obtain ⟨k1, k2, k3⟩ := fn_ok (c := ctx Pr fu (callN Pr fu n)) rfl F hc ih.1
      refine ⟨fd, e.ps, ?_, k2, k3⟩
      have eq : callN Pr fu (n + 1) f = fun ds S => if ds.length = e.f.pars then fin S (endR (evSs (ctx Pr fu (callN Pr fu n)) e.f.body (ds.map some ++ List.replicate (e.f.slots - e.f.pars) none) S)) else .bad := by
        funext ds
        show (match Pr.fns f with
          | some fn => runF Pr fu (callN Pr fu n) fn ds
          | none => bad) = _
        rw [hp]
        rfl
      rw [eq]
      exact k1
    exact ⟨mk (n + 1) z, z⟩
end Mi

set_option Elab.async false
set_option linter.all false
set_option maxRecDepth 100000
set_option maxHeartbeats 4000000
/-! Mi, 20: the facts of a module, read off its objects. -/
namespace Mi
open PySem PySem.Spec PyProof.Rows L2
/-! ### constants -/
mutual
def dvB (K : Fg) : D → Value → Bool
  | .non, .none => true
  | .bl b, .bool c => b == c
  | .int i, .int j _ => decide (i = j)
  | .str s, .str t _ => decide (t = sV s)
  | .tup ds, .ref a => (match K.lookup a with
    | some ⟨.type c, _, .seq its _, _⟩ => decide (c = "tuple") && (decide (its.size ≤ sizeLine) && dvBs K ds its.toList)
    | _ => false)
  | _, _ => false
def dvBs (K : Fg) : List D → List Value → Bool
  | [], [] => true
  | d :: ds, u :: us => dvB K d u && dvBs K ds us
  | _, _ => false
end
mutual
theorem dv_ok {K : Fg} : ∀ {d : D} {u : Value}, dvB K d u = true → ∃ v, RelV v u ∧ ∀ ρ H, Rv K ρ H d v
  | .non, u, h => by
    cases u with
    | none => exact ⟨.non, rfl, fun _ _ => rfl⟩
    | _ => exact ff h
  | .bl b, u, h => by
    cases u with
    | bool c =>
      have e : b = c := eq_of_beq (show (b == c) = true from h)
      exact ⟨.bl b, by rw [e]; rfl, fun _ _ => rfl⟩
    | _ => exact ff h
  | .int i, u, h => by
    cases u with
    | int j t =>
      have e : i = j := of_decide_eq_true h
      exact ⟨.int i, ⟨t, by rw [e]⟩, fun _ _ => rfl⟩
    | _ => exact ff h
  | .str s, u, h => by
    cases u with
    | str y t =>
      have e : y = sV s := of_decide_eq_true h
      exact ⟨.str (sV s), ⟨t, by rw [e]⟩, fun _ _ => rfl⟩
    | _ => exact ff h
  | .tup ds, u, h => by
    cases u with
    | ref a =>
      have h : (match K.lookup a with
        | some ⟨.type c, _, .seq its _, _⟩ => decide (c = "tuple") && (decide (its.size ≤ sizeLine) && dvBs K ds its.toList)
        | _ => false) = true := h
      cases q : K.lookup a with
      | none => rw [q] at h; exact ff h
      | some o =>
        obtain ⟨oc, od, dt, sl⟩ := o
        rw [q] at h
        cases oc with
        | type cn =>
          cases dt with
          | seq its n =>
            have h : (decide (cn = "tuple") && (decide (its.size ≤ sizeLine) && dvBs K ds its.toList)) = true := h
            simp only [Bool.and_eq_true, decide_eq_true_eq] at h
            obtain ⟨h1, h2, h3⟩ := h
            obtain ⟨vs, k1, k2⟩ := dvs_ok h3
            exact ⟨.ref a, rfl, fun ρ H => ⟨a, vs, rfl, .inr ⟨_, its, n, q, by rw [h1], rfl, h2, k1⟩, k2 ρ H⟩⟩
          | _ => exact ff h
        | _ => cases dt <;> exact ff h
    | _ => exact ff h
  | .ref n, u, h => by cases u <;> exact ff h
  | .rol n, u, h => by cases u <;> exact ff h
theorem dvs_ok {K : Fg} : ∀ {ds : List D} {us : List Value}, dvBs K ds us = true → ∃ vs, Vals vs us ∧ ∀ ρ H, Rvs K ρ H ds vs
  | [], [], _ => ⟨[], .nil, fun _ _ => rfl⟩
  | [], _ :: _, h => ff h
  | _ :: _, [], h => ff h
  | d :: ds, u :: us, h => by
    have h : (dvB K d u && dvBs K ds us) = true := h
    rw [Bool.and_eq_true] at h
    obtain ⟨v, k1, k2⟩ := dv_ok h.1
    obtain ⟨vs, k3, k4⟩ := dvs_ok h.2
    exact ⟨v :: vs, .cons k1 k3, fun ρ H => ⟨v, vs, rfl, k2 ρ H, k4 ρ H⟩⟩
end
def gloB (K : Fg) (p : String × D) : Bool := match PySem.W.nsIn K mainGlobals (Str.ofString p.1) with
  | some (some u) => dvB K p.2 u
  | _ => false
/-! ### exception classes -/
def oexB (K : Fg) (C : Addr) : Bool := (match K.lookup C with
  | some ⟨.type "type", _, .cls cd, sl⟩ => (match cd.mro, sl.toList with
    | .ref C' :: bm, [_, _, _, _, some (.builtin n), _] => decide (C' = C) && (decide (n = "ValueError.__new__") && (cd.hasDict && (!cd.hasDel && PySem.HandSPX.refsVE bm)))
    | _, _ => false)
  | _ => false) && (decide (PySem.W.findIn K (.ref C) "__setattr__" = some (some (.builtin "object.__setattr__"))) && (decide (PySem.W.subIn K (.ref C) (.type "BaseException") = some true) && (decide (PySem.W.typeIn K (.ref C) = some (.type "type")) && PySem.W.keepIn K (.ref C))))
theorem oex_ok {K : Fg} {C : Addr} (h : oexB K C = true) : OexC K C := by
  unfold oexB at h
  simp only [Bool.and_eq_true, decide_eq_true_eq] at h
  obtain ⟨h1, h2, h3, h4, h5⟩ := h
  refine ⟨?_, h2, h3, h4, h5⟩
  split at h1
  · rename_i dd cd sl ho
    split at h1
    · rename_i C' bm k0 k1 k2 k3 n k5 hm hs
      simp only [Bool.and_eq_true, decide_eq_true_eq, Bool.not_eq_true'] at h1
      obtain ⟨rfl, rfl, e1, e2, e3⟩ := h1
      obtain ⟨nm, bs, mro, ns, qn, hd, sn, sub, ab, col, del⟩ := cd
      dsimp only at hm e1 e2
      subst hm e1 e2
      have hsl : sl = #[k0, k1, k2, k3, some (.builtin "ValueError.__new__"), k5] := by
        obtain ⟨l⟩ := sl
        simp only at hs
        rw [hs]
      subst hsl
      exact ⟨nm, qn, ns, bs, bm, sn, sub, ab, col, dd, k0, k1, k2, k3, k5, ho, e3⟩
    · cases h1
  · cases h1
def exB (K : Fg) (p : String × List String) : Bool := oexB K (He.ga K (Str.ofString p.1)) && (xfB K (He.ga K (Str.ofString p.1)) && ((p.2.all fun f => decide (PySem.W.findIn K (.ref (He.ga K (Str.ofString p.1))) (Str.ofString f) = some none)) &&
  (decide (PySem.W.nsIn K mainGlobals (Str.ofString p.1) = some (some (.ref (He.ga K (Str.ofString p.1))))) && (decide (PySem.W.findIn K (.ref (He.ga K (Str.ofString p.1))) "__init__" = some (some (.ref (He.ma K (He.ga K (Str.ofString p.1)) "__init__")))) && decide (PySem.W.typeIn K (.ref (He.ma K (He.ga K (Str.ofString p.1)) "__init__")) = some (.type "function"))))))
/-- __init__: self.f = p (; self.g = q) -/
def iniB (d : He.DefD) (nm : String) (fl : List String) : Bool := decide (d.at_ = (Str.ofString nm, some ("__init__" : Str))) && (d.dfl.isEmpty && (d.kwd.isEmpty && (parB d.params (d.params.args.map (·.arg)) && (fscB (d.params.args.map (·.arg)) (d.params.args.map (·.arg)) d.scope &&
  (match d.body, fl with
  | [.Assign [.Attribute (.Name s _) f _] (.Name p _) _], [g] => decide (f = Str.ofString g) && (decide ((d.params.args.map (·.arg)).length = 2) && (vis ⟨d.params.args.map (·.arg), d.scope, none, false, none⟩ 0 s && vis ⟨d.params.args.map (·.arg), d.scope, none, false, none⟩ 1 p))
  | [.Assign [.Attribute (.Name s _) f _] (.Name p _) _, .Assign [.Attribute (.Name s' _) f' _] (.Name p' _) _], [g, g'] => decide (f = Str.ofString g) && (decide (f' = Str.ofString g') && (decide ((d.params.args.map (·.arg)).length = 3) && ((vis ⟨d.params.args.map (·.arg), d.scope, none, false, none⟩ 0 s && vis ⟨d.params.args.map (·.arg), d.scope, none, false, none⟩ 1 p) &&
    (vis ⟨d.params.args.map (·.arg), d.scope, none, false, none⟩ 0 s' && vis ⟨d.params.args.map (·.arg), d.scope, none, false, none⟩ 2 p'))))
  | _, _ => false)))))
theorem vis_raw {z : Zn} {i : Nat} {x : Str} (h : vis z i x = true) : z.N[i]? = some x ∧ Vis z.sc x ∧ (x == ("__debug__" : Str)) = false ∧ (x == ("__classdict__" : Str)) = false := by
  unfold vis at h
  simp only [Bool.and_eq_true, decide_eq_true_eq, Bool.not_eq_true'] at h
  obtain ⟨h1, h2, h3, h4⟩ := h
  refine ⟨h1, ?_, h3, h4⟩
  unfold Vis
  split at h2
  · exact .inl (by assumption)
  · exact .inr (.inl (by assumption))
  · exact .inr (.inr (by assumption))
  · cases h2
theorem ini_ok {P : Program} {w : World} {K : Fg} {mg : Str → Option Value} {base : Heap} {d : He.DefD} {nm : String} {fl : List String} {fa : Addr} {fd : FuncData} {C : Addr} (T : OexC K C) (hno : ∀ f ∈ fl, PySem.W.findIn K (.ref C) (Str.ofString f) = some none)
    (F : FunD K d.name d.qual d.params d.body d.scope (d.dvs K) (d.kws K) fa fd) (h : iniB d nm fl = true) : ∃ ps, FnOk P w K mg base (L2.CX P w) 1 fa fd ps (spI C (fl.map Str.ofString)) ∧ Binds K fd ps [] := by
  unfold iniB at h
  simp only [Bool.and_eq_true, decide_eq_true_eq, List.isEmpty_iff] at h
  obtain ⟨h1, h2, h3, h4, h5, h6⟩ := h
  have e1 : d.dvs K = [] := by unfold He.DefD.dvs; rw [h2]; rfl
  have e2 : d.kws K = [] := by unfold He.DefD.kws; rw [h3]; rfl
  rw [e1, e2] at F
  obtain ⟨N, hN⟩ : ∃ N, N = d.params.args.map (·.arg) := ⟨_, rfl⟩
  rw [← hN] at h4 h5 h6
  have SC := fsc_of h5
  refine ⟨N, ?_, F.bindsN fun _ _ _ _ _ _ us hl => bind_of h4 hl⟩
  split at h6
  · rename_i s q1 f q2 p q3 q4 g hbody
    simp only [Bool.and_eq_true, decide_eq_true_eq] at h6
    obtain ⟨rfl, hl, v0, v1⟩ := h6
    obtain ⟨a1, a2, a3, a4⟩ := vis_raw v0
    obtain ⟨b1, b2, b3, b4⟩ := vis_raw v1
    refine FunD.ok F SC (fun vs H Q E ⟨a, ws, e, l, _⟩ => by rw [e, List.length_cons, l, hl]; rfl) fun cdv A outer s0 H vs Q E hr hsp => ?_
    obtain ⟨a, ws, rfl, l, ha, hq⟩ := hsp
    match ws, l, hq with
    | [w1], l, hq =>
      refine ⟨tOst K (Str.ofString g) (tVar 0) (tVar 1), by rw [hbody]; exact pss_one (ps_ost (pe_var a1 a2 a3 a4) (pe_var b1 b2 b3 b4)), ?_⟩
      have st0 : (L2.start N [V.ref a, w1])[0]? = some (some (.ref a)) := rfl
      have st1 : (L2.start N [V.ref a, w1])[1]? = some (some w1) := rfl
      refine ⟨w1, st1, .ref a, st0, a, C, rfl, T, hno g (by simp), .inl ⟨ha, fun dx hdx hne => ?_⟩⟩
      exact hq dx _ hdx hne upd_same (by rw [upd_ne hne, upd_same]; rfl) fun b hb1 hb2 => by rw [upd_ne hb1, upd_ne hb2]
  · rename_i s q1 f q2 p q3 q4 s' q5 f' q6 p' q7 q8 g g' hbody
    simp only [Bool.and_eq_true, decide_eq_true_eq] at h6
    obtain ⟨rfl, rfl, hl, ⟨v0, v1⟩, v2, v3⟩ := h6
    obtain ⟨a1, a2, a3, a4⟩ := vis_raw v0
    obtain ⟨b1, b2, b3, b4⟩ := vis_raw v1
    obtain ⟨c1, c2, c3, c4⟩ := vis_raw v2
    obtain ⟨d1, d2, d3, d4⟩ := vis_raw v3
    refine FunD.ok F SC (fun vs H Q E ⟨a, ws, e, l, _⟩ => by rw [e, List.length_cons, l, hl]; rfl) fun cdv A outer s0 H vs Q E hr hsp => ?_
    obtain ⟨a, ws, rfl, l, ha, hq⟩ := hsp
    match ws, l, hq with
    | [w1, w2], l, hq =>
      refine ⟨tSeq (tOst K (Str.ofString g) (tVar 0) (tVar 1)) (tOst K (Str.ofString g') (tVar 0) (tVar 2)), by rw [hbody]; exact pss_cons (ps_ost (pe_var a1 a2 a3 a4) (pe_var b1 b2 b3 b4)) (pss_one (ps_ost (pe_var c1 c2 c3 c4) (pe_var d1 d2 d3 d4))), ?_⟩
      have st0 : (L2.start N [V.ref a, w1, w2])[0]? = some (some (.ref a)) := rfl
      have st1 : (L2.start N [V.ref a, w1, w2])[1]? = some (some w1) := rfl
      have st2 : (L2.start N [V.ref a, w1, w2])[2]? = some (some w2) := rfl
      refine ⟨w1, st1, .ref a, st0, a, C, rfl, T, hno g (by simp), .inl ⟨ha, fun dx hdx hne => ?_⟩⟩
      refine ⟨w2, st2, .ref a, st0, a, C, rfl, T, hno g' (by simp), .inr ⟨dx, _, upd_same, by rw [upd_ne hne, upd_same], by simp, ?_⟩⟩
      exact hq dx _ hdx hne (by rw [upd_ne (Ne.symm hne), upd_same]) (by rw [upd_same]; rfl) fun b hb1 hb2 => by rw [upd_ne hb2, upd_ne hb1, upd_ne hb2]
  · cases h6
/-! ### what catches what -/
def famOf : String → String
  | "NotUsable" => "CallError"
  | "NotFor" => "CallError"
  | "BadMove" => "RunError"
  | "BadText" => "TextError"
  | "NoSuch" => "ShelfError"
  | "Taken" => "ShelfError"
  | _ => "DataError"
def isaX (x y : String) : Bool := decide (x = y) || (decide (famOf x = y) || decide (y = "AssentError"))
def catB (K : Fg) (y : String) : Bool := (match PySem.W.nsIn K mainGlobals (Str.ofString y) with
  | some (some v) => xNames.all fun x => (match PySem.W.nsIn K mainGlobals (Str.ofString x) with
    | some (some (.ref C)) => decide (PySem.W.exmOne K (.ref C) v = some (isaX x y))
    | some (some _) => true
    | some none => true
    | none => false)
  | _ => false)
theorem cat_ok {K : Fg} {h : Heap} {mg : Str → Option Value} (KX : K.In h) (G : h.Ns mainGlobals mg) {y : String} (hc : catB K y = true) : ∃ v, mg (Str.ofString y) = some v ∧ ∀ x cls dd ρ H, ExnR K mg ρ H x cls dd → PySem.W.exmOne K cls v = some (isaX x.cls y) := by
  unfold catB at hc
  split at hc
  · rename_i v hv
    refine ⟨v, PySem.W.mg_of KX G hv, fun x cls dd ρ H hx => ?_⟩
    obtain ⟨C, rfl, ⟨hm, hin⟩, _⟩ := hx
    have z := List.all_eq_true.mp hc x.cls hin
    split at z
    · rename_i C' hC'
      have q := PySem.W.mg_of KX G hC'
      rw [hm] at q
      cases q
      exact of_decide_eq_true z
    · rename_i u hu hne
      have q := PySem.W.mg_of KX G hne
      rw [hm] at q
      cases q
      exact (hu C rfl).elim
    · rename_i hC'
      have q := PySem.W.mg_none_of KX G hC'
      rw [hm] at q
      cases q
    · cases z
  · cases hc
/-! ### the Hook -/
/-- what the head's Hook tells beside the defs -/
structure HD where
  fns : List FnE
  glo : List (String × D)
  exs : List (String × List String)
  cat : List String
def HD.tab (h : HD) : Tab := ⟨h.fns.map (·.nm), h.glo.map (·.1), h.exs.map (·.1), h.cat⟩
def HD.fa (h : HD) : List He.Fa := (h.fns.map fun e => He.Fa.glo (Str.ofString e.nm)) ++ bNames.map fun x => He.Fa.free (Str.ofString x)
def HD.xb (h : HD) (K : Fg) : Bool := h.glo.all (gloB K) && (h.exs.all (exB K) && h.cat.all (catB K))
def HD.pr (h : HD) : Prog := ⟨fun f => (h.fns.find? fun e => e.nm == f).map (·.f), fun x => h.glo.lookup x, isaX, fun x => h.exs.lookup x⟩
def obsM (n : Nat) (h : HD) (fn : List He.DefD) (g : Addr → Option Obj) : He.AlD := ((He.obsDG n h.fa fn g).1 && h.xb (He.frG g (He.asD g n)), (He.obsDG n h.fa fn g).2)
def hookM (n : Nat) (h : HD) (fn : List He.DefD) : PySem.W.Hook where
  α := He.AlD
  obs := fun s => obsM n h fn s.heap.get?
  val := fun _ => He.valD fn
  says := fun _ hp => ∃ K : Fg, K.In hp ∧ He.SaysD h.fa fn K ∧ h.xb K = true
  of := fun _ s e => by
    have e1 : ((He.obsDG n h.fa fn s.heap.get?).1 && h.xb (He.frG s.heap.get? (He.asD s.heap.get? n))) = true := by
      have z := congrArg (fun z : He.AlD => z.1) e
      exact z
    have e2 : (He.obsDG n h.fa fn s.heap.get?).2 = (He.valD fn).2 := by
      have z := congrArg (fun z : He.AlD => z.2) e
      exact z
    rw [Bool.and_eq_true] at e1
    exact ⟨_, He.frG_in, Prod.ext e1.1 e2, e1.2⟩
  keeps := fun _ _ _ ⟨K, hK, c, x⟩ k => ⟨K, PySem.W.Frag.In.keeps hK k, c, x⟩
theorem obsM_eq {n : Nat} {h : HD} {fn : List He.DefD} {g : Addr → Option Obj} {s : Shared} (hg : ∀ a, g a = s.heap.get? a) : obsM n h fn g = (hookM n h fn).obs s := by
  have e : g = s.heap.get? := funext hg
  rw [e] <;> rfl
/-- the defs: first the functions, in their order, then the classes' __init__s -/
def HD.chk (h : HD) (fn : List He.DefD) : Bool := decide (fn.length = h.fns.length + h.exs.length) && (((fn.take h.fns.length).zip h.fns).all fun p => chkFn h.tab p.1 p.2) && (((fn.drop h.fns.length).zip h.exs).all fun p => iniB p.1 p.2.1 p.2.2) && (decide (h.fns.map (·.nm)).Nodup && (decide (h.glo.map (·.1)).Nodup && decide (h.exs.map (·.1)).Nodup)) &&
  (h.exs.all fun p => decide (p.1 ∈ xNames) && (match p.2 with
    | [_] => true
    | [f, g] => !(Str.ofString f == Str.ofString g)
    | _ => false))
theorem find_at {l : List FnE} (nd : (l.map (·.nm)).Nodup) : ∀ {i : Nat} {e : FnE}, l[i]? = some e → l.find? (fun x => x.nm == e.nm) = some e := by
  induction l with
  | nil => intro i e h; cases h
  | cons a l ih =>
    intro i e h
    rw [List.map_cons] at nd
    obtain ⟨h1, h2⟩ := List.nodup_cons.mp nd
    cases i with
    | zero =>
      cases h
      rw [List.find?_cons]
      simp
    | succ i =>
      have h : l[i]? = some e := h
      rw [List.find?_cons]
      have ne : (a.nm == e.nm) = false := by
        have : a.nm ≠ e.nm := fun q => h1 (by rw [q]; exact List.mem_map_of_mem (List.mem_of_getElem? h))
        simpa using this
      rw [ne]
      exact ih h2 h
theorem look_at {α : Type} {l : List (String × α)} (nd : (l.map (·.1)).Nodup) {p : String × α} (h : p ∈ l) : l.lookup p.1 = some p.2 := by
  induction l with
  | nil => cases h
  | cons a l ih =>
    rw [List.map_cons] at nd
    obtain ⟨h1, h2⟩ := List.nodup_cons.mp nd
    rw [List.lookup_cons]
    rcases List.mem_cons.mp h with e | e
    · rw [e]; simp
    · have ne : (p.1 == a.1) = false := by
        have : p.1 ≠ a.1 := fun q => h1 (by rw [← q]; exact List.mem_map_of_mem e)
        simpa using this
      rw [ne]
      exact ih h2 e
theorem zip_at {α β : Type} {as : List α} {bs : List β} {i : Nat} {a : α} {b : β} (h1 : as[i]? = some a) (h2 : bs[i]? = some b) : (a, b) ∈ as.zip bs :=
  List.mem_of_getElem? (i := i) (by rw [List.getElem?_zip_eq_some]; exact ⟨h1, h2⟩)
theorem pgx {P : Program} {w : World} {K : Fg} {hp base : Heap} {mg : Str → Option Value} {h : HD} {fn : List He.DefD} (KX : K.In hp) (G : hp.Ns mainGlobals mg) (c : He.SaysD h.fa fn K) (x : h.xb K = true) (hc : h.chk fn = true) : PgX P w K mg base h.tab h.pr := by
  unfold HD.chk at hc
  simp only [Bool.and_eq_true, decide_eq_true_eq] at hc
  obtain ⟨⟨⟨⟨h1, h2⟩, h3⟩, h4, h5, h6⟩, h7⟩ := hc
  unfold HD.xb at x
  simp only [Bool.and_eq_true] at x
  obtain ⟨x1, x2, x3⟩ := x
  have glo : ∀ e ∈ h.fns, mg (Str.ofString e.nm) = some (.ref (He.ga K (Str.ofString e.nm))) := fun e he => by
    obtain ⟨i, hi⟩ := List.getElem?_of_mem (show He.Fa.glo (Str.ofString e.nm) ∈ h.fa from List.mem_append_left _ (List.mem_map.mpr ⟨e, he, rfl⟩))
    exact He.glo_ok KX G (c.fact i hi)
  refine ⟨fun f hf => ?_, fun y hy => ?_, fun y hy => ?_, fun y hy => ?_, fun y hy => ?_⟩
  · obtain ⟨e, he, rfl⟩ := List.mem_map.mp hf
    obtain ⟨i, hi⟩ := List.getElem?_of_mem he
    have hil : i < h.fns.length := (List.getElem?_eq_some_iff.mp hi).1
    have hd : fn[i]? = some fn[i] := List.getElem?_eq_getElem (by omega)
    obtain ⟨fd, F⟩ := c.def_ i hd
    have hz := List.all_eq_true.mp h2 (fn[i], e) (zip_at (i := i) (by rw [List.getElem?_take_of_lt hil]; exact hd) hi)
    refine ⟨fn[i], e, _, fd, ?_, hz, F, ?_⟩
    · show (h.fns.find? fun x => x.nm == e.nm).map (·.f) = _
      rw [find_at h4 hi]
      rfl
    · have q := glo e he
      have at_ : (fn[i]).at_ = (Str.ofString e.nm, none) := by
        have hz : chkFn h.tab fn[i] e = true := hz
        unfold chkFn at hz
        rw [Bool.and_eq_true] at hz
        exact of_decide_eq_true hz.1
      rw [at_]
      exact q
  · obtain ⟨p, hp', rfl⟩ := List.mem_map.mp hy
    have z := List.all_eq_true.mp x1 p hp'
    unfold gloB at z
    split at z
    · rename_i u hu
      obtain ⟨v, k1, k2⟩ := dv_ok z
      exact ⟨p.2, u, v, look_at h5 hp', PySem.W.mg_of KX G hu, k1, k2⟩
    · cases z
  · obtain ⟨i, hi⟩ := List.getElem?_of_mem (show He.Fa.free (Str.ofString y) ∈ h.fa from List.mem_append_right _ (List.mem_map.mpr ⟨y, hy, rfl⟩))
    exact He.free_ok KX G (c.fact i hi)
  · obtain ⟨p, hp', rfl⟩ := List.mem_map.mp hy
    refine ⟨p.2, look_at h6 hp', ?_⟩
    have z := List.all_eq_true.mp x2 p hp'
    have z2 := List.all_eq_true.mp h7 p hp'
    unfold exB at z
    simp only [Bool.and_eq_true, decide_eq_true_eq, List.all_eq_true] at z
    obtain ⟨z1, z3, z4, z5, z6, z7⟩ := z
    obtain ⟨j, hj⟩ := List.getElem?_of_mem hp'
    have hjl : j < h.exs.length := (List.getElem?_eq_some_iff.mp hj).1
    have hd : fn[h.fns.length + j]? = some fn[h.fns.length + j] := List.getElem?_eq_getElem (by omega)
    obtain ⟨fd, F⟩ := c.def_ (h.fns.length + j) hd
    have hz := List.all_eq_true.mp h3 (fn[h.fns.length + j], p) (zip_at (i := j) (by rw [List.getElem?_drop]; exact hd) hj)
    have T := oex_ok z1
    have at_ : (fn[h.fns.length + j]).at_ = (Str.ofString p.1, some ("__init__" : Str)) := by
      have hz : iniB fn[h.fns.length + j] p.1 p.2 = true := hz
      unfold iniB at hz
      rw [Bool.and_eq_true] at hz
      exact of_decide_eq_true hz.1
    obtain ⟨ps, k1, k2⟩ := ini_ok (P := P) (w := w) (mg := mg) (base := base) T z4 F hz
    rw [at_] at k1
    simp only [Bool.and_eq_true, decide_eq_true_eq] at z2
    refine ⟨z2.1, ⟨_, _, fd, ps, PySem.W.mg_of KX G z5, T, xfB_ok z3, z4, z6, z7, k1, k2⟩, ?_⟩
    have z2 := z2.2
    split at z2
    · exact .inl ⟨_, by assumption⟩
    · exact .inr ⟨_, _, by assumption, by simpa using z2⟩
    · cases z2
  · exact cat_ok KX G (List.all_eq_true.mp x3 y hy)
end Mi

set_option Elab.async false
set_option linter.all false
set_option maxRecDepth 100000
set_option maxHeartbeats 4000000
/-! Mi, 21: a law's end. -/
namespace Mi
open PySem PySem.Spec PyProof.Rows L2
theorem fn_cx {P : Program} {w : World} {K : Fg} {mg : Str → Option Value} {base : Heap} {CX CX' : CXT} {k : Nat} {f : Addr} {fd : FuncData} {ps : List Str} {sp : Sp} (h : ∀ o H s E e s', CX o H s E e s' → CX' o H s E e s') (F : FnOk P w K mg base CX k f fd ps sp) : FnOk P w K mg base CX' k f fd ps sp :=
  ⟨F.len, fun A outer s H args us vs Q E hr he hb hv hs => codeAny_mono (F.run A outer s H args us vs Q E hr he hb hv hs) fun r s' q => by
    cases r with
    | ok fl => cases fl <;> exact q
    | error e => exact h _ _ _ _ _ _ q⟩
/-- how an exception lies, in some World -/
def CXN (P : Program) : CXT := fun o H s E e s' => ∃ w, L2.CX P w o H s E e s'
/-- the law's promise: some fuel, some depth -/
def spLaw (K : Fg) (mg : Str → Option Value) (Pr : Prog) (N0 : Nat) : Sp := fun vs H Q E => ∃ fu n, n ≤ N0 ∧ spOf K mg (callN Pr fu (n + 1) "law") vs H Q E
theorem law_fn {P : Program} {w : World} {K : Fg} {hp : Heap} {mg : Str → Option Value} {h : HD} {fn : List He.DefD} {N0 : Nat} (KX : K.In hp) (G : hp.Ns mainGlobals mg) (c : He.SaysD h.fa fn K) (x : h.xb K = true) (hc : h.chk fn = true) {fa : Addr} (hm : mg (Str.ofString "law") = some (.ref fa))
    {i : Nat} {e : FnE} (hi : h.fns[i]? = some e) (hn : e.nm = "law") {y : Str} (hy : e.ps = [y]) :
    ∃ fd : FuncData, (∀ (s : Shared) (u : Value), BindsTo s fd ⟨[u], []⟩ [(y, u)]) ∧ ∀ base : Heap, K.In base → base.Ns mainGlobals mg → FnOk P w K mg base (CXN P) (2 * N0 + 3) fa fd [y] (spLaw K mg h.pr N0) := by
  have hc0 := hc
  unfold HD.chk at hc
  simp only [Bool.and_eq_true, decide_eq_true_eq] at hc
  obtain ⟨⟨⟨⟨h1, h2⟩, h3⟩, h4, h5, h6⟩, h7⟩ := hc
  have hil : i < h.fns.length := (List.getElem?_eq_some_iff.mp hi).1
  have hd : fn[i]? = some fn[i] := List.getElem?_eq_getElem (by omega)
  obtain ⟨fd, F⟩ := c.def_ i hd
  have hz : chkFn h.tab fn[i] e = true := List.all_eq_true.mp h2 (fn[i], e) (zip_at (i := i) (by rw [List.getElem?_take_of_lt hil]; exact hd) hi)
  have at_ : (fn[i]).at_ = (Str.ofString "law", none) := by
    have hz := hz
    unfold chkFn at hz
    rw [Bool.and_eq_true] at hz
    rw [← hn]
    exact of_decide_eq_true hz.1
  have efa : fa = He.fAd K (fn[i]).at_ := by
    obtain ⟨j, hj⟩ := List.getElem?_of_mem (show He.Fa.glo (Str.ofString e.nm) ∈ h.fa from List.mem_append_left _ (List.mem_map.mpr ⟨e, List.mem_of_getElem? hi, rfl⟩))
    have q := He.glo_ok KX G (c.fact j hj)
    rw [hn, hm] at q
    cases q
    rw [at_]
    rfl
  subst efa
  have key : ∀ base fu n, n ≤ N0 → FnOk P w K mg base (CXN P) (2 * N0 + 3) (He.fAd K (fn[i]).at_) fd e.ps (spOf K mg (callN h.pr fu (n + 1) "law")) ∧ ∀ (s : Shared) (us : List Value), us.length = e.ps.length → BindsTo s fd ⟨us, []⟩ (e.ps.zip us) := fun base fu n hle => by
    have G' := pgx (P := P) (w := w) (base := base) KX G c x hc0
    obtain ⟨k1, k2, k3⟩ := fn_ok (c := ctx h.pr fu (callN h.pr fu n)) rfl F hz (prog_ok (fu := fu) G' n).1
    refine ⟨?_, k3⟩
    have eq : callN h.pr fu (n + 1) "law" = fun ds S => if ds.length = e.f.pars then fin S (endR (evSs (ctx h.pr fu (callN h.pr fu n)) e.f.body (ds.map some ++ List.replicate (e.f.slots - e.f.pars) none) S)) else .bad := by
      funext ds
      show (match h.pr.fns "law" with
        | some fn => runF h.pr fu (callN h.pr fu n) fn ds
        | none => bad) = _
      have hp : h.pr.fns "law" = some e.f := by
        show (h.fns.find? fun x => x.nm == "law").map (·.f) = _
        rw [← hn, find_at h4 hi]
        rfl
      rw [hp]
      rfl
    rw [eq]
    exact fn_cx (fun _ _ _ _ _ _ q => ⟨w, q⟩) (k1.mono (by omega))
  refine ⟨fd, fun s u => ?_, fun base _ _ => ?_⟩
  · have q := (key hp 0 0 (Nat.zero_le _)).2 s [u] (by rw [hy]; rfl)
    rw [hy] at q
    exact q
  · rw [← hy]
    exact ⟨fun vs H Q E ⟨fu, n, hle, q⟩ => (key base fu n hle).1.len vs H Q E q, fun A outer s H args us vs Q E hr he hb hv ⟨fu, n, hle, q⟩ => (key base fu n hle).1.run A outer s H args us vs Q E hr he hb hv q⟩
/-- the script as data -/
abbrev scr (ns : List Int) : D := .rol (ns.map D.int)
theorem law_sp {K : Fg} {mg : Str → Option Value} {Pr : Prog} {N0 : Nat} {H : Hp} {a : Addr} {ns : List Int} (hO : Only H) (hS : SqL K H a (ns.map V.int)) (hl : ∃ fu n S', n ≤ N0 ∧ callN Pr fu (n + 1) "law" [scr ns] [] = .ok (.bl true) S') :
    spLaw K mg Pr N0 [.ref a] H (fun v _ => v = .bl true) fun _ _ _ => False := by
  obtain ⟨fu, n, S', hle, hr⟩ := hl
  refine ⟨fu, n, hle, [], [], [scr ns], ⟨rfl, List.nodup_nil, fun m o e => by cases e⟩, ⟨.ref a, [], rfl, ⟨a, ns.map V.int, rfl, ?_, rvs_ints ns⟩, rfl⟩, ?_⟩
  · rcases hS with (h | ⟨o, h⟩) | h
    · rcases hO a with z | ⟨o, xs, z⟩
      · rw [h] at z; cases z
      · rw [h] at z; cases z
    · exact .inl ⟨by simp, o, h⟩
    · exact .inr h
  · rw [hr]
    intro ρ' H' s R v rv
    exact rv
/-- a law over the head -/
theorem walk_mi {l : PySem.W.OpenLaw} {q : Program} {loose : List Str} {XP : (Str → Option Value) → Heap → Prop} {d : DefRec} {h : HD} {fn : List He.DefD} {m N0 i : Nat} {e : FnE} {y : Str} (hn : l.most = some 63) (hdf : d.params.defaults = []) (hnm : d.name = Str.ofString "law") (hr : Room (2 * N0 + 3) callerA)
    (hc : h.chk fn = true) (hi : h.fns[i]? = some e) (he : e.nm = "law") (hy : e.ps = [y]) (math : ∀ ns : List Int, ns.length ≤ 63 → ∃ fu n S', n ≤ N0 ∧ callN h.pr fu (n + 1) "law" [scr ns] [] = .ok (.bl true) S') :
    PySem.W.WalkO q loose XP (hookM m h fn).says l.row.toRowW d [] (fun f vs => PySem.call f vs) := by
  refine L2.walk_ofE (l := l) (n := 63) (k := 2 * N0 + 3) (x := y) (CX := CXN l.prog) hn (by decide) hdf hr (fun w mg fa hp Y G hmg => ?_) fun H s e s' ⟨w, z⟩ => ?_
  · obtain ⟨K, KX, c, x⟩ := Y
    rw [hnm] at hmg
    obtain ⟨fd, hb, hF⟩ := law_fn (P := l.prog) (w := w) (N0 := N0) KX G c x hc hmg hi he hy
    exact ⟨K, fd, spLaw K mg h.pr N0, KX, hb, fun H a ns hl hO hS => law_sp hO hS (math ns hl), hF⟩
  · obtain ⟨_, _, _, _, _, _, _, _, _, _, _, _, z⟩ := z
    exact z
end Mi

set_option Elab.async false
set_option linter.all false
set_option maxRecDepth 100000
set_option maxHeartbeats 4000000
/-! Mi, 22: running trees. -/
namespace Mi
/-! ### a call -/
theorem call_eq {P : Prog} {fu n : Nat} {f : String} {fn : Fn} {ds : List D} {S : Store} (h : P.fns f = some fn) (hl : ds.length = fn.pars) :
    callN P fu (n + 1) f ds S = fin S (endR (evSs (ctx P fu (callN P fu n)) fn.body (ds.map some ++ List.replicate (fn.slots - fn.pars) none) S)) := by
  show (match P.fns f with
    | some fn => runF P fu (callN P fu n) fn ds
    | none => bad) S = _
  rw [h]
  show (if ds.length = fn.pars then _ else _) = _
  rw [if_pos hl]
theorem oldOk_app (S g : Store) : oldOk S (S ++ g) = true := by
  unfold oldOk
  refine List.all_eq_true.mpr fun n hn => ?_
  have hn : n < S.length := List.mem_range.mp hn
  rw [List.getElem?_append_left hn]
  simp
theorem oldOk_self (S : Store) : oldOk S S = true := by
  have := oldOk_app S []
  rwa [List.append_nil] at this
/-- what a call gives that only adds to the store -/
theorem fin_ok {S g : Store} {d : D} (h : d.bel S.length = true) : fin S (.ok d (S ++ g)) = .ok d S := by
  unfold fin
  simp only [h, oldOk_app, Bool.and_self, if_true]
  rw [List.take_left']
  rfl
theorem fin_ok0 {S : Store} {d : D} (h : d.bel S.length = true) : fin S (.ok d S) = .ok d S := by
  have := fin_ok (g := []) h
  rwa [List.append_nil] at this
theorem fin_exn {S g : Store} {x : Exn} (h : (x.fs.all fun p => p.2.bel S.length) = true) : fin S (.exn x (S ++ g)) = .exn x S := by
  unfold fin
  simp only [h, oldOk_app, Bool.and_self, if_true]
  rw [List.take_left']
  rfl
theorem fin_exn0 {S : Store} {x : Exn} (h : (x.fs.all fun p => p.2.bel S.length) = true) : fin S (.exn x S) = .exn x S := by
  have := fin_exn (g := []) h
  rwa [List.append_nil] at this
/-! ### steps -/
section
variable {c : Ctx} {δ δ' : Env} {S S' : Store} {s : St} {ss : Ss} {d : D} {x : Exn}
@[simp] theorem ss_nil' : evSs c .nil δ S = .nx δ S := rfl
theorem ss_nx (h : evS c s δ S = .nx δ' S') : evSs c (.cons s ss) δ S = evSs c ss δ' S' := by
  show (match evS c s δ S with
    | .nx δ' S' => evSs c ss δ' S'
    | .cont δ' S' => .cont δ' S'
    | .brk δ' S' => .brk δ' S'
    | .ret d S' => .ret d S'
    | .exn x δ' S' => .exn x δ' S'
    | .bad => .bad) = _
  rw [h]
theorem ss_ret (h : evS c s δ S = .ret d S') : evSs c (.cons s ss) δ S = .ret d S' := by
  show (match evS c s δ S with
    | .nx δ' S' => evSs c ss δ' S'
    | .cont δ' S' => .cont δ' S'
    | .brk δ' S' => .brk δ' S'
    | .ret d S' => .ret d S'
    | .exn x δ' S' => .exn x δ' S'
    | .bad => .bad) = _
  rw [h]
theorem ss_exn (h : evS c s δ S = .exn x δ' S') : evSs c (.cons s ss) δ S = .exn x δ' S' := by
  show (match evS c s δ S with
    | .nx δ' S' => evSs c ss δ' S'
    | .cont δ' S' => .cont δ' S'
    | .brk δ' S' => .brk δ' S'
    | .ret d S' => .ret d S'
    | .exn x δ' S' => .exn x δ' S'
    | .bad => .bad) = _
  rw [h]
theorem s_ifT' {t : E} {a b : Ss} (h : evT c δ t S = .ok true S') : evS c (.if_ t a b) δ S = evSs c a δ S' := by
  show lift δ (evT c δ t S) _ = _
  rw [h]
  rfl
theorem s_ifF' {t : E} {a b : Ss} (h : evT c δ t S = .ok false S') : evS c (.if_ t a b) δ S = evSs c b δ S' := by
  show lift δ (evT c δ t S) _ = _
  rw [h]
  rfl
theorem s_asg' {t : Tg} {e : E} (h : evE c δ e S = .ok d S') (hp : putT t d δ = some δ') : evS c (.asg t e) δ S = .nx δ' S' := by
  show lift δ (evE c δ e S) _ = _
  rw [h]
  show (match putT t d δ with | some δ' => SR.nx δ' S' | none => .bad) = _
  rw [hp]
theorem s_exp' {e : E} (h : evE c δ e S = .ok d S') : evS c (.exp e) δ S = .nx δ S' := by
  show lift δ (evE c δ e S) _ = _
  rw [h]
  rfl
theorem s_expX {e : E} (h : evE c δ e S = .exn x S') : evS c (.exp e) δ S = .exn x δ S' := by
  show lift δ (evE c δ e S) _ = _
  rw [h]
  rfl
theorem s_ret' {e : E} (h : evE c δ e S = .ok d S') : evS c (.ret e) δ S = .ret d S' := by
  show lift δ (evE c δ e S) _ = _
  rw [h]
  rfl
theorem s_rais' {k : String} {es : Es} {ds : List D} {fs : List String} (h : evEs c δ es S = .ok ds S') (hk : c.ini k = some fs) (hl : fs.length = ds.length) : evS c (.rais k es) δ S = .exn ⟨k, fs.zip ds⟩ δ S' := by
  show lift δ (evEs c δ es S) _ = _
  rw [h]
  show (match c.ini k with | some fs => if fs.length = ds.length then SR.exn ⟨k, fs.zip ds⟩ δ S' else .bad | none => .bad) = _
  rw [hk]
  exact if_pos hl
theorem s_for' {t : Tg} {it : It} {b : Ss} {src : Src} (h : evI c δ it S = .ok src S') : evS c (.for_ t it b) δ S = forL src (fun d δ S => match putT t d δ with
    | some δ' => evSs c b δ' S
    | none => .bad) src.items δ S' := by
  show lift δ (evI c δ it S) _ = _
  rw [h]
  rfl
theorem bnd_ok' {α β : Type} {m : M α} {k : α → M β} {a : α} (h : m S = .ok a S') : bnd m k S = k a S' := bnd_ok h
theorem bnd_exn' {α β : Type} {m : M α} {k : α → M β} (h : m S = .exn x S') : bnd m k S = .exn x S' := by
  unfold bnd
  rw [h]
  rfl
theorem call_ctx {P : Prog} {fu : Nat} {cl : String → List D → M D} {f : String} {es : Es} {ds : List D} (h : evEs (ctx P fu cl) δ es S = .ok ds S') : evE (ctx P fu cl) δ (.call f es) S = cl f ds S' := by
  show bnd (evEs (ctx P fu cl) δ es) _ S = _
  rw [bnd_ok h]
  rfl
/-! ### loops -/
theorem for_nil {src : Src} {f : D → Env → Store → SR} (h : src.ok S = true) : forL src f [] δ S = .nx δ S := by
  show (if src.ok S then _ else _) = _
  rw [if_pos h]
theorem for_nx {src : Src} {f : D → Env → Store → SR} {r : List D} (h : src.ok S = true) (hf : f d δ S = .nx δ' S') : forL src f (d :: r) δ S = forL src f r δ' S' := by
  show (if src.ok S then (match f d δ S with
    | .nx δ' S' => forL src f r δ' S'
    | .cont δ' S' => forL src f r δ' S'
    | .brk δ' S' => .nx δ' S'
    | .ret d S' => .ret d S'
    | .exn x δ' S' => .exn x δ' S'
    | .bad => .bad) else .bad) = _
  rw [if_pos h, hf]
theorem for_ret {src : Src} {f : D → Env → Store → SR} {r : List D} {e : D} (h : src.ok S = true) (hf : f d δ S = .ret e S') : forL src f (d :: r) δ S = .ret e S' := by
  show (if src.ok S then (match f d δ S with
    | .nx δ' S' => forL src f r δ' S'
    | .cont δ' S' => forL src f r δ' S'
    | .brk δ' S' => .nx δ' S'
    | .ret d S' => .ret d S'
    | .exn x δ' S' => .exn x δ' S'
    | .bad => .bad) else .bad) = _
  rw [if_pos h, hf]
theorem for_exn {src : Src} {f : D → Env → Store → SR} {r : List D} (h : src.ok S = true) (hf : f d δ S = .exn x δ' S') : forL src f (d :: r) δ S = .exn x δ' S' := by
  show (if src.ok S then (match f d δ S with
    | .nx δ' S' => forL src f r δ' S'
    | .cont δ' S' => forL src f r δ' S'
    | .brk δ' S' => .nx δ' S'
    | .ret d S' => .ret d S'
    | .exn x δ' S' => .exn x δ' S'
    | .bad => .bad) else .bad) = _
  rw [if_pos h, hf]
/-- a loop that runs through: I by what is left -/
theorem for_inv {src : Src} {f : D → Env → Store → SR} (I : List D → Env → Store → Prop) (hok : ∀ l δ S, I l δ S → src.ok S = true) (step : ∀ d r δ S, I (d :: r) δ S → ∃ δ' S', f d δ S = .nx δ' S' ∧ I r δ' S') :
    ∀ (l : List D) {δ : Env} {S : Store}, I l δ S → ∃ δ' S', forL src f l δ S = .nx δ' S' ∧ I [] δ' S'
  | [], δ, S, h => ⟨δ, S, for_nil (hok _ _ _ h), h⟩
  | d :: r, δ, S, h => by
    obtain ⟨δ1, S1, h1, h2⟩ := step d r δ S h
    obtain ⟨δ2, S2, h3, h4⟩ := for_inv I hok step r h2
    exact ⟨δ2, S2, (for_nx (hok _ _ _ h) h1).trans h3, h4⟩
/-- .. that may return -/
theorem for_ret_inv {src : Src} {f : D → Env → Store → SR} (I : List D → Env → Store → Prop) (Q : D → Store → Prop) (hok : ∀ l δ S, I l δ S → src.ok S = true) (step : ∀ d r δ S, I (d :: r) δ S → (∃ δ' S', f d δ S = .nx δ' S' ∧ I r δ' S') ∨ ∃ e S', f d δ S = .ret e S' ∧ Q e S') :
    ∀ (l : List D) {δ : Env} {S : Store}, I l δ S → (∃ δ' S', forL src f l δ S = .nx δ' S' ∧ I [] δ' S') ∨ ∃ e S', forL src f l δ S = .ret e S' ∧ Q e S'
  | [], δ, S, h => .inl ⟨δ, S, for_nil (hok _ _ _ h), h⟩
  | d :: r, δ, S, h => by
    rcases step d r δ S h with ⟨δ1, S1, h1, h2⟩ | ⟨e, S1, h1, h2⟩
    · rcases for_ret_inv I Q hok step r h2 with ⟨δ2, S2, h3, h4⟩ | ⟨e, S2, h3, h4⟩
      · exact .inl ⟨δ2, S2, (for_nx (hok _ _ _ h) h1).trans h3, h4⟩
      · exact .inr ⟨e, S2, (for_nx (hok _ _ _ h) h1).trans h3, h4⟩
    · exact .inr ⟨e, S1, for_ret (hok _ _ _ h) h1, h2⟩
/-- a comprehension without test, element by element -/
theorem lc_map {src : Src} {f : D → M (Option D)} {α : Type} {emb : α → D} {g : α → D} (hok : src.ok S = true) : ∀ (l : List α), (∀ x ∈ l, f (emb x) S = .ok (some (g x)) S) → lcL src f (l.map emb) S = .ok (l.map g) S
  | [], _ => by
    show (if src.ok S then _ else _) = _
    rw [if_pos hok]
    rfl
  | x :: l, h => by
    show (if src.ok S then ((f (emb x) S).bind fun o => bnd (lcL src f (l.map emb)) fun ds => pur (match o with
      | some x => x :: ds
      | none => ds)) else .bad) = _
    rw [if_pos hok, h x List.mem_cons_self]
    show bnd (lcL src f (l.map emb)) _ S = _
    rw [bnd_ok (lc_map hok l fun y hy => h y (List.mem_cons_of_mem _ hy))]
    rfl
/-- .. that changes the store -/
theorem lc_inv {src : Src} {f : D → M (Option D)} (I : List D → List D → Store → Prop) (hok : ∀ l ds S, I l ds S → src.ok S = true) (step : ∀ d r ds S, I (d :: r) ds S → ∃ x S', f d S = .ok (some x) S' ∧ I r (ds ++ [x]) S') :
    ∀ (l ds : List D) {S : Store}, I l ds S → ∃ es S', lcL src f l S = .ok es S' ∧ I [] (ds ++ es) S'
  | [], ds, S, h => ⟨[], S, by
    show (if src.ok S then _ else _) = _
    rw [if_pos (hok _ _ _ h)], by rw [List.append_nil]; exact h⟩
  | d :: r, ds, S, h => by
    obtain ⟨x, S1, h1, h2⟩ := step d r ds S h
    obtain ⟨es, S2, h3, h4⟩ := lc_inv I hok step r (ds ++ [x]) h2
    refine ⟨x :: es, S2, ?_, by rw [List.append_assoc] at h4; exact h4⟩
    show (if src.ok S then ((f d S).bind fun o => bnd (lcL src f r) fun ds => pur (match o with
      | some x => x :: ds
      | none => ds)) else .bad) = _
    rw [if_pos (hok _ _ _ h), h1]
    show bnd (lcL src f r) _ S1 = _
    rw [bnd_ok h3]
    rfl
end
end Mi

set_option Elab.async false
set_option linter.all false
set_option maxRecDepth 100000
set_option maxHeartbeats 4000000
/-! Mi, 23: rules by which a tree runs (simp). -/
namespace Mi
section
variable {α β : Type} {c : Ctx} {δ δ' : Env} {S S' : Store} {a b d : E} {es : Es}
@[simp] theorem rb_ok {x : α} {k : α → M β} : (Mi.R.ok x S).bind k = k x S := rfl
@[simp] theorem rb_exn {x : Exn} {k : α → M β} : (Mi.R.exn x S).bind k = .exn x S := rfl
@[simp] theorem rb_bad {k : α → M β} : (Mi.R.bad).bind k = .bad := rfl
@[simp] theorem bnd_at {m : M α} {k : α → M β} : bnd m k S = (m S).bind k := rfl
@[simp] theorem pur_at {x : α} : pur x S = .ok x S := rfl
@[simp] theorem bad_at : (bad : M α) S = .bad := rfl
@[simp] theorem opt_some {x : α} : opt (some x) = pur x := rfl
@[simp] theorem opt_none : opt (none : Option α) = bad := rfl
def rdVar (o : Option (Option D)) (S : Store) : Mi.R D := match o with
  | some (some d) => .ok d S
  | _ => .bad
@[simp] theorem rdVar_some {x : D} : rdVar (some (some x)) S = .ok x S := rfl
@[simp] theorem eE_var {i : Nat} : evE c δ (.var i) S = rdVar δ[i]? S := by
  show (match δ[i]? with
    | some (some d) => pur d
    | _ => bad : M D) S = _
  cases δ[i]? with
  | none => rfl
  | some o => cases o <;> rfl
@[simp] theorem eE_cst {x : D} : evE c δ (.cst x) S = .ok x S := rfl
@[simp] theorem eE_glo {x : String} : evE c δ (.glo x) S = opt (c.glo x) S := rfl
@[simp] theorem eE_tup : evE c δ (.tup es) S = (evEs c δ es S).bind fun ds => pur (.tup ds) := rfl
@[simp] theorem eE_fre {f : F} : evE c δ (.fre f) S = (evF c δ f S).bind fun ds => alloc (.lst ds) := rfl
@[simp] theorem eE_dic0 : evE c δ .dic0 S = .ok (.ref S.length) (S ++ [.dic []]) := rfl
@[simp] theorem alloc_at {o : O} : alloc o S = .ok (.ref S.length) (S ++ [o]) := rfl
@[simp] theorem eE_op {o : Op} : evE c δ (.op o a b) S = (evE c δ a S).bind fun x S => (evE c δ b S).bind fun y S => opD o x y S := rfl
@[simp] theorem eE_neg : evE c δ (.neg a) S = (evE c δ a S).bind negD := rfl
@[simp] theorem eE_no : evE c δ (.no a) S = (evT c δ a S).bind fun t => pur (.bl (!t)) := rfl
@[simp] theorem eE_and : evE c δ (.and2 a b) S = (evE c δ a S).bind fun x S => (truth x S).bind fun t S => if t then evE c δ b S else .ok x S := by
  show (evE c δ a S).bind _ = _
  cases evE c δ a S with
  | ok x S1 =>
    show (truth x S1).bind _ = (truth x S1).bind _
    cases truth x S1 with
    | ok t S2 => cases t <;> rfl
    | _ => rfl
  | _ => rfl
@[simp] theorem eE_or : evE c δ (.or2 a b) S = (evE c δ a S).bind fun x S => (truth x S).bind fun t S => if t then .ok x S else evE c δ b S := by
  show (evE c δ a S).bind _ = _
  cases evE c δ a S with
  | ok x S1 =>
    show (truth x S1).bind _ = (truth x S1).bind _
    cases truth x S1 with
    | ok t S2 => cases t <;> rfl
    | _ => rfl
  | _ => rfl
@[simp] theorem eE_chn {o p : Op} : evE c δ (.chn o p a b d) S = (evE c δ a S).bind fun x S => (evE c δ b S).bind fun y S => (opD o x y S).bind fun z => chnD (fun S => (evE c δ d S).bind fun w S => opD p y w S) z := rfl
@[simp] theorem chn_t {m : M D} : chnD m (.bl true) = m := rfl
@[simp] theorem chn_f {m : M D} : chnD m (.bl false) = pur (.bl false) := rfl
theorem chn_b {m : M D} {k : Bool} : chnD m (.bl k) = if k then m else pur (.bl false) := by cases k <;> rfl
@[simp] theorem eE_ite {t : E} : evE c δ (.ite t a b) S = (evT c δ t S).bind fun k S => if k then evE c δ a S else evE c δ b S := by
  show (evT c δ t S).bind _ = _
  cases evT c δ t S with
  | ok k S1 => cases k <;> rfl
  | _ => rfl
@[simp] theorem eE_call {f : String} : evE c δ (.call f es) S = (evEs c δ es S).bind fun ds => c.call f ds := rfl
@[simp] theorem ctx_call {P : Prog} {fu : Nat} {cl : String → List D → M D} : (ctx P fu cl).call = cl := rfl
@[simp] theorem ctx_glo {P : Prog} {fu : Nat} {cl : String → List D → M D} : (ctx P fu cl).glo = P.glo := rfl
@[simp] theorem ctx_ini {P : Prog} {fu : Nat} {cl : String → List D → M D} : (ctx P fu cl).ini = P.ini := rfl
@[simp] theorem ctx_isa {P : Prog} {fu : Nat} {cl : String → List D → M D} : (ctx P fu cl).isa = P.isa := rfl
@[simp] theorem eE_bi {k : Bi} : evE c δ (.bi k es) S = (evEs c δ es S).bind fun ds => biD k ds := rfl
@[simp] theorem eE_bif {k : Bi} {f : F} : evE c δ (.bif k f) S = (evF c δ f S).bind fun ds => biF k ds := rfl
@[simp] theorem eE_isi {ts : List Ty} : evE c δ (.isi a ts) S = (evE c δ a S).bind fun x => isAny x ts := rfl
@[simp] theorem eE_me {m : Me} : evE c δ (.me m a es) S = (evE c δ a S).bind fun x S => (isL x S).bind fun _ S => (evEs c δ es S).bind fun ds => meD m x ds := rfl
@[simp] theorem eE_sl {lo hi : Eo} : evE c δ (.sl a lo hi) S = (evE c δ a S).bind fun x S => (evO c δ lo S).bind fun l S => (evO c δ hi S).bind fun h => slD x l h := rfl
@[simp] theorem eE_rev : evE c δ (.rev a) S = (evE c δ a S).bind revD := rfl
@[simp] theorem eO_non : evO c δ .non S = .ok none S := rfl
@[simp] theorem eO_som : evO c δ (.som a) S = (evE c δ a S).bind partD := rfl
@[simp] theorem part_int {i : Int} : partD (.int i) S = .ok (some i) S := rfl
@[simp] theorem eEs_nil : evEs c δ .nil S = .ok [] S := rfl
@[simp] theorem eEs_cons : evEs c δ (.cons a es) S = (evE c δ a S).bind fun x S => (evEs c δ es S).bind fun xs => pur (x :: xs) := rfl
@[simp] theorem eF_lst : evF c δ (.lst es) S = evEs c δ es S := rfl
@[simp] theorem eF_list : evF c δ (.list a) S = (evE c δ a S).bind itemsD := rfl
@[simp] theorem eF_lc {own : List Nat} {elt : E} {tg : Tg} {it : It} {ifs : Es} : evF c δ (.lc own elt tg it ifs) S = (evI c δ it S).bind fun src S => if src.items.length ≤ mx then lcL src (lcF c δ own elt tg ifs) src.items S else .bad := by
  show (evI c δ it S).bind _ = _
  cases evI c δ it S with
  | ok src S1 =>
    show (if src.items.length ≤ mx then lcL src (lcF c δ own elt tg ifs) src.items else bad : M (List D)) S1 = if src.items.length ≤ mx then lcL src (lcF c δ own elt tg ifs) src.items S1 else .bad
    split <;> rfl
  | _ => rfl
@[simp] theorem eI_e : evI c δ (.e a) S = (evE c δ a S).bind srcD := rfl
@[simp] theorem eI_f {f : F} : evI c δ (.f f) S = (evF c δ f S).bind fun ds => pur (.its ds) := rfl
@[simp] theorem eI_rng1 : evI c δ (.rng1 a) S = (evE c δ a S).bind rngD := rfl
@[simp] theorem eI_rng2 : evI c δ (.rng2 a b) S = (evE c δ a S).bind fun x S => (evE c δ b S).bind fun y => rngD2 x y := rfl
@[simp] theorem eI_enu : evI c δ (.enu a) S = (evE c δ a S).bind enuD := rfl
@[simp] theorem eI_z2 : evI c δ (.zip2 a b) S = (evE c δ a S).bind fun x S => (evE c δ b S).bind fun y => zipDD x y := rfl
@[simp] theorem eI_z3 : evI c δ (.zip3 a b d) S = (evE c δ a S).bind fun x S => (evE c δ b S).bind fun y S => (evE c δ d S).bind fun z => zipDDD x y z := rfl
@[simp] theorem src_tup {ds : List D} : srcD (.tup ds) S = .ok (.its ds) S := rfl
@[simp] theorem src_rol {ds : List D} : srcD (.rol ds) S = .ok (.its ds) S := rfl
@[simp] theorem enu_tup {ds : List D} : enuD (.tup ds) S = .ok (.its (enumD 0 ds)) S := rfl
@[simp] theorem zip_tup {ds es : List D} : zipDD (.tup ds) (.tup es) S = .ok (.its (zipD2 ds es)) S := rfl
@[simp] theorem zip_tup3 {ds es fs : List D} : zipDDD (.tup ds) (.tup es) (.tup fs) S = .ok (.its (zipD3 ds es fs)) S := rfl
@[simp] theorem its_items {ds : List D} : (Src.its ds).items = ds := rfl
@[simp] theorem its_ok {ds : List D} : (Src.its ds).ok S = true := rfl
/-! tests -/
@[simp] theorem eT_no : evT c δ (.no a) S = (evT c δ a S).bind fun t => pur (!t) := rfl
@[simp] theorem eT_and : evT c δ (.and2 a b) S = (evT c δ a S).bind fun t S => if t then evT c δ b S else .ok false S := by
  show (evT c δ a S).bind _ = _
  cases evT c δ a S with
  | ok t S1 => cases t <;> rfl
  | _ => rfl
@[simp] theorem eT_or : evT c δ (.or2 a b) S = (evT c δ a S).bind fun t S => if t then .ok true S else evT c δ b S := by
  show (evT c δ a S).bind _ = _
  cases evT c δ a S with
  | ok t S1 => cases t <;> rfl
  | _ => rfl
@[simp] theorem eT_var {i : Nat} : evT c δ (.var i) S = (evE c δ (.var i) S).bind truth := rfl
@[simp] theorem eT_cst {x : D} : evT c δ (.cst x) S = (evE c δ (.cst x) S).bind truth := rfl
@[simp] theorem eT_op {o : Op} : evT c δ (.op o a b) S = (evE c δ (.op o a b) S).bind truth := rfl
@[simp] theorem eT_chn {o p : Op} : evT c δ (.chn o p a b d) S = (evE c δ (.chn o p a b d) S).bind truth := rfl
@[simp] theorem eT_call {f : String} : evT c δ (.call f es) S = (evE c δ (.call f es) S).bind truth := rfl
@[simp] theorem eT_isi {ts : List Ty} : evT c δ (.isi a ts) S = (evE c δ (.isi a ts) S).bind truth := rfl
@[simp] theorem eT_bi {k : Bi} : evT c δ (.bi k es) S = (evE c δ (.bi k es) S).bind truth := rfl
@[simp] theorem tr_bl {k : Bool} : truth (.bl k) S = .ok k S := rfl
@[simp] theorem tr_int {k : Int} : truth (.int k) S = .ok (k != 0) S := rfl
/-! operations -/
@[simp] theorem o_add {i j : Int} : opD .add (.int i) (.int j) S = .ok (.int (i + j)) S := rfl
@[simp] theorem o_sub {i j : Int} : opD .sub (.int i) (.int j) S = .ok (.int (i - j)) S := rfl
@[simp] theorem o_lt {i j : Int} : opD .lt (.int i) (.int j) S = .ok (.bl (decide (i < j))) S := rfl
@[simp] theorem o_le {i j : Int} : opD .le (.int i) (.int j) S = .ok (.bl (decide (i ≤ j))) S := rfl
@[simp] theorem o_gt {i j : Int} : opD .gt (.int i) (.int j) S = .ok (.bl (decide (j < i))) S := rfl
@[simp] theorem o_ge {i j : Int} : opD .ge (.int i) (.int j) S = .ok (.bl (decide (j ≤ i))) S := rfl
@[simp] theorem o_eqI {i j : Int} : opD .eq (.int i) (.int j) S = .ok (.bl (i == j)) S := rfl
@[simp] theorem o_neI {i j : Int} : opD .ne (.int i) (.int j) S = .ok (.bl (!(i == j))) S := rfl
@[simp] theorem o_eqS {i j : List Nat} : opD .eq (.str i) (.str j) S = .ok (.bl (i == j)) S := rfl
@[simp] theorem o_isN {x : D} : opD .is_ x .non S = .ok (.bl (decide (x = .non))) S := rfl
@[simp] theorem o_isnN {x : D} : opD .isnot x .non S = .ok (.bl (!decide (x = .non))) S := rfl
@[simp] theorem o_inS {k : Nat} {t : List Nat} : opD .in_ (.str [k]) (.str t) S = .ok (.bl (t.contains k)) S := by
  show Mi.R.ok (D.bl (xor false (t.contains k))) S = _
  rw [Bool.false_xor]
@[simp] theorem o_notinS {k : Nat} {t : List Nat} : opD .notin (.str [k]) (.str t) S = .ok (.bl (!t.contains k)) S := by
  show Mi.R.ok (D.bl (xor true (t.contains k))) S = _
  rw [Bool.true_xor]
theorem o_inT {x : D} {ds : List D} (h1 : x.scal = true) (h2 : ds.all D.scal = true) : opD .in_ x (.tup ds) S = .ok (.bl (inD x ds)) S := by
  show (if x.scal && ds.all D.scal then pur (.bl (xor false (inD x ds))) else bad : M D) S = _
  rw [h1, h2, Bool.false_xor]
  rfl
theorem o_mul {i j : Int} (h : -(2 ^ 64) < j ∧ j < 2 ^ 64) : opD .mul (.int i) (.int j) S = .ok (.int (i * j)) S := by
  show (if (decide (-(2 ^ 64) < i) && decide (i < 2 ^ 64)) || (decide (-(2 ^ 64) < j) && decide (j < 2 ^ 64)) then pur (.int (i * j)) else bad : M D) S = _
  rw [if_pos (by rw [Bool.or_eq_true, Bool.and_eq_true, Bool.and_eq_true]; exact .inr ⟨decide_eq_true h.1, decide_eq_true h.2⟩)]
  rfl
theorem o_mod {i j : Int} (h : 0 < j) : opD .mod (.int i) (.int j) S = .ok (.int (i % j)) S := by
  show (if 0 < j then pur (.int (i % j)) else bad : M D) S = _
  rw [if_pos h]
  rfl
theorem o_fdiv {i j : Int} (h : 0 < j) (h2 : j.natAbs.log2 < 9000) : opD .fdiv (.int i) (.int j) S = .ok (.int (i / j)) S := by
  show (if decide (0 < j) && decide (j.natAbs.log2 < 9000) then pur (.int (i / j)) else bad : M D) S = _
  rw [if_pos (by simp [h, h2])]
  rfl
theorem o_pow {i j : Int} (h : 0 ≤ j ∧ j ≤ 1000000 ∧ i.natAbs < 2 ^ 64) : opD .pow (.int i) (.int j) S = .ok (.int (i ^ j.toNat)) S := by
  show (if decide (0 ≤ j) && (decide (j ≤ 1000000) && decide (i.natAbs < 2 ^ 64)) then pur (.int (i ^ j.toNat)) else bad : M D) S = _
  rw [if_pos (by simp only [Bool.and_eq_true, decide_eq_true_eq]; exact h)]
  rfl
theorem o_ixT {ds : List D} {i : Int} {x : D} (h : atI ds i = some x) : opD .ix (.tup ds) (.int i) S = .ok x S := by
  show opt (atI ds i) S = _
  rw [h]
  rfl
theorem o_ixL {n : Nat} {ds : List D} {i : Int} {x : D} (hn : S[n]? = some (.lst ds)) (h : atI ds i = some x) : opD .ix (.ref n) (.int i) S = .ok x S := by
  show (getL n S).bind (fun ds => opt (atI ds i)) = _
  unfold getL
  rw [hn]
  show opt (atI ds i) S = _
  rw [h]
  rfl
@[simp] theorem ix_0 {x : D} {ds : List D} : opD .ix (.tup (x :: ds)) (.int 0) S = .ok x S := o_ixT (by
  have h1 : ixn (x :: ds).length 0 = some 0 := by
    unfold ixn
    rw [if_pos (by decide), if_pos (by simp only [List.length_cons]; omega)]
    rfl
  show (ixn (x :: ds).length 0).bind _ = _
  rw [h1]
  rfl)
@[simp] theorem ix_1 {x y : D} {ds : List D} : opD .ix (.tup (x :: y :: ds)) (.int 1) S = .ok y S := o_ixT (by
  have h1 : ixn (x :: y :: ds).length 1 = some 1 := by
    unfold ixn
    rw [if_pos (by decide), if_pos (by simp only [List.length_cons]; omega)]
    rfl
  show (ixn (x :: y :: ds).length 1).bind _ = _
  rw [h1]
  rfl)
@[simp] theorem bi_lenT {ds : List D} : biD .len [.tup ds] S = .ok (.int (ds.length : Int)) S := rfl
theorem bi_lenS {s : List Nat} (h : s.length ≤ mx) : biD .len [.str s] S = .ok (.int (s.length : Int)) S := by
  show ((if s.length ≤ mx then pur s.length else bad : M Nat) S).bind _ = _
  rw [if_pos h]
  rfl
theorem bi_lenL {n : Nat} {ds : List D} (hn : S[n]? = some (.lst ds)) : biD .len [.ref n] S = .ok (.int (ds.length : Int)) S := by
  show (lenD (.ref n) S).bind _ = _
  unfold lenD
  simp only [hn]
  rfl
@[simp] theorem bi_intI {i : Int} : biD .int [.int i] S = .ok (.int i) S := rfl
@[simp] theorem bi_intB {b : Bool} : biD .int [.bl b] S = .ok (.int (if b then 1 else 0)) S := rfl
@[simp] theorem bi_abs {i : Int} : biD .abs [.int i] S = .ok (.int (if i < 0 then -i else i)) S := rfl
@[simp] theorem bi_max {i j : Int} : biD .max2 [.int i, .int j] S = .ok (.int (if j > i then j else i)) S := rfl
@[simp] theorem bi_min {i j : Int} : biD .min2 [.int i, .int j] S = .ok (.int (if j < i then j else i)) S := rfl
@[simp] theorem bif_tup {ds : List D} : biF .tuple ds S = .ok (.tup ds) S := rfl
@[simp] theorem bi_tupT {ds : List D} : biD .tuple [.tup ds] S = .ok (.tup ds) S := rfl
theorem bi_tupL {n : Nat} {ds : List D} (hn : S[n]? = some (.lst ds)) : biD .tuple [.ref n] S = .ok (.tup ds) S := by
  show (getL n S).bind (fun ds => pur (D.tup ds)) = _
  unfold getL
  rw [hn]
  rfl
@[simp] theorem neg_int' {i : Int} : negD (.int i) S = .ok (.int (-i)) S := rfl
@[simp] theorem sl_tup {ds : List D} {l h : Option Int} : slD (.tup ds) l h S = .ok (.tup (cut ds l h)) S := rfl
theorem sl_str {s : List Nat} {l h : Option Int} (hm : s.length ≤ mx) : slD (.str s) l h S = .ok (.str (cut s l h)) S := by
  show (if s.length ≤ mx then pur (.str (cut s l h)) else bad : M D) S = _
  rw [if_pos hm]
  rfl
/-! statements -/
def SR.sq (r : SR) (k : Env → Store → SR) : SR := match r with
  | .nx δ S => k δ S
  | .cont δ S => .cont δ S
  | .brk δ S => .brk δ S
  | .ret d S => .ret d S
  | .exn x δ S => .exn x δ S
  | .bad => .bad
@[simp] theorem sq_nx {k : Env → Store → SR} : (SR.nx δ S).sq k = k δ S := rfl
@[simp] theorem sq_ret {k : Env → Store → SR} {x : D} : (SR.ret x S).sq k = .ret x S := rfl
@[simp] theorem sq_brk {k : Env → Store → SR} : (SR.brk δ S).sq k = .brk δ S := rfl
@[simp] theorem sq_cont {k : Env → Store → SR} : (SR.cont δ S).sq k = .cont δ S := rfl
@[simp] theorem sq_exn {k : Env → Store → SR} {x : Exn} : (SR.exn x δ S).sq k = .exn x δ S := rfl
@[simp] theorem sq_bad {k : Env → Store → SR} : (SR.bad).sq k = .bad := rfl
@[simp] theorem eSs_cons {s : St} {ss : Ss} : evSs c (.cons s ss) δ S = (evS c s δ S).sq (evSs c ss) := by
  show (match evS c s δ S with
    | .nx δ' S' => evSs c ss δ' S'
    | .cont δ' S' => .cont δ' S'
    | .brk δ' S' => .brk δ' S'
    | .ret d S' => .ret d S'
    | .exn x δ' S' => .exn x δ' S'
    | .bad => .bad) = _
  cases evS c s δ S <;> rfl
@[simp] theorem lf_ok {x : α} {k : α → Store → SR} : lift δ (Mi.R.ok x S) k = k x S := rfl
@[simp] theorem lf_exn {x : Exn} {k : α → Store → SR} : lift δ (Mi.R.exn x S : Mi.R α) k = .exn x δ S := rfl
@[simp] theorem lf_bad {k : α → Store → SR} : lift δ (Mi.R.bad : Mi.R α) k = .bad := rfl
def nxO (o : Option Env) (S : Store) : SR := match o with
  | some δ => .nx δ S
  | none => .bad
@[simp] theorem nxO_some : nxO (some δ) S = .nx δ S := rfl
@[simp] theorem eS_asg {t : Tg} : evS c (.asg t a) δ S = lift δ (evE c δ a S) fun x S => nxO (putT t x δ) S := by
  show lift δ (evE c δ a S) _ = _
  cases evE c δ a S with
  | ok x S1 =>
    show (match putT t x δ with | some δ' => SR.nx δ' S1 | none => .bad) = nxO (putT t x δ) S1
    cases putT t x δ <;> rfl
  | _ => rfl
@[simp] theorem eS_sub {o i : E} : evS c (.sub o i a) δ S = lift δ (evE c δ a S) fun d S => lift δ (evE c δ o S) fun x S => lift δ (evE c δ i S) fun k S => lift δ (setItem x k d S) fun _ S => .nx δ S := rfl
@[simp] theorem eS_exp : evS c (.exp a) δ S = lift δ (evE c δ a S) fun _ S => .nx δ S := rfl
@[simp] theorem eS_ret : evS c (.ret a) δ S = lift δ (evE c δ a S) fun d S => .ret d S := rfl
@[simp] theorem eS_if {t : E} {x y : Ss} : evS c (.if_ t x y) δ S = lift δ (evT c δ t S) fun k S => if k then evSs c x δ S else evSs c y δ S := by
  show lift δ (evT c δ t S) _ = _
  cases evT c δ t S with
  | ok k S1 => cases k <;> rfl
  | _ => rfl
def forB (c : Ctx) (t : Tg) (b : Ss) : D → Env → Store → SR := fun d δ S => match putT t d δ with
    | some δ' => evSs c b δ' S
    | none => .bad
theorem forB_at {t : Tg} {bd : Ss} {x : D} (h : putT t x δ = some δ') : forB c t bd x δ S = evSs c bd δ' S := by
  unfold forB
  rw [h]
@[simp] theorem eS_for {t : Tg} {it : It} {bd : Ss} : evS c (.for_ t it bd) δ S = lift δ (evI c δ it S) fun src S => forL src (forB c t bd) src.items δ S := rfl
@[simp] theorem eS_brk : evS c .brk δ S = .brk δ S := rfl
@[simp] theorem eS_cont : evS c .cont δ S = .cont δ S := rfl
@[simp] theorem eS_pass : evS c .pass δ S = .nx δ S := rfl
def raiO (o : Option (List String)) (k : String) (ds : List D) (δ : Env) (S : Store) : SR := match o with
  | some fs => if fs.length = ds.length then .exn ⟨k, fs.zip ds⟩ δ S else .bad
  | none => .bad
@[simp] theorem raiO_1 {f k : String} {x : D} : raiO (some [f]) k [x] δ S = .exn ⟨k, [(f, x)]⟩ δ S := rfl
@[simp] theorem raiO_2 {f g k : String} {x y : D} : raiO (some [f, g]) k [x, y] δ S = .exn ⟨k, [(f, x), (g, y)]⟩ δ S := rfl
@[simp] theorem eS_rais {k : String} : evS c (.rais k es) δ S = lift δ (evEs c δ es S) fun ds S => raiO (c.ini k) k ds δ S := by
  show lift δ (evEs c δ es S) _ = _
  cases evEs c δ es S with
  | ok x S1 =>
    show (match c.ini k with | some fs => if fs.length = x.length then SR.exn ⟨k, fs.zip x⟩ δ S1 else .bad | none => .bad) = raiO (c.ini k) k x δ S1
    cases c.ini k <;> rfl
  | _ => rfl
@[simp] theorem putT_nm {i : Nat} {x : D} : putT (.nm i) x δ = some (δ.set i (some x)) := rfl
@[simp] theorem putT_tup {ts : Tgs} {ds : List D} : putT (.tup ts) (.tup ds) δ = putTs ts ds δ := rfl
@[simp] theorem putTs_nil : putTs .nil [] δ = some δ := rfl
@[simp] theorem putTs_cons {t : Tg} {ts : Tgs} {x : D} {ds : List D} : putTs (.cons t ts) (x :: ds) δ = (putT t x δ).bind fun δ' => putTs ts ds δ' := rfl
@[simp] theorem wipe_nil : wipe δ [] = δ := rfl
@[simp] theorem wipe_cons {i : Nat} {r : List Nat} : wipe δ (i :: r) = wipe (δ.set i none) r := rfl
/-! a comprehension's turn, without tests -/
theorem lcF_at {own : List Nat} {elt : E} {tg : Tg} {x y : D} (hp : putT tg x (wipe δ own) = some δ') (h : evE c δ' elt S = .ok y S') : lcF c δ own elt tg .nil x S = .ok (some y) S' := by
  unfold lcF
  rw [hp]
  show noX (bnd (evC c δ' .nil) _) S = _
  rw [noX_of, bnd_ok (show evC c δ' .nil S = .ok true S from rfl)]
  rw [if_pos rfl, bnd_ok h]
  rfl
end
end Mi

set_option Elab.async false
set_option linter.all false
set_option maxRecDepth 100000
set_option maxHeartbeats 4000000
/-! Functions of the program: lots, counts. -/
namespace Mi
def b_is_integer : Ss := (.cons (.ret (.and2 (.isi (.var 0) [.int]) (.no (.isi (.var 0) [.bool])))) .nil)
def b_is_number : Ss := (.cons (.ret (.and2 (.call "is_integer" (.cons (.var 0) .nil)) (.op .ge (.var 0) (.cst (.int 0))))) .nil)
def b_is_word : Ss := (.cons (.if_ (.or2 (.no (.isi (.var 0) [.str])) (.no (.chn .le .le (.cst (.int 1)) (.bi .len (.cons (.var 0) .nil)) (.cst (.int 8))))) (.cons (.ret (.cst (.bl false))) .nil) .nil) (.cons (.if_ (.or2 (.op .notin (.op .ix (.var 0) (.cst (.int 0))) (.glo "SMALL_LETTERS")) (.op .in_ (.var 0) (.glo "KEPT_WORDS"))) (.cons (.ret (.cst (.bl false))) .nil) .nil) (.cons (.for_ (.nm 1) (.e (.var 0)) (.cons (.if_ (.and2 (.op .notin (.var 1) (.glo "SMALL_LETTERS")) (.op .notin (.var 1) (.glo "FIGURES"))) (.cons (.ret (.cst (.bl false))) .nil) .nil) .nil)) (.cons (.ret (.cst (.bl true))) .nil))))
def b_check_lots : Ss := (.cons (.if_ (.or2 (.no (.isi (.var 0) [.tuple])) (.op .eq (.bi .len (.cons (.var 0) .nil)) (.cst (.int 0)))) (.cons (.rais "BadLots" (.cons (.neg (.cst (.int 1))) (.cons (.cst (.str [115, 104, 97, 112, 101])) .nil))) .nil) .nil) (.cons (.asg (.nm 1) .dic0) (.cons (.for_ (.tup (.cons (.nm 2) (.cons (.nm 3) .nil))) (.enu (.var 0)) (.cons (.if_ (.or2 (.no (.isi (.var 3) [.tuple])) (.op .ne (.bi .len (.cons (.var 3) .nil)) (.cst (.int 2)))) (.cons (.rais "BadLots" (.cons (.var 2) (.cons (.cst (.str [115, 104, 97, 112, 101])) .nil))) .nil) .nil) (.cons (.asg (.tup (.cons (.nm 4) (.cons (.nm 5) .nil))) (.var 3)) (.cons (.if_ (.no (.call "is_word" (.cons (.var 4) .nil))) (.cons (.rais "BadLots" (.cons (.var 2) (.cons (.cst (.str [119, 111, 114, 100])) .nil))) .nil) .nil) (.cons (.if_ (.op .in_ (.var 4) (.var 1)) (.cons (.rais "BadLots" (.cons (.var 2) (.cons (.cst (.str [116, 119, 105, 99, 101])) .nil))) .nil) .nil) (.cons (.if_ (.or2 (.no (.call "is_integer" (.cons (.var 5) .nil))) (.op .lt (.var 5) (.cst (.int 1)))) (.cons (.rais "BadLots" (.cons (.var 2) (.cons (.cst (.str [115, 105, 122, 101])) .nil))) .nil) .nil) (.cons (.sub (.var 1) (.var 4) (.cst (.bl true))) .nil))))))) (.cons (.ret (.bi .len (.cons (.var 0) .nil))) .nil))))
def b_everyone : Ss := (.cons (.exp (.call "check_lots" (.cons (.var 0) .nil))) (.cons (.ret (.bif .tuple (.lc [1] (.op .ix (.var 1) (.cst (.int 1))) (.nm 1) (.e (.var 0)) .nil))) .nil))
def b_nobody : Ss := (.cons (.exp (.call "check_lots" (.cons (.var 0) .nil))) (.cons (.ret (.bif .tuple (.lc [1] (.cst (.int 0)) (.nm 1) (.e (.var 0)) .nil))) .nil))
def b_need_counts : Ss := (.cons (.if_ (.or2 (.no (.isi (.var 1) [.tuple])) (.op .ne (.bi .len (.cons (.var 1) .nil)) (.bi .len (.cons (.var 0) .nil)))) (.cons (.rais "BadCounts" (.cons (.neg (.cst (.int 1))) .nil)) .nil) .nil) (.cons (.for_ (.tup (.cons (.nm 2) (.cons (.nm 3) .nil))) (.enu (.var 0)) (.cons (.if_ (.or2 (.no (.call "is_number" (.cons (.op .ix (.var 1) (.var 2)) .nil))) (.op .gt (.op .ix (.var 1) (.var 2)) (.op .ix (.var 3) (.cst (.int 1))))) (.cons (.rais "BadCounts" (.cons (.var 2) .nil)) .nil) .nil) .nil)) (.cons (.ret (.bi .sum (.cons (.var 1) .nil))) .nil)))
def b_is_below : Ss := (.cons (.for_ (.tup (.cons (.nm 2) (.cons (.nm 3) .nil))) (.zip2 (.var 0) (.var 1)) (.cons (.if_ (.op .gt (.var 2) (.var 3)) (.cons (.ret (.cst (.bl false))) .nil) .nil) .nil)) (.cons (.ret (.cst (.bl true))) .nil))
def b_common_counts : Ss := (.cons (.ret (.bif .tuple (.lc [3, 4, 5] (.bi .max2 (.cons (.cst (.int 0)) (.cons (.op .sub (.op .add (.var 3) (.var 4)) (.op .ix (.var 5) (.cst (.int 1)))) .nil))) (.tup (.cons (.nm 3) (.cons (.nm 4) (.cons (.nm 5) .nil)))) (.zip3 (.var 1) (.var 2) (.var 0)) .nil))) .nil)
def b_below : Ss := (.cons (.exp (.call "check_lots" (.cons (.var 0) .nil))) (.cons (.exp (.call "need_counts" (.cons (.var 0) (.cons (.var 1) .nil)))) (.cons (.exp (.call "need_counts" (.cons (.var 0) (.cons (.var 2) .nil)))) (.cons (.ret (.call "is_below" (.cons (.var 1) (.cons (.var 2) .nil)))) .nil))))
def b_least_common : Ss := (.cons (.exp (.call "check_lots" (.cons (.var 0) .nil))) (.cons (.exp (.call "need_counts" (.cons (.var 0) (.cons (.var 1) .nil)))) (.cons (.exp (.call "need_counts" (.cons (.var 0) (.cons (.var 2) .nil)))) (.cons (.ret (.call "common_counts" (.cons (.var 0) (.cons (.var 1) (.cons (.var 2) .nil))))) .nil))))
def b_outside : Ss := (.cons (.exp (.call "check_lots" (.cons (.var 0) .nil))) (.cons (.exp (.call "need_counts" (.cons (.var 0) (.cons (.var 1) .nil)))) (.cons (.ret (.bif .tuple (.lc [2, 3] (.op .sub (.op .ix (.var 2) (.cst (.int 1))) (.var 3)) (.tup (.cons (.nm 2) (.cons (.nm 3) .nil))) (.zip2 (.var 0) (.var 1)) .nil))) .nil)))
def b_first_houses : Ss := (.cons (.exp (.call "check_lots" (.cons (.var 0) .nil))) (.cons (.exp (.call "need_counts" (.cons (.var 0) (.cons (.var 1) .nil)))) (.cons (.ret (.bif .tuple (.lc [2] (.ite (.op .gt (.var 2) (.cst (.int 0))) (.tup (.cons (.tup (.cons (.cst (.int 0)) (.cons (.var 2) .nil))) .nil)) (.tup .nil)) (.nm 2) (.e (.var 1)) .nil))) .nil)))
def sSmall : List Nat := [97, 98, 99, 100, 101, 102, 103, 104, 105, 106, 107, 108, 109, 110, 111, 112, 113, 114, 115, 116, 117, 118, 119, 120, 121, 122]
def sFigs : List Nat := [48, 49, 50, 51, 52, 53, 54, 55, 56, 57]
def wKept : List (List Nat) := [[111, 102], [105, 110], [109, 111, 115, 116], [97, 108, 108], [111, 110, 101], [104, 101, 97, 118, 121], [108, 101, 97, 115, 116], [115, 112, 97, 114, 101], [109, 105, 114, 114, 111, 114], [110, 111, 98, 111, 100, 121], [109, 97, 110, 110, 101, 114], [114, 117, 108, 101], [108, 111, 116], [116, 114, 117, 115, 116], [99, 104, 97, 114, 116, 101, 114], [114, 111, 119], [97, 115, 107], [101, 99, 104, 111], [118, 111, 116, 101], [108, 111, 111, 107], [104, 111, 108, 100], [99, 104, 97, 110, 103, 101], [116, 111]]
structure Has (P : Prog) : Prop where
  f_is_integer : P.fns "is_integer" = some ⟨1, 1, b_is_integer⟩
  f_is_number : P.fns "is_number" = some ⟨1, 1, b_is_number⟩
  f_is_word : P.fns "is_word" = some ⟨1, 2, b_is_word⟩
  f_check_lots : P.fns "check_lots" = some ⟨1, 6, b_check_lots⟩
  f_everyone : P.fns "everyone" = some ⟨1, 2, b_everyone⟩
  f_nobody : P.fns "nobody" = some ⟨1, 2, b_nobody⟩
  f_need_counts : P.fns "need_counts" = some ⟨2, 4, b_need_counts⟩
  f_is_below : P.fns "is_below" = some ⟨2, 4, b_is_below⟩
  f_common_counts : P.fns "common_counts" = some ⟨3, 6, b_common_counts⟩
  f_below : P.fns "below" = some ⟨3, 3, b_below⟩
  f_least_common : P.fns "least_common" = some ⟨3, 3, b_least_common⟩
  f_outside : P.fns "outside" = some ⟨2, 4, b_outside⟩
  f_first_houses : P.fns "first_houses" = some ⟨2, 3, b_first_houses⟩
  g_small : P.glo "SMALL_LETTERS" = some (.str sSmall)
  g_figs : P.glo "FIGURES" = some (.str sFigs)
  g_kept : P.glo "KEPT_WORDS" = some (.tup (wKept.map D.str))
  i_lots : P.ini "BadLots" = some ["at", "word"]
  i_counts : P.ini "BadCounts" = some ["at"]
theorem bel_get {S : Store} {m : Nat} (h : (D.ref m).bel S.length = true) : ∃ o, S[m]? = some o := ⟨_, List.getElem?_eq_getElem (of_decide_eq_true h)⟩
/-! ### the plain sense -/
def isI : D → Bool
  | .int _ => true
  | _ => false
def isN : D → Bool
  | .int i => decide (0 ≤ i)
  | _ => false
def okc (c : Nat) : Bool := sSmall.contains c || sFigs.contains c
def hdc : List Nat → Bool
  | c :: _ => sSmall.contains c
  | [] => false
def wordB (s : List Nat) : Bool := decide (1 ≤ s.length) && (decide (s.length ≤ 8) && (hdc s && (!(wKept.contains s) && s.all okc)))
def wordD : D → Bool
  | .str s => wordB s
  | _ => false
/-- is d of type t, S told -/
def tyD (S : Store) (t : Ty) : D → Bool
  | .non => false
  | .bl _ => t == .bool || t == .int
  | .int _ => t == .int
  | .str _ => t == .str
  | .tup _ => t == .tuple
  | .rol _ => t == .list
  | .ref n => match S[n]? with
    | some (.dic _) => t == .dict
    | _ => t == .list
theorem isD_ok {S : Store} {d : D} (t : Ty) (hb : d.bel S.length = true) : isD d t S = .ok (tyD S t d) S := by
  cases d with
  | ref m =>
    obtain ⟨o, ho⟩ := bel_get hb
    unfold isD tyD
    simp only [ho]
    cases o <;> rfl
  | _ => rfl
theorem any1 {S : Store} {d : D} {t : Ty} (hb : d.bel S.length = true) : isAny d [t] S = .ok (.bl (tyD S t d)) S := by
  show (isD d t S).bind _ = _
  rw [isD_ok t hb]
  show (if tyD S t d then pur (.bl true) else isAny d [] : M D) S = _
  cases tyD S t d <;> rfl
@[simp] theorem any_tup {S : Store} {ds : List D} {t : Ty} : isAny (.tup ds) [t] S = .ok (.bl (t == .tuple)) S := by cases t <;> rfl
@[simp] theorem any_int {S : Store} {i : Int} {t : Ty} : isAny (.int i) [t] S = .ok (.bl (t == .int)) S := by cases t <;> rfl
@[simp] theorem any_bl {S : Store} {i : Bool} {t : Ty} : isAny (.bl i) [t] S = .ok (.bl (t == .bool || t == .int)) S := by cases t <;> rfl
@[simp] theorem any_str {S : Store} {i : List Nat} {t : Ty} : isAny (.str i) [t] S = .ok (.bl (t == .str)) S := by cases t <;> rfl
@[simp] theorem any_non {S : Store} {t : Ty} : isAny .non [t] S = .ok (.bl false) S := by cases t <;> rfl
theorem ty_ref {S : Store} {m : Nat} {t : Ty} (h : t ≠ .list) (h2 : t ≠ .dict) : tyD S t (.ref m) = false := by
  have e1 : (t == Ty.list) = false := by cases t <;> first | rfl | exact absurd rfl h
  have e2 : (t == Ty.dict) = false := by cases t <;> first | rfl | exact absurd rfl h2
  show (match S[m]? with
    | some (.dic _) => t == Ty.dict
    | _ => t == Ty.list) = false
  split
  · exact e2
  · exact e1
theorem inD_str (s : List Nat) (ws : List (List Nat)) : inD (.str s) (ws.map D.str) = ws.contains s := by
  unfold inD
  induction ws with
  | nil => rfl
  | cons w ws ih =>
    rw [List.map_cons, List.any_cons, ih, List.contains_cons]
    have : D.eqv (.str w) (.str s) = (s == w) := by
      show (w == s) = (s == w)
      rw [Bool.eq_iff_iff, beq_iff_eq, beq_iff_eq]
      exact eq_comm
    rw [this]
theorem kept_scal : (wKept.map D.str).all D.scal = true := by decide
theorem in_kept {S : Store} (s : List Nat) : opD .in_ (.str s) (.tup (wKept.map D.str)) S = .ok (.bl (wKept.contains s)) S := by rw [o_inT rfl kept_scal, inD_str]
theorem ixS0 {S : Store} {c : Nat} {s : List Nat} (h : (c :: s).length ≤ mx) : opD .ix (.str (c :: s)) (.int 0) S = .ok (.str [c]) S := by
  show (if (c :: s).length ≤ mx then (match (ixn (c :: s).length 0).bind fun j => (c :: s)[j]? with
      | some c => pur (.str [c])
      | none => bad) else bad : M D) S = _
  rw [if_pos h]
  have h1 : ixn (c :: s).length 0 = some 0 := by
    unfold ixn
    rw [if_pos (by decide), if_pos (by simp only [List.length_cons]; omega)]
    rfl
  rw [h1]
  rfl
section
variable {P : Prog} (HP : Has P) {fu n : Nat} {S : Store}
include HP
theorem is_integer_ok {d : D} (hb : d.bel S.length = true) : callN P fu (n + 1) "is_integer" [d] S = .ok (.bl (isI d)) S := by
  rw [call_eq HP.f_is_integer rfl]
  have : evSs (ctx P fu (callN P fu n)) b_is_integer [some d] S = .ret (.bl (isI d)) S := by
    cases d with
    | ref m => simp [b_is_integer, any1 hb, ty_ref, isI]
    | _ => rfl
  exact (congrArg (fun r => fin S (endR r)) this).trans (fin_ok0 rfl)
theorem is_number_ok {d : D} (hb : d.bel S.length = true) : callN P fu (n + 2) "is_number" [d] S = .ok (.bl (isN d)) S := by
  rw [call_eq HP.f_is_number rfl]
  have : evSs (ctx P fu (callN P fu (n + 1))) b_is_number [some d] S = .ret (.bl (isN d)) S := by
    cases d <;> simp [b_is_number, is_integer_ok HP hb, isI, isN]
  exact (congrArg (fun r => fin S (endR r)) this).trans (fin_ok0 rfl)
theorem is_word_ok {d : D} (hb : d.bel S.length = true) (hs : ∀ s, d = .str s → s.length ≤ mx) : callN P fu (n + 1) "is_word" [d] S = .ok (.bl (wordD d)) S := by
  rw [call_eq HP.f_is_word rfl]
  have : evSs (ctx P fu (callN P fu n)) b_is_word [some d, none] S = .ret (.bl (wordD d)) S := by
    cases d with
    | str s =>
      have hm := hs s rfl
      have loop : ∀ (cs : List Nat) (o : Option D) (f : D → Env → Store → SR), (∀ c o, f (.str [c]) [some (.str s), o] S = if okc c then .nx [some (.str s), some (.str [c])] S else .ret (.bl false) S) →
          ∃ o', forL (.its (s.map fun c => .str [c])) f (cs.map fun c => .str [c]) [some (.str s), o] S = if cs.all okc then .nx [some (.str s), o'] S else .ret (.bl false) S := by
        intro cs
        induction cs with
        | nil => intro o f _; exact ⟨o, for_nil rfl⟩
        | cons c cs ih =>
          intro o f hf
          by_cases hc : okc c = true
          · obtain ⟨o', h⟩ := ih (some (.str [c])) f hf
            refine ⟨o', ?_⟩
            rw [List.map_cons, for_nx rfl ((hf c o).trans (if_pos hc)), h, List.all_cons, hc, Bool.true_and]
          · refine ⟨o, ?_⟩
            rw [List.map_cons, for_ret rfl ((hf c o).trans (if_neg hc)), List.all_cons]
            simp [hc]
      cases s with
      | nil => simp [b_is_word, bi_lenS hm, wordD, wordB]
      | cons c0 cs =>
        have hsrc : srcD (.str (c0 :: cs)) S = .ok (.its ((c0 :: cs).map fun c => .str [c])) S := by
          show (if (c0 :: cs).length ≤ mx then pur (.its ((c0 :: cs).map fun c => .str [c])) else bad : M Src) S = _
          rw [if_pos hm]
          rfl
        obtain ⟨o', hl⟩ := loop (c0 :: cs) none (forB (ctx P fu (callN P fu n)) (.nm 1) (.cons (.if_ (.and2 (.op .notin (.var 1) (.glo "SMALL_LETTERS")) (.op .notin (.var 1) (.glo "FIGURES"))) (.cons (.ret (.cst (.bl false))) .nil) .nil) .nil)) fun c o => by
          rw [forB_at rfl]
          unfold okc
          cases h1 : sSmall.contains c <;> cases h2 : sFigs.contains c <;> simp [HP.g_small, HP.g_figs, h1, h2, -List.contains_eq_mem]
        have e1 : (1 : Int) ≤ ((c0 :: cs).length : Nat) := by rw [List.length_cons]; omega
        have e1' : decide (1 ≤ (c0 :: cs).length) = true := decide_eq_true (by rw [List.length_cons]; omega)
        have e8 : decide (((c0 :: cs).length : Nat) ≤ (8 : Int)) = decide ((c0 :: cs).length ≤ 8) := by
          rw [Bool.eq_iff_iff, decide_eq_true_eq, decide_eq_true_eq]
          omega
        show _ = SR.ret (.bl (decide (1 ≤ (c0 :: cs).length) && (decide ((c0 :: cs).length ≤ 8) && (sSmall.contains c0 && (!(wKept.contains (c0 :: cs)) && (c0 :: cs).all okc))))) S
        rw [e1']
        cases h8 : decide ((c0 :: cs).length ≤ 8) with
        | false =>
          rw [h8] at e8
          simp only [b_is_word, bi_lenS hm, e1, e8, eSs_cons, eS_if, eT_or, eT_no, eT_isi, eE_isi, eE_var, List.getElem?_cons_zero, List.getElem?_cons_succ, rdVar_some, rb_ok, any_str, tr_bl, pur_at, eT_chn, eE_chn, eE_cst, eE_bi, eEs_cons, eEs_nil, o_le, decide_true, chn_t, lf_ok, sq_nx, eS_ret, ss_nil', eT_op, eE_op, eE_glo, ctx_glo, opt_some, o_notinS, beq_self_eq_true, Bool.not_true, Bool.not_false, Bool.false_eq_true, ↓reduceIte, Bool.true_and, Bool.false_and, Bool.and_false, Bool.and_true, sq_ret, in_kept]
        | true =>
          rw [h8] at e8
          cases hd0 : sSmall.contains c0 with
          | false =>
            simp only [b_is_word, bi_lenS hm, e1, e8, ixS0 hm, HP.g_small, hd0, eSs_cons, eS_if, eT_or, eT_no, eT_isi, eE_isi, eE_var, List.getElem?_cons_zero, List.getElem?_cons_succ, rdVar_some, rb_ok, any_str, tr_bl, pur_at, eT_chn, eE_chn, eE_cst, eE_bi, eEs_cons, eEs_nil, o_le, decide_true, chn_t, lf_ok, sq_nx, eS_ret, ss_nil', eT_op, eE_op, eE_glo, ctx_glo, opt_some, o_notinS, beq_self_eq_true, Bool.not_true, Bool.not_false, Bool.false_eq_true, ↓reduceIte, Bool.true_and, Bool.false_and, Bool.and_false, Bool.and_true, sq_ret, in_kept]
          | true =>
            cases hk : wKept.contains (c0 :: cs) with
            | true =>
              simp only [b_is_word, bi_lenS hm, e1, e8, ixS0 hm, HP.g_small, HP.g_kept, hd0, hk, eSs_cons, eS_if, eT_or, eT_no, eT_isi, eE_isi, eE_var, List.getElem?_cons_zero, List.getElem?_cons_succ, rdVar_some, rb_ok, any_str, tr_bl, pur_at, eT_chn, eE_chn, eE_cst, eE_bi, eEs_cons, eEs_nil, o_le, decide_true, chn_t, lf_ok, sq_nx, eS_ret, ss_nil', eT_op, eE_op, eE_glo, ctx_glo, opt_some, o_notinS, beq_self_eq_true, Bool.not_true, Bool.not_false, Bool.false_eq_true, ↓reduceIte, Bool.true_and, Bool.false_and, Bool.and_false, Bool.and_true, sq_ret, in_kept]
            | false =>
              simp only [b_is_word, bi_lenS hm, e1, e8, ixS0 hm, HP.g_small, HP.g_kept, hd0, hk, hsrc, hl, eS_for, eI_e, its_items, eSs_cons, eS_if, eT_or, eT_no, eT_isi, eE_isi, eE_var, List.getElem?_cons_zero, List.getElem?_cons_succ, rdVar_some, rb_ok, any_str, tr_bl, pur_at, eT_chn, eE_chn, eE_cst, eE_bi, eEs_cons, eEs_nil, o_le, decide_true, chn_t, lf_ok, sq_nx, eS_ret, ss_nil', eT_op, eE_op, eE_glo, ctx_glo, opt_some, o_notinS, beq_self_eq_true, Bool.not_true, Bool.not_false, Bool.false_eq_true, ↓reduceIte, Bool.true_and, Bool.false_and, Bool.and_false, Bool.and_true, sq_ret, in_kept]
              by_cases ha : (c0 :: cs).all okc = true
              · rw [if_pos ha, ha]
                simp only [eSs_cons, eS_if, eT_or, eT_no, eT_isi, eE_isi, eE_var, List.getElem?_cons_zero, List.getElem?_cons_succ, rdVar_some, rb_ok, any_str, tr_bl, pur_at, eT_chn, eE_chn, eE_cst, eE_bi, eEs_cons, eEs_nil, o_le, decide_true, chn_t, lf_ok, sq_nx, eS_ret, ss_nil', eT_op, eE_op, eE_glo, ctx_glo, opt_some, o_notinS, beq_self_eq_true, Bool.not_true, Bool.not_false, Bool.false_eq_true, ↓reduceIte, Bool.true_and, Bool.false_and, Bool.and_false, Bool.and_true, sq_ret, in_kept]
              · rw [if_neg ha, Bool.eq_false_iff.mpr ha]
                simp only [eSs_cons, eS_if, eT_or, eT_no, eT_isi, eE_isi, eE_var, List.getElem?_cons_zero, List.getElem?_cons_succ, rdVar_some, rb_ok, any_str, tr_bl, pur_at, eT_chn, eE_chn, eE_cst, eE_bi, eEs_cons, eEs_nil, o_le, decide_true, chn_t, lf_ok, sq_nx, eS_ret, ss_nil', eT_op, eE_op, eE_glo, ctx_glo, opt_some, o_notinS, beq_self_eq_true, Bool.not_true, Bool.not_false, Bool.false_eq_true, ↓reduceIte, Bool.true_and, Bool.false_and, Bool.and_false, Bool.and_true, sq_ret, in_kept]
    | ref m => simp [b_is_word, any1 hb, ty_ref, wordD]
    | _ => rfl
  exact (congrArg (fun r => fin S (endR r)) this).trans (fin_ok0 rfl)
end
end Mi

set_option Elab.async false
set_option linter.all false
set_option maxRecDepth 100000
set_option maxHeartbeats 4000000
/-! Functions of the program: check_lots, need_counts and what rests on them. -/
namespace Mi
def szOk : D → Bool
  | .int i => decide (1 ≤ i)
  | _ => false
/-- a lot's fault, or its word -/
def lotF (ws : List (List Nat)) : D → Sum String (List Nat)
  | .tup [.str w, z] => if wordB w then (if ws.contains w then .inl "twice" else (if szOk z then .inr w else .inl "size")) else .inl "word"
  | .tup [_, _] => .inl "word"
  | _ => .inl "shape"
def codeS : String → List Nat
  | "shape" => [115, 104, 97, 112, 101]
  | "word" => [119, 111, 114, 100]
  | "twice" => [116, 119, 105, 99, 101]
  | _ => [115, 105, 122, 101]
def kvsOf (ws : List (List Nat)) : List (Kk × D) := ws.map fun w => (Sum.inr w, D.bl true)
/-- no text within is longer than a text may be -/
def lotSane : D → Prop
  | .tup [.str w, _] => w.length ≤ mx
  | _ => True
def badLots (i : Int) (e : String) : Exn := ⟨"BadLots", [("at", .int i), ("word", .str (codeS e))]⟩
theorem kvs_any (w : List Nat) (ws : List (List Nat)) : ((kvsOf ws).any fun p => decide (p.1 = Sum.inr w)) = ws.contains w := by
  unfold kvsOf
  induction ws with
  | nil => rfl
  | cons v ws ih =>
    rw [List.map_cons, List.any_cons, ih, List.contains_cons]
    have : decide ((Sum.inr v : Kk) = Sum.inr w) = (w == v) := by
      rw [Bool.eq_iff_iff, decide_eq_true_eq, beq_iff_eq]
      exact ⟨fun h => (Sum.inr.inj h).symm, fun h => by rw [h]⟩
    rw [this]
theorem at_end {S : Store} {o : O} : (S ++ [o])[S.length]? = some o := by simp
theorem in_dic {S : Store} {w : List Nat} {ws : List (List Nat)} : opD .in_ (.str w) (.ref S.length) (S ++ [.dic (kvsOf ws)]) = .ok (.bl (ws.contains w)) (S ++ [.dic (kvsOf ws)]) := by
  show opIn false (.str w) (.ref S.length) (S ++ [.dic (kvsOf ws)]) = _
  unfold opIn
  simp only [at_end, D.key, kvs_any, Bool.false_xor]
theorem put_dic {S : Store} {w : List Nat} {ws : List (List Nat)} (h : ws.contains w = false) (hl : ws.length < mx) : setItem (.ref S.length) (.str w) (.bl true) (S ++ [.dic (kvsOf ws)]) = .ok () (S ++ [.dic (kvsOf (ws ++ [w]))]) := by
  unfold setItem
  have hk : (kvsOf ws).length < mx := by unfold kvsOf; rw [List.length_map]; exact hl
  have hp : putKk (kvsOf ws) (Sum.inr w) (.bl true) = kvsOf (ws ++ [w]) := by
    unfold putKk
    rw [kvs_any, if_neg (by rw [h]; exact Bool.false_ne_true)]
    unfold kvsOf
    rw [List.map_append]
    rfl
  simp only [at_end, D.key, hk, ↓reduceIte, hp]
  congr 1
  rw [List.set_append_right _ _ (Nat.le_refl _)]
  simp
mutual
theorem bel_mono {k m : Nat} (h : k ≤ m) : ∀ {d : D}, d.bel k = true → d.bel m = true
  | .non, _ => rfl
  | .bl _, _ => rfl
  | .int _, _ => rfl
  | .str _, _ => rfl
  | .tup ds, e => bels_mono h (ds := ds) e
  | .ref n, e => decide_eq_true (Nat.lt_of_lt_of_le (of_decide_eq_true e) h)
  | .rol ds, e => bels_mono h (ds := ds) e
theorem bels_mono {k m : Nat} (h : k ≤ m) : ∀ {ds : List D}, D.bels k ds = true → D.bels m ds = true
  | [], _ => rfl
  | d :: ds, e => by
    have e : (d.bel k && D.bels k ds) = true := e
    rw [Bool.and_eq_true] at e
    show (d.bel m && D.bels m ds) = true
    rw [bel_mono h e.1, bels_mono h e.2]
    rfl
end
theorem bel_app {S : Store} {o : O} {d : D} (h : d.bel S.length = true) : d.bel (S ++ [o]).length = true := by
  rw [List.length_append]
  exact bel_mono (Nat.le_add_right _ _) h
section
variable {P : Prog} (HP : Has P) {fu n : Nat} {S : Store}
include HP
def lotBody : Ss := (.cons (.if_ (.or2 (.no (.isi (.var 3) [.tuple])) (.op .ne (.bi .len (.cons (.var 3) .nil)) (.cst (.int 2)))) (.cons (.rais "BadLots" (.cons (.var 2) (.cons (.cst (.str [115, 104, 97, 112, 101])) .nil))) .nil) .nil) (.cons (.asg (.tup (.cons (.nm 4) (.cons (.nm 5) .nil))) (.var 3)) (.cons (.if_ (.no (.call "is_word" (.cons (.var 4) .nil))) (.cons (.rais "BadLots" (.cons (.var 2) (.cons (.cst (.str [119, 111, 114, 100])) .nil))) .nil) .nil) (.cons (.if_ (.op .in_ (.var 4) (.var 1)) (.cons (.rais "BadLots" (.cons (.var 2) (.cons (.cst (.str [116, 119, 105, 99, 101])) .nil))) .nil) .nil) (.cons (.if_ (.or2 (.no (.call "is_integer" (.cons (.var 5) .nil))) (.op .lt (.var 5) (.cst (.int 1)))) (.cons (.rais "BadLots" (.cons (.var 2) (.cons (.cst (.str [115, 105, 122, 101])) .nil))) .nil) .nil) (.cons (.sub (.var 1) (.var 4) (.cst (.bl true))) .nil))))))
theorem lot_body {d : D} (hb : d.bel S.length = true) (hs : lotSane d) {ws : List (List Nat)} (hl : ws.length < mx) (th : D) (i : Int) (x2 x3 x4 x5 : Option D) :
    ∃ δ', forB (ctx P fu (callN P fu (n + 1))) (.tup (.cons (.nm 2) (.cons (.nm 3) .nil))) lotBody (.tup [.int i, d]) [some th, some (.ref S.length), x2, x3, x4, x5] (S ++ [.dic (kvsOf ws)]) = (match lotF ws d with
      | .inl e => .exn (badLots i e) δ' (S ++ [.dic (kvsOf ws)])
      | .inr w => .nx δ' (S ++ [.dic (kvsOf (ws ++ [w]))])) ∧ ∃ y2 y3 y4 y5, δ' = [some th, some (.ref S.length), y2, y3, y4, y5] := by
  have hb' : d.bel (S ++ [O.dic (kvsOf ws)]).length = true := bel_app hb
  have notT : tyD (S ++ [O.dic (kvsOf ws)]) .tuple d = false → ∃ δ', forB (ctx P fu (callN P fu (n + 1))) (.tup (.cons (.nm 2) (.cons (.nm 3) .nil))) lotBody (.tup [.int i, d]) [some th, some (.ref S.length), x2, x3, x4, x5] (S ++ [.dic (kvsOf ws)]) = .exn (badLots i "shape") δ' (S ++ [.dic (kvsOf ws)]) ∧ ∃ y2 y3 y4 y5, δ' = [some th, some (.ref S.length), y2, y3, y4, y5] := fun h => by
    refine ⟨[some th, some (.ref S.length), some (.int i), some d, x4, x5], ?_, _, _, _, _, rfl⟩
    rw [forB_at rfl]
    simp only [lotBody, any1 hb', h, HP.i_lots, eSs_cons, eS_if, eS_asg, eS_sub, eS_exp, eS_ret, eS_for, eS_rais, eS_brk, eS_cont, eS_pass, ss_nil', eT_or, eT_and, eT_no, eT_isi, eT_var, eT_cst, eT_op, eT_chn, eT_call, eT_bi, eE_isi, eE_var, eE_op, eE_glo, eE_chn, eE_cst, eE_bi, eE_bif, eE_tup, eE_fre, eE_dic0, eE_neg, eE_no, eE_and, eE_or, eE_ite, eE_call, eE_me, eE_sl, eE_rev, eO_non, eO_som, part_int, eEs_cons, eEs_nil, eF_lst, eF_list, eF_lc, eI_e, eI_f, eI_rng1, eI_enu, eI_z2, eI_z3, src_tup, src_rol, enu_tup, zip_tup, zip_tup3, its_items, List.getElem?_cons_zero, List.getElem?_cons_succ, List.set_cons_zero, List.set_cons_succ, rdVar_some, rb_ok, rb_exn, any_str, any_tup, any_int, any_bl, any_non, tr_bl, pur_at, alloc_at, bnd_at, o_add, o_sub, o_lt, o_le, o_gt, o_ge, o_eqI, o_neI, o_eqS, o_isN, chn_t, chn_f, lf_ok, lf_exn, sq_nx, sq_ret, sq_exn, ctx_glo, ctx_call, ctx_ini, opt_some, o_notinS, o_inS, bi_lenT, bi_intI, bi_intB, bi_abs, bi_max, bi_min, bif_tup, bi_tupT, neg_int', sl_tup, nxO_some, putT_nm, putT_tup, putTs_nil, putTs_cons, Option.bind_some, raiO_1, raiO_2, ix_0, ix_1, beq_self_eq_true, Bool.not_true, Bool.not_false, Bool.false_eq_true, ↓reduceIte, Bool.true_and, Bool.false_and, Bool.and_false, Bool.and_true, decide_true, decide_false, wipe_nil, wipe_cons]
    rfl
  cases d with
  | tup ds =>
    match ds, hb, hs with
    | [], _, _ =>
      refine ⟨[some th, some (.ref S.length), some (.int i), some (.tup []), x4, x5], ?_, _, _, _, _, rfl⟩
      rw [forB_at rfl]
      simp only [lotBody, HP.i_lots, eSs_cons, eS_if, eS_asg, eS_sub, eS_exp, eS_ret, eS_for, eS_rais, eS_brk, eS_cont, eS_pass, ss_nil', eT_or, eT_and, eT_no, eT_isi, eT_var, eT_cst, eT_op, eT_chn, eT_call, eT_bi, eE_isi, eE_var, eE_op, eE_glo, eE_chn, eE_cst, eE_bi, eE_bif, eE_tup, eE_fre, eE_dic0, eE_neg, eE_no, eE_and, eE_or, eE_ite, eE_call, eE_me, eE_sl, eE_rev, eO_non, eO_som, part_int, eEs_cons, eEs_nil, eF_lst, eF_list, eF_lc, eI_e, eI_f, eI_rng1, eI_enu, eI_z2, eI_z3, src_tup, src_rol, enu_tup, zip_tup, zip_tup3, its_items, List.getElem?_cons_zero, List.getElem?_cons_succ, List.set_cons_zero, List.set_cons_succ, rdVar_some, rb_ok, rb_exn, any_str, any_tup, any_int, any_bl, any_non, tr_bl, pur_at, alloc_at, bnd_at, o_add, o_sub, o_lt, o_le, o_gt, o_ge, o_eqI, o_neI, o_eqS, o_isN, chn_t, chn_f, lf_ok, lf_exn, sq_nx, sq_ret, sq_exn, ctx_glo, ctx_call, ctx_ini, opt_some, o_notinS, o_inS, bi_lenT, bi_intI, bi_intB, bi_abs, bi_max, bi_min, bif_tup, bi_tupT, neg_int', sl_tup, nxO_some, putT_nm, putT_tup, putTs_nil, putTs_cons, Option.bind_some, raiO_1, raiO_2, ix_0, ix_1, beq_self_eq_true, Bool.not_true, Bool.not_false, Bool.false_eq_true, ↓reduceIte, Bool.true_and, Bool.false_and, Bool.and_false, Bool.and_true, decide_true, decide_false, wipe_nil, wipe_cons]
      rfl
    | [a], _, _ =>
      refine ⟨[some th, some (.ref S.length), some (.int i), some (.tup [a]), x4, x5], ?_, _, _, _, _, rfl⟩
      rw [forB_at rfl]
      have e2 : lotF ws (.tup [a]) = .inl "shape" := by cases a <;> rfl
      have ne2 : (!(((([a] : List D).length : Nat) : Int) == 2)) = true := rfl
      rw [e2]
      simp only [lotBody, HP.i_lots, ne2, eSs_cons, eS_if, eS_asg, eS_sub, eS_exp, eS_ret, eS_for, eS_rais, eS_brk, eS_cont, eS_pass, ss_nil', eT_or, eT_and, eT_no, eT_isi, eT_var, eT_cst, eT_op, eT_chn, eT_call, eT_bi, eE_isi, eE_var, eE_op, eE_glo, eE_chn, eE_cst, eE_bi, eE_bif, eE_tup, eE_fre, eE_dic0, eE_neg, eE_no, eE_and, eE_or, eE_ite, eE_call, eE_me, eE_sl, eE_rev, eO_non, eO_som, part_int, eEs_cons, eEs_nil, eF_lst, eF_list, eF_lc, eI_e, eI_f, eI_rng1, eI_enu, eI_z2, eI_z3, src_tup, src_rol, enu_tup, zip_tup, zip_tup3, its_items, List.getElem?_cons_zero, List.getElem?_cons_succ, List.set_cons_zero, List.set_cons_succ, rdVar_some, rb_ok, rb_exn, any_str, any_tup, any_int, any_bl, any_non, tr_bl, pur_at, alloc_at, bnd_at, o_add, o_sub, o_lt, o_le, o_gt, o_ge, o_eqI, o_neI, o_eqS, o_isN, chn_t, chn_f, lf_ok, lf_exn, sq_nx, sq_ret, sq_exn, ctx_glo, ctx_call, ctx_ini, opt_some, o_notinS, o_inS, bi_lenT, bi_intI, bi_intB, bi_abs, bi_max, bi_min, bif_tup, bi_tupT, neg_int', sl_tup, nxO_some, putT_nm, putT_tup, putTs_nil, putTs_cons, Option.bind_some, raiO_1, raiO_2, ix_0, ix_1, beq_self_eq_true, Bool.not_true, Bool.not_false, Bool.false_eq_true, ↓reduceIte, Bool.true_and, Bool.false_and, Bool.and_false, Bool.and_true, decide_true, decide_false, wipe_nil, wipe_cons]
      rfl
    | [a, b], hb, hs =>
      have hab : (a.bel S.length && (b.bel S.length && true)) = true := hb
      simp only [Bool.and_eq_true] at hab
      have ha' : a.bel (S ++ [O.dic (kvsOf ws)]).length = true := bel_app hab.1
      have hbb : b.bel (S ++ [O.dic (kvsOf ws)]).length = true := bel_app hab.2.1
      have ne2 : (!(((([a, b] : List D).length : Nat) : Int) == 2)) = false := rfl
      refine ⟨[some th, some (.ref S.length), some (.int i), some (.tup [a, b]), some a, some b], ?_, _, _, _, _, rfl⟩
      rw [forB_at rfl]
      by_cases hw : ∃ w, a = .str w
      · obtain ⟨w, rfl⟩ := hw
        have hsw : ∀ s, D.str w = .str s → s.length ≤ mx := fun s e => by cases e; exact hs
        have eF : lotF ws (.tup [.str w, b]) = if wordB w then (if ws.contains w then .inl "twice" else (if szOk b then .inr w else .inl "size")) else .inl "word" := rfl
        rw [eF]
        have iw := is_word_ok HP (fu := fu) (n := n) ha' hsw
        rw [show wordD (.str w) = wordB w from rfl] at iw
        cases h1 : wordB w with
        | false =>
          rw [h1] at iw
          simp only [lotBody, HP.i_lots, ne2, iw, eSs_cons, eS_if, eS_asg, eS_sub, eS_exp, eS_ret, eS_for, eS_rais, eS_brk, eS_cont, eS_pass, ss_nil', eT_or, eT_and, eT_no, eT_isi, eT_var, eT_cst, eT_op, eT_chn, eT_call, eT_bi, eE_isi, eE_var, eE_op, eE_glo, eE_chn, eE_cst, eE_bi, eE_bif, eE_tup, eE_fre, eE_dic0, eE_neg, eE_no, eE_and, eE_or, eE_ite, eE_call, eE_me, eE_sl, eE_rev, eO_non, eO_som, part_int, eEs_cons, eEs_nil, eF_lst, eF_list, eF_lc, eI_e, eI_f, eI_rng1, eI_enu, eI_z2, eI_z3, src_tup, src_rol, enu_tup, zip_tup, zip_tup3, its_items, List.getElem?_cons_zero, List.getElem?_cons_succ, List.set_cons_zero, List.set_cons_succ, rdVar_some, rb_ok, rb_exn, any_str, any_tup, any_int, any_bl, any_non, tr_bl, pur_at, alloc_at, bnd_at, o_add, o_sub, o_lt, o_le, o_gt, o_ge, o_eqI, o_neI, o_eqS, o_isN, chn_t, chn_f, lf_ok, lf_exn, sq_nx, sq_ret, sq_exn, ctx_glo, ctx_call, ctx_ini, opt_some, o_notinS, o_inS, bi_lenT, bi_intI, bi_intB, bi_abs, bi_max, bi_min, bif_tup, bi_tupT, neg_int', sl_tup, nxO_some, putT_nm, putT_tup, putTs_nil, putTs_cons, Option.bind_some, raiO_1, raiO_2, ix_0, ix_1, beq_self_eq_true, Bool.not_true, Bool.not_false, Bool.false_eq_true, ↓reduceIte, Bool.true_and, Bool.false_and, Bool.and_false, Bool.and_true, decide_true, decide_false, wipe_nil, wipe_cons]
          rfl
        | true =>
          rw [h1] at iw
          cases h2 : ws.contains w with
          | true =>
            simp only [lotBody, HP.i_lots, ne2, iw, in_dic, h2, eSs_cons, eS_if, eS_asg, eS_sub, eS_exp, eS_ret, eS_for, eS_rais, eS_brk, eS_cont, eS_pass, ss_nil', eT_or, eT_and, eT_no, eT_isi, eT_var, eT_cst, eT_op, eT_chn, eT_call, eT_bi, eE_isi, eE_var, eE_op, eE_glo, eE_chn, eE_cst, eE_bi, eE_bif, eE_tup, eE_fre, eE_dic0, eE_neg, eE_no, eE_and, eE_or, eE_ite, eE_call, eE_me, eE_sl, eE_rev, eO_non, eO_som, part_int, eEs_cons, eEs_nil, eF_lst, eF_list, eF_lc, eI_e, eI_f, eI_rng1, eI_enu, eI_z2, eI_z3, src_tup, src_rol, enu_tup, zip_tup, zip_tup3, its_items, List.getElem?_cons_zero, List.getElem?_cons_succ, List.set_cons_zero, List.set_cons_succ, rdVar_some, rb_ok, rb_exn, any_str, any_tup, any_int, any_bl, any_non, tr_bl, pur_at, alloc_at, bnd_at, o_add, o_sub, o_lt, o_le, o_gt, o_ge, o_eqI, o_neI, o_eqS, o_isN, chn_t, chn_f, lf_ok, lf_exn, sq_nx, sq_ret, sq_exn, ctx_glo, ctx_call, ctx_ini, opt_some, o_notinS, o_inS, bi_lenT, bi_intI, bi_intB, bi_abs, bi_max, bi_min, bif_tup, bi_tupT, neg_int', sl_tup, nxO_some, putT_nm, putT_tup, putTs_nil, putTs_cons, Option.bind_some, raiO_1, raiO_2, ix_0, ix_1, beq_self_eq_true, Bool.not_true, Bool.not_false, Bool.false_eq_true, ↓reduceIte, Bool.true_and, Bool.false_and, Bool.and_false, Bool.and_true, decide_true, decide_false, wipe_nil, wipe_cons]
            rfl
          | false =>
            have ii := is_integer_ok HP (fu := fu) (n := n) hbb
            cases b with
            | int z =>
              rw [show isI (.int z) = true from rfl] at ii
              by_cases hz : 1 ≤ z
              · have hz' : decide (z < 1) = false := decide_eq_false (by omega)
                simp only [lotBody, HP.i_lots, ne2, iw, in_dic, h2, ii, hz', put_dic h2 hl, show szOk (.int z) = true from decide_eq_true hz, eSs_cons, eS_if, eS_asg, eS_sub, eS_exp, eS_ret, eS_for, eS_rais, eS_brk, eS_cont, eS_pass, ss_nil', eT_or, eT_and, eT_no, eT_isi, eT_var, eT_cst, eT_op, eT_chn, eT_call, eT_bi, eE_isi, eE_var, eE_op, eE_glo, eE_chn, eE_cst, eE_bi, eE_bif, eE_tup, eE_fre, eE_dic0, eE_neg, eE_no, eE_and, eE_or, eE_ite, eE_call, eE_me, eE_sl, eE_rev, eO_non, eO_som, part_int, eEs_cons, eEs_nil, eF_lst, eF_list, eF_lc, eI_e, eI_f, eI_rng1, eI_enu, eI_z2, eI_z3, src_tup, src_rol, enu_tup, zip_tup, zip_tup3, its_items, List.getElem?_cons_zero, List.getElem?_cons_succ, List.set_cons_zero, List.set_cons_succ, rdVar_some, rb_ok, rb_exn, any_str, any_tup, any_int, any_bl, any_non, tr_bl, pur_at, alloc_at, bnd_at, o_add, o_sub, o_lt, o_le, o_gt, o_ge, o_eqI, o_neI, o_eqS, o_isN, chn_t, chn_f, lf_ok, lf_exn, sq_nx, sq_ret, sq_exn, ctx_glo, ctx_call, ctx_ini, opt_some, o_notinS, o_inS, bi_lenT, bi_intI, bi_intB, bi_abs, bi_max, bi_min, bif_tup, bi_tupT, neg_int', sl_tup, nxO_some, putT_nm, putT_tup, putTs_nil, putTs_cons, Option.bind_some, raiO_1, raiO_2, ix_0, ix_1, beq_self_eq_true, Bool.not_true, Bool.not_false, Bool.false_eq_true, ↓reduceIte, Bool.true_and, Bool.false_and, Bool.and_false, Bool.and_true, decide_true, decide_false, wipe_nil, wipe_cons]
              · have hz' : decide (z < 1) = true := decide_eq_true (by omega)
                simp only [lotBody, HP.i_lots, ne2, iw, in_dic, h2, ii, hz', show szOk (.int z) = false from decide_eq_false hz, eSs_cons, eS_if, eS_asg, eS_sub, eS_exp, eS_ret, eS_for, eS_rais, eS_brk, eS_cont, eS_pass, ss_nil', eT_or, eT_and, eT_no, eT_isi, eT_var, eT_cst, eT_op, eT_chn, eT_call, eT_bi, eE_isi, eE_var, eE_op, eE_glo, eE_chn, eE_cst, eE_bi, eE_bif, eE_tup, eE_fre, eE_dic0, eE_neg, eE_no, eE_and, eE_or, eE_ite, eE_call, eE_me, eE_sl, eE_rev, eO_non, eO_som, part_int, eEs_cons, eEs_nil, eF_lst, eF_list, eF_lc, eI_e, eI_f, eI_rng1, eI_enu, eI_z2, eI_z3, src_tup, src_rol, enu_tup, zip_tup, zip_tup3, its_items, List.getElem?_cons_zero, List.getElem?_cons_succ, List.set_cons_zero, List.set_cons_succ, rdVar_some, rb_ok, rb_exn, any_str, any_tup, any_int, any_bl, any_non, tr_bl, pur_at, alloc_at, bnd_at, o_add, o_sub, o_lt, o_le, o_gt, o_ge, o_eqI, o_neI, o_eqS, o_isN, chn_t, chn_f, lf_ok, lf_exn, sq_nx, sq_ret, sq_exn, ctx_glo, ctx_call, ctx_ini, opt_some, o_notinS, o_inS, bi_lenT, bi_intI, bi_intB, bi_abs, bi_max, bi_min, bif_tup, bi_tupT, neg_int', sl_tup, nxO_some, putT_nm, putT_tup, putTs_nil, putTs_cons, Option.bind_some, raiO_1, raiO_2, ix_0, ix_1, beq_self_eq_true, Bool.not_true, Bool.not_false, Bool.false_eq_true, ↓reduceIte, Bool.true_and, Bool.false_and, Bool.and_false, Bool.and_true, decide_true, decide_false, wipe_nil, wipe_cons]
                rfl
            | _ =>
              simp only [lotBody, HP.i_lots, ne2, iw, in_dic, h2, ii, isI, szOk, eSs_cons, eS_if, eS_asg, eS_sub, eS_exp, eS_ret, eS_for, eS_rais, eS_brk, eS_cont, eS_pass, ss_nil', eT_or, eT_and, eT_no, eT_isi, eT_var, eT_cst, eT_op, eT_chn, eT_call, eT_bi, eE_isi, eE_var, eE_op, eE_glo, eE_chn, eE_cst, eE_bi, eE_bif, eE_tup, eE_fre, eE_dic0, eE_neg, eE_no, eE_and, eE_or, eE_ite, eE_call, eE_me, eE_sl, eE_rev, eO_non, eO_som, part_int, eEs_cons, eEs_nil, eF_lst, eF_list, eF_lc, eI_e, eI_f, eI_rng1, eI_enu, eI_z2, eI_z3, src_tup, src_rol, enu_tup, zip_tup, zip_tup3, its_items, List.getElem?_cons_zero, List.getElem?_cons_succ, List.set_cons_zero, List.set_cons_succ, rdVar_some, rb_ok, rb_exn, any_str, any_tup, any_int, any_bl, any_non, tr_bl, pur_at, alloc_at, bnd_at, o_add, o_sub, o_lt, o_le, o_gt, o_ge, o_eqI, o_neI, o_eqS, o_isN, chn_t, chn_f, lf_ok, lf_exn, sq_nx, sq_ret, sq_exn, ctx_glo, ctx_call, ctx_ini, opt_some, o_notinS, o_inS, bi_lenT, bi_intI, bi_intB, bi_abs, bi_max, bi_min, bif_tup, bi_tupT, neg_int', sl_tup, nxO_some, putT_nm, putT_tup, putTs_nil, putTs_cons, Option.bind_some, raiO_1, raiO_2, ix_0, ix_1, beq_self_eq_true, Bool.not_true, Bool.not_false, Bool.false_eq_true, ↓reduceIte, Bool.true_and, Bool.false_and, Bool.and_false, Bool.and_true, decide_true, decide_false, wipe_nil, wipe_cons]
              rfl
      · have iw := is_word_ok HP (fu := fu) (n := n) ha' (fun s e => (hw ⟨s, e⟩).elim)
        have e1 : wordD a = false := by
          cases a <;> first | rfl | exact (hw ⟨_, rfl⟩).elim
        rw [e1] at iw
        have e2 : lotF ws (.tup [a, b]) = .inl "word" := by
          cases a <;> first | rfl | exact (hw ⟨_, rfl⟩).elim
        rw [e2]
        simp only [lotBody, HP.i_lots, ne2, iw, eSs_cons, eS_if, eS_asg, eS_sub, eS_exp, eS_ret, eS_for, eS_rais, eS_brk, eS_cont, eS_pass, ss_nil', eT_or, eT_and, eT_no, eT_isi, eT_var, eT_cst, eT_op, eT_chn, eT_call, eT_bi, eE_isi, eE_var, eE_op, eE_glo, eE_chn, eE_cst, eE_bi, eE_bif, eE_tup, eE_fre, eE_dic0, eE_neg, eE_no, eE_and, eE_or, eE_ite, eE_call, eE_me, eE_sl, eE_rev, eO_non, eO_som, part_int, eEs_cons, eEs_nil, eF_lst, eF_list, eF_lc, eI_e, eI_f, eI_rng1, eI_enu, eI_z2, eI_z3, src_tup, src_rol, enu_tup, zip_tup, zip_tup3, its_items, List.getElem?_cons_zero, List.getElem?_cons_succ, List.set_cons_zero, List.set_cons_succ, rdVar_some, rb_ok, rb_exn, any_str, any_tup, any_int, any_bl, any_non, tr_bl, pur_at, alloc_at, bnd_at, o_add, o_sub, o_lt, o_le, o_gt, o_ge, o_eqI, o_neI, o_eqS, o_isN, chn_t, chn_f, lf_ok, lf_exn, sq_nx, sq_ret, sq_exn, ctx_glo, ctx_call, ctx_ini, opt_some, o_notinS, o_inS, bi_lenT, bi_intI, bi_intB, bi_abs, bi_max, bi_min, bif_tup, bi_tupT, neg_int', sl_tup, nxO_some, putT_nm, putT_tup, putTs_nil, putTs_cons, Option.bind_some, raiO_1, raiO_2, ix_0, ix_1, beq_self_eq_true, Bool.not_true, Bool.not_false, Bool.false_eq_true, ↓reduceIte, Bool.true_and, Bool.false_and, Bool.and_false, Bool.and_true, decide_true, decide_false, wipe_nil, wipe_cons]
        rfl
    | a :: b :: x :: r, _, _ =>
      have ne2 : (!((((a :: b :: x :: r).length : Nat) : Int) == 2)) = true := by
        have : ¬ (((a :: b :: x :: r).length : Nat) : Int) = 2 := by simp only [List.length_cons]; omega
        rw [Bool.not_eq_true', beq_eq_false_iff_ne]
        exact this
      refine ⟨[some th, some (.ref S.length), some (.int i), some (.tup (a :: b :: x :: r)), x4, x5], ?_, _, _, _, _, rfl⟩
      rw [forB_at rfl]
      have e2 : lotF ws (.tup (a :: b :: x :: r)) = .inl "shape" := by
        cases a <;> rfl
      rw [e2]
      simp only [lotBody, HP.i_lots, ne2, eSs_cons, eS_if, eS_asg, eS_sub, eS_exp, eS_ret, eS_for, eS_rais, eS_brk, eS_cont, eS_pass, ss_nil', eT_or, eT_and, eT_no, eT_isi, eT_var, eT_cst, eT_op, eT_chn, eT_call, eT_bi, eE_isi, eE_var, eE_op, eE_glo, eE_chn, eE_cst, eE_bi, eE_bif, eE_tup, eE_fre, eE_dic0, eE_neg, eE_no, eE_and, eE_or, eE_ite, eE_call, eE_me, eE_sl, eE_rev, eO_non, eO_som, part_int, eEs_cons, eEs_nil, eF_lst, eF_list, eF_lc, eI_e, eI_f, eI_rng1, eI_enu, eI_z2, eI_z3, src_tup, src_rol, enu_tup, zip_tup, zip_tup3, its_items, List.getElem?_cons_zero, List.getElem?_cons_succ, List.set_cons_zero, List.set_cons_succ, rdVar_some, rb_ok, rb_exn, any_str, any_tup, any_int, any_bl, any_non, tr_bl, pur_at, alloc_at, bnd_at, o_add, o_sub, o_lt, o_le, o_gt, o_ge, o_eqI, o_neI, o_eqS, o_isN, chn_t, chn_f, lf_ok, lf_exn, sq_nx, sq_ret, sq_exn, ctx_glo, ctx_call, ctx_ini, opt_some, o_notinS, o_inS, bi_lenT, bi_intI, bi_intB, bi_abs, bi_max, bi_min, bif_tup, bi_tupT, neg_int', sl_tup, nxO_some, putT_nm, putT_tup, putTs_nil, putTs_cons, Option.bind_some, raiO_1, raiO_2, ix_0, ix_1, beq_self_eq_true, Bool.not_true, Bool.not_false, Bool.false_eq_true, ↓reduceIte, Bool.true_and, Bool.false_and, Bool.and_false, Bool.and_true, decide_true, decide_false, wipe_nil, wipe_cons]
      rfl
  | ref m => exact notT (ty_ref (by decide) (by decide))
  | _ => exact notT rfl
end
end Mi

set_option Elab.async false
set_option linter.all false
set_option maxRecDepth 100000
set_option maxHeartbeats 4000000
/-! check_lots, need_counts and what rests on them. -/
namespace Mi
/-- the first fault of a list of lots, from place k on, the words ws known -/
def lotsF (ws : List (List Nat)) (k : Nat) : List D → Option (Nat × String)
  | [] => none
  | d :: r => match lotF ws d with
    | .inl e => some (k, e)
    | .inr w => lotsF (ws ++ [w]) (k + 1) r
def chkD : D → Option (Int × String)
  | .tup (d :: ds) => (lotsF [] 0 (d :: ds)).map fun p => ((p.1 : Int), p.2)
  | _ => some (-1, "shape")
def dLot (p : List Nat × Int) : D := .tup [.str p.1, .int p.2]
def dLots (ls : List (List Nat × Int)) : D := .tup (ls.map dLot)
def badCounts (i : Int) : Exn := ⟨"BadCounts", [("at", .int i)]⟩
/-- at most z -/
def leB (z : Int) : D → Bool
  | .int i => decide (i ≤ z)
  | _ => false
/-- the first number that is none, or too great -/
def cntF (k : Nat) : List Int → List D → Option Nat
  | z :: zs, c :: cs => if (isN c && leB z c) = true then cntF (k + 1) zs cs else some k
  | _, _ => none
def cntD (zs : List Int) : D → Option Int
  | .tup cs => if cs.length = zs.length then (cntF 0 zs cs).map fun k => (k : Int) else some (-1)
  | _ => some (-1)
theorem atI_mid {pre : List D} {c : D} {r : List D} {k : Nat} (h : pre.length = k) : atI (pre ++ c :: r) (k : Int) = some c := by
  subst h
  unfold atI ixn
  have h1 : (0 : Int) ≤ (pre.length : Int) := by omega
  have h2 : ((pre.length : Nat) : Int) < (((pre ++ c :: r).length : Nat) : Int) := by simp only [List.length_append, List.length_cons]; omega
  rw [if_pos h1, if_pos h2]
  show (pre ++ c :: r)[((pre.length : Nat) : Int).toNat]? = some c
  rw [Int.toNat_natCast, List.getElem?_append_right (Nat.le_refl _), Nat.sub_self]
  rfl
section
variable {P : Prog} (HP : Has P) {fu n : Nat} {S : Store}
include HP
theorem lots_loop (th : D) (src : Src) (hsrc : src = .its (match th with
    | .tup ds => enumD 0 ds
    | _ => [])) : ∀ (ds : List D) (k : Nat) (ws : List (List Nat)) (x2 x3 x4 x5 : Option D), (∀ d ∈ ds, d.bel S.length = true ∧ lotSane d) → ws.length + ds.length ≤ mx →
    ∃ δ' ws', forL src (forB (ctx P fu (callN P fu (n + 1))) (.tup (.cons (.nm 2) (.cons (.nm 3) .nil))) lotBody) (enumD k ds) [some th, some (.ref S.length), x2, x3, x4, x5] (S ++ [.dic (kvsOf ws)]) = (match lotsF ws k ds with
      | some p => .exn (badLots p.1 p.2) δ' (S ++ [.dic (kvsOf ws')])
      | none => .nx δ' (S ++ [.dic (kvsOf ws')])) ∧ ∃ y2 y3 y4 y5, δ' = [some th, some (.ref S.length), y2, y3, y4, y5]
  | [], k, ws, x2, x3, x4, x5, _, _ => by
    refine ⟨_, ws, ?_, x2, x3, x4, x5, rfl⟩
    show forL src _ [] _ _ = _
    rw [for_nil (by rw [hsrc]; rfl)]
    rfl
  | d :: ds, k, ws, x2, x3, x4, x5, hb, hl => by
    obtain ⟨δ1, h1, y2, y3, y4, y5, rfl⟩ := lot_body HP (fu := fu) (n := n) (hb d List.mem_cons_self).1 (hb d List.mem_cons_self).2 (ws := ws) (by rw [List.length_cons] at hl; omega) th (k : Int) x2 x3 x4 x5
    have hok : ∀ S, src.ok S = true := fun S => by rw [hsrc]; rfl
    show ∃ δ' ws', forL src _ (.tup [.int (k : Int), d] :: enumD (k + 1) ds) _ _ = (match (match lotF ws d with
      | .inl e => some (k, e)
      | .inr w => lotsF (ws ++ [w]) (k + 1) ds) with
      | some p => .exn (badLots p.1 p.2) δ' (S ++ [.dic (kvsOf ws')])
      | none => .nx δ' (S ++ [.dic (kvsOf ws')])) ∧ _
    cases e : lotF ws d with
    | inl er =>
      rw [e] at h1
      exact ⟨_, ws, for_exn (hok _) h1, y2, y3, y4, y5, rfl⟩
    | inr w =>
      rw [e] at h1
      obtain ⟨δ', ws', h2, h3⟩ := lots_loop th src hsrc ds (k + 1) (ws ++ [w]) y2 y3 y4 y5 (fun x hx => hb x (List.mem_cons_of_mem _ hx)) (by rw [List.length_append, List.length_singleton]; rw [List.length_cons] at hl; omega)
      exact ⟨δ', ws', (for_nx (hok _) h1).trans h2, h3⟩
theorem check_lots_ok {d : D} (hb : d.bel S.length = true) (hs : ∀ ds, d = .tup ds → ds.length ≤ mx ∧ ∀ x ∈ ds, lotSane x) :
    callN P fu (n + 2) "check_lots" [d] S = (match chkD d with
      | some p => .exn (badLots p.1 p.2) S
      | none => (match d with
        | .tup ds => .ok (.int (ds.length : Int)) S
        | _ => .bad)) := by
  rw [call_eq HP.f_check_lots rfl]
  have bad0 : evSs (ctx P fu (callN P fu (n + 1))) b_check_lots [some d, none, none, none, none, none] S = .exn (badLots (-1) "shape") [some d, none, none, none, none, none] S → fin S (endR (evSs (ctx P fu (callN P fu (n + 1))) b_check_lots [some d, none, none, none, none, none] S)) = .exn (badLots (-1) "shape") S := fun h => by
    rw [h]
    exact fin_exn0 rfl
  have notT : tyD S .tuple d = false → evSs (ctx P fu (callN P fu (n + 1))) b_check_lots [some d, none, none, none, none, none] S = .exn (badLots (-1) "shape") [some d, none, none, none, none, none] S := fun h => by
    simp only [b_check_lots, any1 hb, h, HP.i_lots, eSs_cons, eS_if, eS_asg, eS_sub, eS_exp, eS_ret, eS_for, eS_rais, eS_brk, eS_cont, eS_pass, ss_nil', eT_or, eT_and, eT_no, eT_isi, eT_var, eT_cst, eT_op, eT_chn, eT_call, eT_bi, eE_isi, eE_var, eE_op, eE_glo, eE_chn, eE_cst, eE_bi, eE_bif, eE_tup, eE_fre, eE_dic0, eE_neg, eE_no, eE_and, eE_or, eE_ite, eE_call, eE_me, eE_sl, eE_rev, eO_non, eO_som, part_int, eEs_cons, eEs_nil, eF_lst, eF_list, eF_lc, eI_e, eI_f, eI_rng1, eI_enu, eI_z2, eI_z3, src_tup, src_rol, enu_tup, zip_tup, zip_tup3, its_items, List.getElem?_cons_zero, List.getElem?_cons_succ, List.set_cons_zero, List.set_cons_succ, rdVar_some, rb_ok, rb_exn, any_str, any_tup, any_int, any_bl, any_non, tr_bl, pur_at, alloc_at, bnd_at, o_add, o_sub, o_lt, o_le, o_gt, o_ge, o_eqI, o_neI, o_eqS, o_isN, chn_t, chn_f, lf_ok, lf_exn, sq_nx, sq_ret, sq_exn, ctx_glo, ctx_call, ctx_ini, opt_some, o_notinS, o_inS, bi_lenT, bi_intI, bi_intB, bi_abs, bi_max, bi_min, bif_tup, bi_tupT, neg_int', sl_tup, nxO_some, putT_nm, putT_tup, putTs_nil, putTs_cons, Option.bind_some, raiO_1, raiO_2, ix_0, ix_1, beq_self_eq_true, Bool.not_true, Bool.not_false, Bool.false_eq_true, ↓reduceIte, Bool.true_and, Bool.false_and, Bool.and_false, Bool.and_true, decide_true, decide_false, wipe_nil, wipe_cons]
    rfl
  cases d with
  | tup ds =>
    cases ds with
    | nil =>
      refine bad0 ?_
      simp only [b_check_lots, HP.i_lots, eSs_cons, eS_if, eS_asg, eS_sub, eS_exp, eS_ret, eS_for, eS_rais, eS_brk, eS_cont, eS_pass, ss_nil', eT_or, eT_and, eT_no, eT_isi, eT_var, eT_cst, eT_op, eT_chn, eT_call, eT_bi, eE_isi, eE_var, eE_op, eE_glo, eE_chn, eE_cst, eE_bi, eE_bif, eE_tup, eE_fre, eE_dic0, eE_neg, eE_no, eE_and, eE_or, eE_ite, eE_call, eE_me, eE_sl, eE_rev, eO_non, eO_som, part_int, eEs_cons, eEs_nil, eF_lst, eF_list, eF_lc, eI_e, eI_f, eI_rng1, eI_enu, eI_z2, eI_z3, src_tup, src_rol, enu_tup, zip_tup, zip_tup3, its_items, List.getElem?_cons_zero, List.getElem?_cons_succ, List.set_cons_zero, List.set_cons_succ, rdVar_some, rb_ok, rb_exn, any_str, any_tup, any_int, any_bl, any_non, tr_bl, pur_at, alloc_at, bnd_at, o_add, o_sub, o_lt, o_le, o_gt, o_ge, o_eqI, o_neI, o_eqS, o_isN, chn_t, chn_f, lf_ok, lf_exn, sq_nx, sq_ret, sq_exn, ctx_glo, ctx_call, ctx_ini, opt_some, o_notinS, o_inS, bi_lenT, bi_intI, bi_intB, bi_abs, bi_max, bi_min, bif_tup, bi_tupT, neg_int', sl_tup, nxO_some, putT_nm, putT_tup, putTs_nil, putTs_cons, Option.bind_some, raiO_1, raiO_2, ix_0, ix_1, beq_self_eq_true, Bool.not_true, Bool.not_false, Bool.false_eq_true, ↓reduceIte, Bool.true_and, Bool.false_and, Bool.and_false, Bool.and_true, decide_true, decide_false, wipe_nil, wipe_cons]
      rfl
    | cons d0 ds =>
      obtain ⟨hl, hsane⟩ := hs (d0 :: ds) rfl
      have hbel : ∀ x ∈ d0 :: ds, x.bel S.length = true := by
        have all : ∀ {l : List D}, D.bels S.length l = true → ∀ x ∈ l, x.bel S.length = true := by
          intro l
          induction l with
          | nil => intro _ x hx; cases hx
          | cons y l ih =>
            intro h x hx
            have h : (y.bel S.length && D.bels S.length l) = true := h
            rw [Bool.and_eq_true] at h
            rcases List.mem_cons.mp hx with e | e
            · rw [e]; exact h.1
            · exact ih h.2 x e
        exact all (show D.bels S.length (d0 :: ds) = true from hb)
      obtain ⟨δ', ws', h1, y2, y3, y4, y5, rfl⟩ := lots_loop HP (fu := fu) (n := n) (S := S) (.tup (d0 :: ds)) (.its (enumD 0 (d0 :: ds))) rfl (d0 :: ds) 0 [] none none none none (fun x hx => ⟨hbel x hx, hsane x hx⟩) (by simpa using hl)
      have ne0 : ((((d0 :: ds).length : Nat) : Int) == 0) = false := by
        rw [beq_eq_false_iff_ne]
        rw [List.length_cons]
        omega
      have e0 : evSs (ctx P fu (callN P fu (n + 1))) b_check_lots [some (.tup (d0 :: ds)), none, none, none, none, none] S = (forL (.its (enumD 0 (d0 :: ds))) (forB (ctx P fu (callN P fu (n + 1))) (.tup (.cons (.nm 2) (.cons (.nm 3) .nil))) lotBody) (enumD 0 (d0 :: ds)) [some (.tup (d0 :: ds)), some (.ref S.length), none, none, none, none] (S ++ [.dic (kvsOf [])])).sq (evSs (ctx P fu (callN P fu (n + 1))) (.cons (.ret (.bi .len (.cons (.var 0) .nil))) .nil)) := by
        simp only [b_check_lots, HP.i_lots, ne0, eSs_cons, eS_if, eS_asg, eS_sub, eS_exp, eS_ret, eS_for, eS_rais, eS_brk, eS_cont, eS_pass, ss_nil', eT_or, eT_and, eT_no, eT_isi, eT_var, eT_cst, eT_op, eT_chn, eT_call, eT_bi, eE_isi, eE_var, eE_op, eE_glo, eE_chn, eE_cst, eE_bi, eE_bif, eE_tup, eE_fre, eE_dic0, eE_neg, eE_no, eE_and, eE_or, eE_ite, eE_call, eE_me, eE_sl, eE_rev, eO_non, eO_som, part_int, eEs_cons, eEs_nil, eF_lst, eF_list, eF_lc, eI_e, eI_f, eI_rng1, eI_enu, eI_z2, eI_z3, src_tup, src_rol, enu_tup, zip_tup, zip_tup3, its_items, List.getElem?_cons_zero, List.getElem?_cons_succ, List.set_cons_zero, List.set_cons_succ, rdVar_some, rb_ok, rb_exn, any_str, any_tup, any_int, any_bl, any_non, tr_bl, pur_at, alloc_at, bnd_at, o_add, o_sub, o_lt, o_le, o_gt, o_ge, o_eqI, o_neI, o_eqS, o_isN, chn_t, chn_f, lf_ok, lf_exn, sq_nx, sq_ret, sq_exn, ctx_glo, ctx_call, ctx_ini, opt_some, o_notinS, o_inS, bi_lenT, bi_intI, bi_intB, bi_abs, bi_max, bi_min, bif_tup, bi_tupT, neg_int', sl_tup, nxO_some, putT_nm, putT_tup, putTs_nil, putTs_cons, Option.bind_some, raiO_1, raiO_2, ix_0, ix_1, beq_self_eq_true, Bool.not_true, Bool.not_false, Bool.false_eq_true, ↓reduceIte, Bool.true_and, Bool.false_and, Bool.and_false, Bool.and_true, decide_true, decide_false, wipe_nil, wipe_cons]
        rfl
      show fin S (endR (evSs (ctx P fu (callN P fu (n + 1))) b_check_lots [some (.tup (d0 :: ds)), none, none, none, none, none] S)) = _
      rw [e0, h1]
      show _ = (match (lotsF [] 0 (d0 :: ds)).map (fun p => ((p.1 : Int), p.2)) with
        | some p => Mi.R.exn (badLots p.1 p.2) S
        | none => Mi.R.ok (D.int ((d0 :: ds).length : Int)) S)
      cases lotsF [] 0 (d0 :: ds) with
      | some p => exact fin_exn (g := [.dic (kvsOf ws')]) rfl
      | none => exact fin_ok (g := [.dic (kvsOf ws')]) rfl
  | ref m => exact bad0 (notT (ty_ref (by decide) (by decide)))
  | _ => exact bad0 (notT rfl)
end
end Mi

set_option Elab.async false
set_option linter.all false
set_option maxRecDepth 100000
set_option maxHeartbeats 4000000
/-! need_counts, is_below, common_counts and what is asked by place. -/
namespace Mi
theorem bels_all {k : Nat} : ∀ {l : List D}, D.bels k l = true → ∀ x ∈ l, x.bel k = true := by
  intro l
  induction l with
  | nil => intro _ x hx; cases hx
  | cons y l ih =>
    intro h x hx
    have h : (y.bel k && D.bels k l) = true := h
    rw [Bool.and_eq_true] at h
    rcases List.mem_cons.mp hx with e | e
    · rw [e]; exact h.1
    · exact ih h.2 x e
def numD (c : D) : Int := match c with
  | .int i => i
  | _ => 0
theorem cnt_ints : ∀ (zs : List Int) (cs : List D) (k : Nat), cs.length = zs.length → cntF k zs cs = none → ints? cs = some (cs.map numD)
  | [], [], _, _, _ => rfl
  | [], _ :: _, _, h, _ => by cases h
  | _ :: _, [], _, h, _ => by cases h
  | z :: zs, c :: cs, k, hl, h => by
    have h : (if (isN c && leB z c) = true then cntF (k + 1) zs cs else some k) = none := h
    cases c with
    | int i =>
      split at h
      · show (ints? cs).map (i :: ·) = _
        rw [cnt_ints zs cs (k + 1) (Nat.succ.inj hl) h]
        rfl
      · cases h
    | _ => cases h
section
variable {P : Prog} (HP : Has P) {fu n : Nat} {S : Store}
include HP
def cntBody : Ss := (.cons (.if_ (.or2 (.no (.call "is_number" (.cons (.op .ix (.var 1) (.var 2)) .nil))) (.op .gt (.op .ix (.var 1) (.var 2)) (.op .ix (.var 3) (.cst (.int 1))))) (.cons (.rais "BadCounts" (.cons (.var 2) .nil)) .nil) .nil) .nil)
theorem cnt_loop (lots : D) (cs0 : List D) (src : Src) (hok : src.ok S = true) : ∀ (ls : List (List Nat × Int)) (cs pre : List D) (k : Nat) (x2 x3 : Option D), cs0 = pre ++ cs → pre.length = k → cs.length = ls.length → (∀ c ∈ cs, c.bel S.length = true) →
    ∃ δ', forL src (forB (ctx P fu (callN P fu (n + 2))) (.tup (.cons (.nm 2) (.cons (.nm 3) .nil))) cntBody) (enumD k (ls.map dLot)) [some lots, some (.tup cs0), x2, x3] S = (match cntF k (ls.map (·.2)) cs with
      | some i => .exn (badCounts i) δ' S
      | none => .nx δ' S) ∧ ∃ y2 y3, δ' = [some lots, some (.tup cs0), y2, y3]
  | [], [], pre, k, x2, x3, _, _, _, _ => ⟨_, for_nil hok, x2, x3, rfl⟩
  | [], _ :: _, _, _, _, _, _, _, h, _ => by cases h
  | _ :: _, [], _, _, _, _, _, _, h, _ => by cases h
  | (w, z) :: ls, c :: cs, pre, k, x2, x3, he, hp, hl, hb => by
    have hat : atI cs0 (k : Int) = some c := by rw [he]; exact atI_mid hp
    have hix : opD .ix (.tup cs0) (.int (k : Int)) S = .ok c S := o_ixT hat
    have hn := is_number_ok HP (fu := fu) (n := n) (S := S) (hb c List.mem_cons_self)
    have step : forB (ctx P fu (callN P fu (n + 2))) (.tup (.cons (.nm 2) (.cons (.nm 3) .nil))) cntBody (.tup [.int (k : Int), dLot (w, z)]) [some lots, some (.tup cs0), x2, x3] S = if (isN c && leB z c) = true then .nx [some lots, some (.tup cs0), some (.int (k : Int)), some (dLot (w, z))] S else .exn (badCounts k) [some lots, some (.tup cs0), some (.int (k : Int)), some (dLot (w, z))] S := by
      rw [forB_at rfl]
      cases hc : isN c with
      | false =>
        rw [hc] at hn
        simp only [cntBody, hix, hn, HP.i_counts, eSs_cons, eS_if, eS_asg, eS_sub, eS_exp, eS_ret, eS_for, eS_rais, eS_brk, eS_cont, eS_pass, ss_nil', eT_or, eT_and, eT_no, eT_isi, eT_var, eT_cst, eT_op, eT_chn, eT_call, eT_bi, eE_isi, eE_var, eE_op, eE_glo, eE_chn, eE_cst, eE_bi, eE_bif, eE_tup, eE_fre, eE_dic0, eE_neg, eE_no, eE_and, eE_or, eE_ite, eE_call, eE_me, eE_sl, eE_rev, eO_non, eO_som, part_int, eEs_cons, eEs_nil, eF_lst, eF_list, eF_lc, eI_e, eI_f, eI_rng1, eI_enu, eI_z2, eI_z3, src_tup, src_rol, enu_tup, zip_tup, zip_tup3, its_items, List.getElem?_cons_zero, List.getElem?_cons_succ, List.set_cons_zero, List.set_cons_succ, rdVar_some, rb_ok, rb_exn, any_str, any_tup, any_int, any_bl, any_non, tr_bl, pur_at, alloc_at, bnd_at, o_add, o_sub, o_lt, o_le, o_gt, o_ge, o_eqI, o_neI, o_eqS, o_isN, chn_t, chn_f, lf_ok, lf_exn, sq_nx, sq_ret, sq_exn, ctx_glo, ctx_call, ctx_ini, opt_some, o_notinS, o_inS, bi_lenT, bi_intI, bi_intB, bi_abs, bi_max, bi_min, bif_tup, bi_tupT, neg_int', sl_tup, nxO_some, putT_nm, putT_tup, putTs_nil, putTs_cons, Option.bind_some, raiO_1, raiO_2, ix_0, ix_1, beq_self_eq_true, Bool.not_true, Bool.not_false, Bool.false_eq_true, ↓reduceIte, Bool.true_and, Bool.false_and, Bool.and_false, Bool.and_true, decide_true, decide_false, wipe_nil, wipe_cons]
        rfl
      | true =>
        rw [hc] at hn
        cases c with
        | int i =>
          have hix1 : opD .ix (dLot (w, z)) (.int 1) S = .ok (.int z) S := ix_1
          by_cases hz : i ≤ z
          · have h1 : decide (z < i) = false := decide_eq_false (by omega)
            rw [show leB z (.int i) = true from decide_eq_true hz]
            simp only [cntBody, hix, hn, HP.i_counts, hix1, h1, decide_eq_true hz, eSs_cons, eS_if, eS_asg, eS_sub, eS_exp, eS_ret, eS_for, eS_rais, eS_brk, eS_cont, eS_pass, ss_nil', eT_or, eT_and, eT_no, eT_isi, eT_var, eT_cst, eT_op, eT_chn, eT_call, eT_bi, eE_isi, eE_var, eE_op, eE_glo, eE_chn, eE_cst, eE_bi, eE_bif, eE_tup, eE_fre, eE_dic0, eE_neg, eE_no, eE_and, eE_or, eE_ite, eE_call, eE_me, eE_sl, eE_rev, eO_non, eO_som, part_int, eEs_cons, eEs_nil, eF_lst, eF_list, eF_lc, eI_e, eI_f, eI_rng1, eI_enu, eI_z2, eI_z3, src_tup, src_rol, enu_tup, zip_tup, zip_tup3, its_items, List.getElem?_cons_zero, List.getElem?_cons_succ, List.set_cons_zero, List.set_cons_succ, rdVar_some, rb_ok, rb_exn, any_str, any_tup, any_int, any_bl, any_non, tr_bl, pur_at, alloc_at, bnd_at, o_add, o_sub, o_lt, o_le, o_gt, o_ge, o_eqI, o_neI, o_eqS, o_isN, chn_t, chn_f, lf_ok, lf_exn, sq_nx, sq_ret, sq_exn, ctx_glo, ctx_call, ctx_ini, opt_some, o_notinS, o_inS, bi_lenT, bi_intI, bi_intB, bi_abs, bi_max, bi_min, bif_tup, bi_tupT, neg_int', sl_tup, nxO_some, putT_nm, putT_tup, putTs_nil, putTs_cons, Option.bind_some, raiO_1, raiO_2, ix_0, ix_1, beq_self_eq_true, Bool.not_true, Bool.not_false, Bool.false_eq_true, ↓reduceIte, Bool.true_and, Bool.false_and, Bool.and_false, Bool.and_true, decide_true, decide_false, wipe_nil, wipe_cons]
          · have h1 : decide (z < i) = true := decide_eq_true (by omega)
            rw [show leB z (.int i) = false from decide_eq_false hz]
            simp only [cntBody, hix, hn, HP.i_counts, hix1, h1, decide_eq_false hz, eSs_cons, eS_if, eS_asg, eS_sub, eS_exp, eS_ret, eS_for, eS_rais, eS_brk, eS_cont, eS_pass, ss_nil', eT_or, eT_and, eT_no, eT_isi, eT_var, eT_cst, eT_op, eT_chn, eT_call, eT_bi, eE_isi, eE_var, eE_op, eE_glo, eE_chn, eE_cst, eE_bi, eE_bif, eE_tup, eE_fre, eE_dic0, eE_neg, eE_no, eE_and, eE_or, eE_ite, eE_call, eE_me, eE_sl, eE_rev, eO_non, eO_som, part_int, eEs_cons, eEs_nil, eF_lst, eF_list, eF_lc, eI_e, eI_f, eI_rng1, eI_enu, eI_z2, eI_z3, src_tup, src_rol, enu_tup, zip_tup, zip_tup3, its_items, List.getElem?_cons_zero, List.getElem?_cons_succ, List.set_cons_zero, List.set_cons_succ, rdVar_some, rb_ok, rb_exn, any_str, any_tup, any_int, any_bl, any_non, tr_bl, pur_at, alloc_at, bnd_at, o_add, o_sub, o_lt, o_le, o_gt, o_ge, o_eqI, o_neI, o_eqS, o_isN, chn_t, chn_f, lf_ok, lf_exn, sq_nx, sq_ret, sq_exn, ctx_glo, ctx_call, ctx_ini, opt_some, o_notinS, o_inS, bi_lenT, bi_intI, bi_intB, bi_abs, bi_max, bi_min, bif_tup, bi_tupT, neg_int', sl_tup, nxO_some, putT_nm, putT_tup, putTs_nil, putTs_cons, Option.bind_some, raiO_1, raiO_2, ix_0, ix_1, beq_self_eq_true, Bool.not_true, Bool.not_false, Bool.false_eq_true, ↓reduceIte, Bool.true_and, Bool.false_and, Bool.and_false, Bool.and_true, decide_true, decide_false, wipe_nil, wipe_cons]
            rfl
        | _ => cases hc
    show ∃ δ', forL src _ (.tup [.int (k : Int), dLot (w, z)] :: enumD (k + 1) (ls.map dLot)) _ S = (match (if (isN c && leB z c) = true then cntF (k + 1) (ls.map (·.2)) cs else some k) with
      | some i => SR.exn (badCounts i) δ' S
      | none => .nx δ' S) ∧ _
    by_cases hcond : (isN c && leB z c) = true
    · rw [if_pos hcond] at step ⊢
      obtain ⟨δ', h2, h3⟩ := cnt_loop lots cs0 src hok ls cs (pre ++ [c]) (k + 1) _ _ (by rw [he, List.append_assoc]; rfl) (by rw [List.length_append, hp]; rfl) (Nat.succ.inj hl) fun x hx => hb x (List.mem_cons_of_mem _ hx)
      exact ⟨δ', (for_nx hok step).trans h2, h3⟩
    · rw [if_neg hcond] at step ⊢
      exact ⟨_, for_exn hok step, _, _, rfl⟩
theorem need_counts_ok {ls : List (List Nat × Int)} {d : D} (hb : d.bel S.length = true) : callN P fu (n + 3) "need_counts" [dLots ls, d] S = (match cntD (ls.map (·.2)) d with
      | some i => .exn (badCounts i) S
      | none => (match d with
        | .tup cs => .ok (.int (cs.map numD).sum) S
        | _ => .bad)) := by
  rw [call_eq HP.f_need_counts rfl]
  have bad0 : evSs (ctx P fu (callN P fu (n + 2))) b_need_counts [some (dLots ls), some d, none, none] S = .exn (badCounts (-1)) [some (dLots ls), some d, none, none] S → fin S (endR (evSs (ctx P fu (callN P fu (n + 2))) b_need_counts [some (dLots ls), some d, none, none] S)) = .exn (badCounts (-1)) S := fun h => by
    rw [h]
    exact fin_exn0 rfl
  have notT : tyD S .tuple d = false → evSs (ctx P fu (callN P fu (n + 2))) b_need_counts [some (dLots ls), some d, none, none] S = .exn (badCounts (-1)) [some (dLots ls), some d, none, none] S := fun h => by
    simp only [b_need_counts, any1 hb, h, HP.i_counts, eSs_cons, eS_if, eS_asg, eS_sub, eS_exp, eS_ret, eS_for, eS_rais, eS_brk, eS_cont, eS_pass, ss_nil', eT_or, eT_and, eT_no, eT_isi, eT_var, eT_cst, eT_op, eT_chn, eT_call, eT_bi, eE_isi, eE_var, eE_op, eE_glo, eE_chn, eE_cst, eE_bi, eE_bif, eE_tup, eE_fre, eE_dic0, eE_neg, eE_no, eE_and, eE_or, eE_ite, eE_call, eE_me, eE_sl, eE_rev, eO_non, eO_som, part_int, eEs_cons, eEs_nil, eF_lst, eF_list, eF_lc, eI_e, eI_f, eI_rng1, eI_enu, eI_z2, eI_z3, src_tup, src_rol, enu_tup, zip_tup, zip_tup3, its_items, List.getElem?_cons_zero, List.getElem?_cons_succ, List.set_cons_zero, List.set_cons_succ, rdVar_some, rb_ok, rb_exn, any_str, any_tup, any_int, any_bl, any_non, tr_bl, pur_at, alloc_at, bnd_at, o_add, o_sub, o_lt, o_le, o_gt, o_ge, o_eqI, o_neI, o_eqS, o_isN, chn_t, chn_f, lf_ok, lf_exn, sq_nx, sq_ret, sq_exn, ctx_glo, ctx_call, ctx_ini, opt_some, o_notinS, o_inS, bi_lenT, bi_intI, bi_intB, bi_abs, bi_max, bi_min, bif_tup, bi_tupT, neg_int', sl_tup, nxO_some, putT_nm, putT_tup, putTs_nil, putTs_cons, Option.bind_some, raiO_1, raiO_2, ix_0, ix_1, beq_self_eq_true, Bool.not_true, Bool.not_false, Bool.false_eq_true, ↓reduceIte, Bool.true_and, Bool.false_and, Bool.and_false, Bool.and_true, decide_true, decide_false, wipe_nil, wipe_cons]
    rfl
  cases d with
  | tup cs =>
    have hlen : biD .len [dLots ls] S = .ok (.int ((ls.length : Nat) : Int)) S := by
      show biD .len [.tup (ls.map dLot)] S = _
      rw [bi_lenT, List.length_map]
    have henu : enuD (dLots ls) S = .ok (.its (enumD 0 (ls.map dLot))) S := rfl
    by_cases hl : cs.length = ls.length
    · have ne0 : (!(((cs.length : Nat) : Int) == ((ls.length : Nat) : Int))) = false := by rw [hl]; simp
      obtain ⟨δ', h1, y2, y3, rfl⟩ := cnt_loop HP (fu := fu) (n := n) (S := S) (dLots ls) cs (.its (enumD 0 (ls.map dLot))) rfl ls cs [] 0 none none rfl rfl hl (bels_all (show D.bels S.length cs = true from hb))
      have e0 : evSs (ctx P fu (callN P fu (n + 2))) b_need_counts [some (dLots ls), some (.tup cs), none, none] S = (forL (.its (enumD 0 (ls.map dLot))) (forB (ctx P fu (callN P fu (n + 2))) (.tup (.cons (.nm 2) (.cons (.nm 3) .nil))) cntBody) (enumD 0 (ls.map dLot)) [some (dLots ls), some (.tup cs), none, none] S).sq (evSs (ctx P fu (callN P fu (n + 2))) (.cons (.ret (.bi .sum (.cons (.var 1) .nil))) .nil)) := by
        simp only [b_need_counts, HP.i_counts, hlen, henu, ne0, eSs_cons, eS_if, eS_asg, eS_sub, eS_exp, eS_ret, eS_for, eS_rais, eS_brk, eS_cont, eS_pass, ss_nil', eT_or, eT_and, eT_no, eT_isi, eT_var, eT_cst, eT_op, eT_chn, eT_call, eT_bi, eE_isi, eE_var, eE_op, eE_glo, eE_chn, eE_cst, eE_bi, eE_bif, eE_tup, eE_fre, eE_dic0, eE_neg, eE_no, eE_and, eE_or, eE_ite, eE_call, eE_me, eE_sl, eE_rev, eO_non, eO_som, part_int, eEs_cons, eEs_nil, eF_lst, eF_list, eF_lc, eI_e, eI_f, eI_rng1, eI_enu, eI_z2, eI_z3, src_tup, src_rol, enu_tup, zip_tup, zip_tup3, its_items, List.getElem?_cons_zero, List.getElem?_cons_succ, List.set_cons_zero, List.set_cons_succ, rdVar_some, rb_ok, rb_exn, any_str, any_tup, any_int, any_bl, any_non, tr_bl, pur_at, alloc_at, bnd_at, o_add, o_sub, o_lt, o_le, o_gt, o_ge, o_eqI, o_neI, o_eqS, o_isN, chn_t, chn_f, lf_ok, lf_exn, sq_nx, sq_ret, sq_exn, ctx_glo, ctx_call, ctx_ini, opt_some, o_notinS, o_inS, bi_lenT, bi_intI, bi_intB, bi_abs, bi_max, bi_min, bif_tup, bi_tupT, neg_int', sl_tup, nxO_some, putT_nm, putT_tup, putTs_nil, putTs_cons, Option.bind_some, raiO_1, raiO_2, ix_0, ix_1, beq_self_eq_true, Bool.not_true, Bool.not_false, Bool.false_eq_true, ↓reduceIte, Bool.true_and, Bool.false_and, Bool.and_false, Bool.and_true, decide_true, decide_false, wipe_nil, wipe_cons]
        rfl
      show fin S (endR (evSs (ctx P fu (callN P fu (n + 2))) b_need_counts [some (dLots ls), some (.tup cs), none, none] S)) = _
      rw [e0, h1]
      have hcd : cntD (ls.map (·.2)) (.tup cs) = (cntF 0 (ls.map (·.2)) cs).map fun k => (k : Int) := by
        show (if cs.length = (ls.map (·.2)).length then _ else _) = _
        rw [if_pos (by rw [List.length_map]; exact hl)]
      rw [hcd]
      cases hc : cntF 0 (ls.map (·.2)) cs with
      | some i => exact fin_exn0 rfl
      | none =>
        have hi := cnt_ints _ _ 0 (by rw [List.length_map]; exact hl) hc
        have hsum : biD .sum [.tup cs] S = .ok (.int (cs.map numD).sum) S := by
          show (opt (ints? cs) S).bind (fun ns => pur (D.int ns.sum)) = _
          rw [hi]
          rfl
        show fin S (endR (evSs (ctx P fu (callN P fu (n + 2))) (.cons (.ret (.bi .sum (.cons (.var 1) .nil))) .nil) [some (dLots ls), some (.tup cs), y2, y3] S)) = Mi.R.ok (.int (cs.map numD).sum) S
        have e1 : evSs (ctx P fu (callN P fu (n + 2))) (.cons (.ret (.bi .sum (.cons (.var 1) .nil))) .nil) [some (dLots ls), some (.tup cs), y2, y3] S = .ret (.int (cs.map numD).sum) S := by
          simp only [hsum, eSs_cons, eS_if, eS_asg, eS_sub, eS_exp, eS_ret, eS_for, eS_rais, eS_brk, eS_cont, eS_pass, ss_nil', eT_or, eT_and, eT_no, eT_isi, eT_var, eT_cst, eT_op, eT_chn, eT_call, eT_bi, eE_isi, eE_var, eE_op, eE_glo, eE_chn, eE_cst, eE_bi, eE_bif, eE_tup, eE_fre, eE_dic0, eE_neg, eE_no, eE_and, eE_or, eE_ite, eE_call, eE_me, eE_sl, eE_rev, eO_non, eO_som, part_int, eEs_cons, eEs_nil, eF_lst, eF_list, eF_lc, eI_e, eI_f, eI_rng1, eI_enu, eI_z2, eI_z3, src_tup, src_rol, enu_tup, zip_tup, zip_tup3, its_items, List.getElem?_cons_zero, List.getElem?_cons_succ, List.set_cons_zero, List.set_cons_succ, rdVar_some, rb_ok, rb_exn, any_str, any_tup, any_int, any_bl, any_non, tr_bl, pur_at, alloc_at, bnd_at, o_add, o_sub, o_lt, o_le, o_gt, o_ge, o_eqI, o_neI, o_eqS, o_isN, chn_t, chn_f, lf_ok, lf_exn, sq_nx, sq_ret, sq_exn, ctx_glo, ctx_call, ctx_ini, opt_some, o_notinS, o_inS, bi_lenT, bi_intI, bi_intB, bi_abs, bi_max, bi_min, bif_tup, bi_tupT, neg_int', sl_tup, nxO_some, putT_nm, putT_tup, putTs_nil, putTs_cons, Option.bind_some, raiO_1, raiO_2, ix_0, ix_1, beq_self_eq_true, Bool.not_true, Bool.not_false, Bool.false_eq_true, ↓reduceIte, Bool.true_and, Bool.false_and, Bool.and_false, Bool.and_true, decide_true, decide_false, wipe_nil, wipe_cons]
        rw [e1]
        exact fin_ok0 rfl
    · have ne0 : (!(((cs.length : Nat) : Int) == ((ls.length : Nat) : Int))) = true := by
        rw [Bool.not_eq_true', beq_eq_false_iff_ne]
        omega
      have hcd : cntD (ls.map (·.2)) (.tup cs) = some (-1) := by
        show (if cs.length = (ls.map (·.2)).length then _ else _) = _
        rw [if_neg (by rw [List.length_map]; exact hl)]
      rw [hcd]
      refine bad0 ?_
      simp only [b_need_counts, HP.i_counts, hlen, ne0, eSs_cons, eS_if, eS_asg, eS_sub, eS_exp, eS_ret, eS_for, eS_rais, eS_brk, eS_cont, eS_pass, ss_nil', eT_or, eT_and, eT_no, eT_isi, eT_var, eT_cst, eT_op, eT_chn, eT_call, eT_bi, eE_isi, eE_var, eE_op, eE_glo, eE_chn, eE_cst, eE_bi, eE_bif, eE_tup, eE_fre, eE_dic0, eE_neg, eE_no, eE_and, eE_or, eE_ite, eE_call, eE_me, eE_sl, eE_rev, eO_non, eO_som, part_int, eEs_cons, eEs_nil, eF_lst, eF_list, eF_lc, eI_e, eI_f, eI_rng1, eI_enu, eI_z2, eI_z3, src_tup, src_rol, enu_tup, zip_tup, zip_tup3, its_items, List.getElem?_cons_zero, List.getElem?_cons_succ, List.set_cons_zero, List.set_cons_succ, rdVar_some, rb_ok, rb_exn, any_str, any_tup, any_int, any_bl, any_non, tr_bl, pur_at, alloc_at, bnd_at, o_add, o_sub, o_lt, o_le, o_gt, o_ge, o_eqI, o_neI, o_eqS, o_isN, chn_t, chn_f, lf_ok, lf_exn, sq_nx, sq_ret, sq_exn, ctx_glo, ctx_call, ctx_ini, opt_some, o_notinS, o_inS, bi_lenT, bi_intI, bi_intB, bi_abs, bi_max, bi_min, bif_tup, bi_tupT, neg_int', sl_tup, nxO_some, putT_nm, putT_tup, putTs_nil, putTs_cons, Option.bind_some, raiO_1, raiO_2, ix_0, ix_1, beq_self_eq_true, Bool.not_true, Bool.not_false, Bool.false_eq_true, ↓reduceIte, Bool.true_and, Bool.false_and, Bool.and_false, Bool.and_true, decide_true, decide_false, wipe_nil, wipe_cons]
      rfl
  | ref m => exact bad0 (notT (ty_ref (by decide) (by decide)))
  | _ => exact bad0 (notT rfl)
end
end Mi

set_option Elab.async false
set_option linter.all false
set_option maxRecDepth 100000
set_option maxHeartbeats 4000000
/-! What is told place by place: rows over a range; what is asked of lots and counts. -/
namespace Mi
/-- a row of m items -/
def mR (m : Nat) (f : Nat → D) : D := .tup ((List.range m).map f)
def dI (m : Nat) (f : Nat → Int) : D := mR m fun i => .int (f i)
def dL (m : Nat) (w : Nat → List Nat) (z : Nat → Int) : D := mR m fun i => .tup [.str (w i), .int (z i)]
theorem len_R {m : Nat} {f : Nat → D} : ((List.range m).map f).length = m := by rw [List.length_map, List.length_range]
theorem atI_R {m k : Nat} {f : Nat → D} (h : k < m) : atI ((List.range m).map f) (k : Int) = some (f k) := by
  unfold atI ixn
  have h1 : (0 : Int) ≤ (k : Int) := by omega
  have h2 : (k : Int) < ((((List.range m).map f).length : Nat) : Int) := by rw [len_R]; omega
  rw [if_pos h1, if_pos h2]
  show ((List.range m).map f)[((k : Nat) : Int).toNat]? = some (f k)
  rw [Int.toNat_natCast, List.getElem?_map, List.getElem?_range h]
  rfl
section
variable {S : Store} {m : Nat} {f g h : Nat → D}
theorem ix_R {k : Nat} (hk : k < m) : opD .ix (mR m f) (.int (k : Int)) S = .ok (f k) S := o_ixT (atI_R hk)
theorem len_mR : biD .len [mR m f] S = .ok (.int (m : Int)) S := by
  show biD .len [.tup ((List.range m).map f)] S = _
  rw [bi_lenT, len_R]
theorem zip2_L : ∀ (l : List Nat), zipD2 (l.map f) (l.map g) = l.map fun i => .tup [f i, g i]
  | [] => rfl
  | i :: l => by
    show .tup [f i, g i] :: zipD2 (l.map f) (l.map g) = _
    rw [zip2_L l]
    rfl
theorem zip3_L : ∀ (l : List Nat), zipD3 (l.map f) (l.map g) (l.map h) = l.map fun i => .tup [f i, g i, h i]
  | [] => rfl
  | i :: l => by
    show .tup [f i, g i, h i] :: zipD3 (l.map f) (l.map g) (l.map h) = _
    rw [zip3_L l]
    rfl
theorem rng_R (hm : m ≤ mx) : rngD (.int (m : Int)) S = .ok (.its ((List.range m).map fun (k : Nat) => D.int (k : Int))) S := by
  show (if ((m : Nat) : Int).toNat ≤ mx ∧ -(2 ^ 62) ≤ ((m : Nat) : Int) then pur (Src.its (rangeD 0 ((m : Nat) : Int).toNat)) else bad : M Src) S = _
  rw [Int.toNat_natCast, if_pos ⟨hm, by omega⟩]
  show Mi.R.ok (Src.its (rangeD 0 m)) S = _
  congr 2
  unfold rangeD
  refine List.map_congr_left fun k _ => ?_
  rw [Int.zero_add]
theorem zipR (f g : Nat → D) : zipDD (mR m f) (mR m g) S = .ok (.its ((List.range m).map fun i => .tup [f i, g i])) S := by
  show zipDD (.tup _) (.tup _) S = _
  rw [zip_tup, zip2_L]
theorem zipR3 (f g h : Nat → D) : zipDDD (mR m f) (mR m g) (mR m h) S = .ok (.its ((List.range m).map fun i => .tup [f i, g i, h i])) S := by
  show zipDDD (.tup _) (.tup _) (.tup _) S = _
  rw [zip_tup3, zip3_L]
theorem lc_R {src : Src} {F : D → M (Option D)} (hok : src.ok S = true) {em gg : Nat → D} (h : ∀ i, i < m → F (em i) S = .ok (some (gg i)) S) : lcL src F ((List.range m).map em) S = .ok ((List.range m).map gg) S :=
  lc_map hok (List.range m) fun i hi => h i (List.mem_range.mp hi)
/-- a whole comprehension over a row -/
theorem evF_R {c : Ctx} {δ : Env} {own : List Nat} {elt : E} {tg : Tg} {it : It} {em gg : Nat → D} (hm : m ≤ mx) (hi : evI c δ it S = .ok (.its ((List.range m).map em)) S)
    (h : ∀ i, i < m → lcF c δ own elt tg .nil (em i) S = .ok (some (gg i)) S) : evF c δ (.lc own elt tg it .nil) S = .ok ((List.range m).map gg) S := by
  rw [eF_lc, hi, rb_ok]
  rw [its_items, len_R, if_pos hm]
  exact lc_R rfl h
/-- a loop over a row that runs through -/
theorem for_R {src : Src} {F : D → Env → Store → SR} {em : Nat → D} (I : Nat → Env → Store → Prop) (hok : ∀ i δ S, I i δ S → src.ok S = true)
    (step : ∀ i δ S, i < m → I i δ S → ∃ δ' S', F (em i) δ S = .nx δ' S' ∧ I (i + 1) δ' S') {δ : Env} {S : Store} (h0 : I 0 δ S) : ∃ δ' S', forL src F ((List.range m).map em) δ S = .nx δ' S' ∧ I m δ' S' := by
  have gen : ∀ (n a : Nat) {δ : Env} {S : Store}, a + n = m → I a δ S → ∃ δ' S', forL src F ((List.range' a n).map em) δ S = .nx δ' S' ∧ I m δ' S' := by
    intro n
    induction n with
    | zero => intro a δ S ha hI; exact ⟨δ, S, for_nil (hok _ _ _ hI), by rw [← ha]; exact hI⟩
    | succ n ih =>
      intro a δ S ha hI
      obtain ⟨δ1, S1, h1, h2⟩ := step a δ S (by omega) hI
      obtain ⟨δ2, S2, h3, h4⟩ := ih (a + 1) (by omega) h2
      exact ⟨δ2, S2, (for_nx (r := (List.range' (a + 1) n).map em) (hok _ _ _ hI) h1).trans h3, h4⟩
  rw [List.range_eq_range']
  exact gen m 0 (Nat.zero_add m) h0
end
/-- good lots -/
structure GL (m : Nat) (w : Nat → List Nat) (z : Nat → Int) : Prop where
  pos : 1 ≤ m
  top : m ≤ mx
  word : ∀ i, i < m → wordB (w i) = true
  inj : ∀ i j, i < m → j < m → w i = w j → i = j
  size : ∀ i, i < m → 1 ≤ z i
theorem word_len {s : List Nat} (h : wordB s = true) : s.length ≤ 8 := by
  unfold wordB at h
  simp only [Bool.and_eq_true, decide_eq_true_eq] at h
  exact h.2.1
theorem lots_pref {w : Nat → List Nat} {z : Nat → Int} {rest : List D} : ∀ (l : List Nat) (pre : List (List Nat)) (k : Nat), (∀ i ∈ l, wordB (w i) = true ∧ 1 ≤ z i) → (pre ++ l.map w).Nodup →
    lotsF pre k (l.map (fun i => D.tup [.str (w i), .int (z i)]) ++ rest) = lotsF (pre ++ l.map w) (k + l.length) rest
  | [], pre, k, _, _ => by simp
  | i :: l, pre, k, hg, hn => by
    have hi := hg i List.mem_cons_self
    have hnot : pre.contains (w i) = false := by
      rw [← Bool.not_eq_true, List.contains_iff_mem]
      intro hm
      have := (List.nodup_append.mp hn).2.2 _ hm (w i) (by simp)
      exact this rfl
    have e1 : lotF pre (D.tup [.str (w i), .int (z i)]) = .inr (w i) := by
      show (if wordB (w i) then (if pre.contains (w i) then Sum.inl "twice" else (if szOk (.int (z i)) then Sum.inr (w i) else Sum.inl "size")) else Sum.inl "word") = _
      rw [if_pos hi.1, hnot]
      show (if decide (1 ≤ z i) then Sum.inr (w i) else Sum.inl "size") = _
      rw [if_pos (decide_eq_true hi.2)]
    show (match lotF pre (D.tup [.str (w i), .int (z i)]) with
      | .inl e => some (k, e)
      | .inr w => lotsF (pre ++ [w]) (k + 1) (l.map _ ++ rest)) = _
    rw [e1]
    show lotsF (pre ++ [w i]) (k + 1) (l.map _ ++ rest) = _
    rw [lots_pref l (pre ++ [w i]) (k + 1) (fun j hj => hg j (List.mem_cons_of_mem _ hj)) (by rw [List.append_assoc]; exact hn)]
    rw [List.append_assoc]
    congr 1
    show k + 1 + l.length = k + (l.length + 1)
    omega
theorem nodup_w {w : Nat → List Nat} {m k : Nat} (hk : k ≤ m) (h : ∀ i j, i < m → j < m → w i = w j → i = j) : ((List.range k).map w).Nodup := by
  rw [List.Nodup, List.pairwise_map]
  refine List.Pairwise.imp_of_mem ?_ (List.nodup_range (n := k))
  intro a b ha hb hab he
  exact hab (h a b (Nat.lt_of_lt_of_le (List.mem_range.mp ha) hk) (Nat.lt_of_lt_of_le (List.mem_range.mp hb) hk) he)
theorem chk_good {m : Nat} {w : Nat → List Nat} {z : Nat → Int} (G : GL m w z) : chkD (dL m w z) = none := by
  have h1 := lots_pref (w := w) (z := z) (rest := []) (List.range m) [] 0 (fun i hi => ⟨G.word i (List.mem_range.mp hi), G.size i (List.mem_range.mp hi)⟩) (by simpa using nodup_w (Nat.le_refl m) G.inj)
  rw [List.append_nil] at h1
  obtain ⟨p, hp⟩ : ∃ p, m = p + 1 := ⟨m - 1, by have := G.pos; omega⟩
  have h2 : ∃ d ds, (List.range m).map (fun i => D.tup [.str (w i), .int (z i)]) = d :: ds := by
    rw [hp, List.range_succ_eq_map]
    exact ⟨_, _, rfl⟩
  obtain ⟨d, ds, hd⟩ := h2
  show chkD (.tup ((List.range m).map (fun i => D.tup [.str (w i), .int (z i)]))) = none
  rw [hd] at h1 ⊢
  show (lotsF [] 0 (d :: ds)).map _ = none
  rw [h1]
  rfl
/-- the numbers of one row: the first place at which it is wrong -/
theorem cntF_map {c : Nat → D} {z : Nat → Int} (ok : Nat → Bool) (hok : ∀ i, ok i = (isN (c i) && leB (z i) (c i))) : ∀ (l : List Nat) (k : Nat), cntF k (l.map z) (l.map c) = (l.findIdx? fun i => !ok i).map (k + ·)
  | [], _ => rfl
  | i :: l, k => by
    show (if (isN (c i) && leB (z i) (c i)) = true then cntF (k + 1) (l.map z) (l.map c) else some k) = _
    rw [← hok i, List.findIdx?_cons, cntF_map ok hok l (k + 1)]
    cases ok i with
    | true =>
      rw [if_pos rfl]
      simp only [Bool.not_true, Bool.false_eq_true, if_false, Option.map_map]
      congr 1
      funext j
      show k + 1 + j = k + (j + 1)
      omega
    | false => rfl
/-- the counts f fit -/
def FitC (m : Nat) (z f : Nat → Int) : Prop := ∀ i, i < m → 0 ≤ f i ∧ f i ≤ z i
theorem cnt_good {m : Nat} {w : Nat → List Nat} {z f : Nat → Int} (h : FitC m z f) : cntD (((List.range m).map fun i => (w i, z i)).map (·.2)) (dI m f) = none := by
  rw [List.map_map]
  show (if ((List.range m).map fun i => D.int (f i)).length = ((List.range m).map z).length then (cntF 0 ((List.range m).map z) ((List.range m).map fun i => D.int (f i))).map (fun k => (k : Int)) else some (-1)) = none
  rw [if_pos (by simp only [List.length_map]), cntF_map (fun i => isN (.int (f i)) && leB (z i) (.int (f i))) (fun _ => rfl)]
  rw [List.findIdx?_eq_none_iff.mpr]
  · rfl
  · intro i hi
    have := h i (List.mem_range.mp hi)
    show (!(decide (0 ≤ f i) && decide (f i ≤ z i))) = false
    rw [decide_eq_true this.1, decide_eq_true this.2]
    rfl
/-- the first k numbers fit, the next one does not -/
theorem cnt_bad {m k : Nat} {w : Nat → List Nat} {z : Nat → Int} {c : Nat → D} (hk : k < m) (h : ∀ i, i < k → isN (c i) = true ∧ leB (z i) (c i) = true) (hb : (isN (c k) && leB (z k) (c k)) = false) : cntD (((List.range m).map fun i => (w i, z i)).map (·.2)) (mR m c) = some (k : Int) := by
  rw [List.map_map]
  show (if ((List.range m).map c).length = ((List.range m).map z).length then (cntF 0 ((List.range m).map z) ((List.range m).map c)).map (fun k => (k : Int)) else some (-1)) = some (k : Int)
  rw [if_pos (by simp only [List.length_map]), cntF_map (fun i => isN (c i) && leB (z i) (c i)) (fun _ => rfl)]
  have : (List.range m).findIdx? (fun i => !(isN (c i) && leB (z i) (c i))) = some k := by
    rw [List.findIdx?_eq_some_iff_getElem]
    refine ⟨by rw [List.length_range]; exact hk, ?_, ?_⟩
    · rw [List.getElem_range, hb]
      rfl
    · intro j hj
      rw [List.getElem_range, (h j hj).1, (h j hj).2]
      decide
  rw [this]
  show some (((0 + k : Nat) : Nat) : Int) = _
  rw [Nat.zero_add]
theorem bels_R {m k : Nat} {f : Nat → D} (h : ∀ i, i < m → (f i).bel k = true) : (mR m f).bel k = true := by
  have all : ∀ l : List Nat, (∀ i ∈ l, (f i).bel k = true) → D.bels k (l.map f) = true := by
    intro l
    induction l with
    | nil => intro _; rfl
    | cons i l ih =>
      intro hl
      show ((f i).bel k && D.bels k (l.map f)) = true
      rw [hl i List.mem_cons_self, ih fun j hj => hl j (List.mem_cons_of_mem _ hj)]
      rfl
  exact all _ fun i hi => h i (List.mem_range.mp hi)
theorem bel_dI {m k : Nat} {f : Nat → Int} : (dI m f).bel k = true := bels_R fun _ _ => rfl
theorem bel_dL {m k : Nat} {w : Nat → List Nat} {z : Nat → Int} : (dL m w z).bel k = true := bels_R fun _ _ => rfl
theorem dLots_R {m : Nat} {w : Nat → List Nat} {z : Nat → Int} : dLots ((List.range m).map fun i => (w i, z i)) = dL m w z := by
  unfold dLots
  rw [List.map_map]
  rfl
section
variable {P : Prog} (HP : Has P) {fu n : Nat} {S : Store} {m : Nat} {w : Nat → List Nat} {z f g : Nat → Int}
include HP
theorem chk_ok (G : GL m w z) : callN P fu (n + 2) "check_lots" [dL m w z] S = .ok (.int (m : Int)) S := by
  have h := check_lots_ok HP (fu := fu) (n := n) (S := S) (d := dL m w z) bel_dL (fun ds hds => by
    have : ds = (List.range m).map fun i => D.tup [.str (w i), .int (z i)] := (D.tup.inj hds).symm
    rw [this]
    refine ⟨by rw [len_R]; exact G.top, fun x hx => ?_⟩
    obtain ⟨i, hi, rfl⟩ := List.mem_map.mp hx
    exact Nat.le_trans (word_len (G.word i (List.mem_range.mp hi))) (by decide))
  rw [chk_good G] at h
  rw [h]
  show Mi.R.ok (D.int ((((List.range m).map fun i => D.tup [.str (w i), .int (z i)]).length : Nat) : Int)) S = _
  rw [len_R]
theorem need_good (hf : FitC m z f) : ∃ t, callN P fu (n + 3) "need_counts" [dL m w z, dI m f] S = .ok (.int t) S := by
  have h := need_counts_ok HP (fu := fu) (n := n) (S := S) (ls := (List.range m).map fun i => (w i, z i)) (d := dI m f) bel_dI
  rw [cnt_good hf, dLots_R] at h
  exact ⟨_, h⟩
theorem need_bad {d : D} {i : Int} (hb : d.bel S.length = true) (hc : cntD (((List.range m).map fun i => (w i, z i)).map (·.2)) d = some i) : callN P fu (n + 3) "need_counts" [dL m w z, d] S = .exn (badCounts i) S := by
  have h := need_counts_ok HP (fu := fu) (n := n) (S := S) (ls := (List.range m).map fun i => (w i, z i)) (d := d) hb
  rw [hc, dLots_R] at h
  exact h
def leR (m : Nat) (f g : Nat → Int) : Bool := (List.range m).all fun i => decide (f i ≤ g i)
def lesBody : Ss := (.cons (.if_ (.op .gt (.var 2) (.var 3)) (.cons (.ret (.cst (.bl false))) .nil) .nil) .nil)
theorem is_below_ok : callN P fu (n + 1) "is_below" [dI m f, dI m g] S = .ok (.bl (leR m f g)) S := by
  rw [call_eq HP.f_is_below rfl]
  have loop : ∀ (l : List Nat) (src : List D) (x2 x3 : Option D), ∃ δ', forL (.its src) (forB (ctx P fu (callN P fu n)) (.tup (.cons (.nm 2) (.cons (.nm 3) .nil))) lesBody) (l.map fun i => D.tup [.int (f i), .int (g i)]) [some (dI m f), some (dI m g), x2, x3] S = if (l.all fun i => decide (f i ≤ g i)) = true then .nx δ' S else .ret (.bl false) S := by
    intro l src
    induction l with
    | nil => intro x2 x3; exact ⟨_, for_nil rfl⟩
    | cons i l ih =>
      intro x2 x3
      by_cases hi : f i ≤ g i
      · obtain ⟨δ', h⟩ := ih (some (.int (f i))) (some (.int (g i)))
        refine ⟨δ', ?_⟩
        rw [List.all_cons, decide_eq_true hi, Bool.true_and, ← h]
        refine for_nx rfl ?_
        rw [forB_at rfl]
        have h1 : decide (g i < f i) = false := decide_eq_false (by omega)
        simp only [lesBody, h1, eSs_cons, eS_if, eS_asg, eS_sub, eS_exp, eS_ret, eS_for, eS_rais, eS_brk, eS_cont, eS_pass, ss_nil', eT_or, eT_and, eT_no, eT_isi, eT_var, eT_cst, eT_op, eT_chn, eT_call, eT_bi, eE_isi, eE_var, eE_op, eE_glo, eE_chn, eE_cst, eE_bi, eE_bif, eE_tup, eE_fre, eE_dic0, eE_neg, eE_no, eE_and, eE_or, eE_ite, eE_call, eE_me, eE_sl, eE_rev, eO_non, eO_som, part_int, eEs_cons, eEs_nil, eF_lst, eF_list, eF_lc, eI_e, eI_f, eI_rng1, eI_enu, eI_z2, eI_z3, src_tup, src_rol, enu_tup, zip_tup, zip_tup3, its_items, List.getElem?_cons_zero, List.getElem?_cons_succ, List.set_cons_zero, List.set_cons_succ, rdVar_some, rb_ok, rb_exn, any_str, any_tup, any_int, any_bl, any_non, tr_bl, pur_at, alloc_at, bnd_at, o_add, o_sub, o_lt, o_le, o_gt, o_ge, o_eqI, o_neI, o_eqS, o_isN, chn_t, chn_f, lf_ok, lf_exn, sq_nx, sq_ret, sq_exn, ctx_glo, ctx_call, ctx_ini, opt_some, o_notinS, o_inS, bi_lenT, bi_intI, bi_intB, bi_abs, bi_max, bi_min, bif_tup, bi_tupT, neg_int', sl_tup, nxO_some, putT_nm, putT_tup, putTs_nil, putTs_cons, Option.bind_some, raiO_1, raiO_2, ix_0, ix_1, beq_self_eq_true, Bool.not_true, Bool.not_false, Bool.false_eq_true, ↓reduceIte, Bool.true_and, Bool.false_and, Bool.and_false, Bool.and_true, decide_true, decide_false, wipe_nil, wipe_cons]
      · refine ⟨[], ?_⟩
        rw [List.all_cons, decide_eq_false hi, Bool.false_and]
        refine for_ret rfl ?_
        rw [forB_at rfl]
        have h1 : decide (g i < f i) = true := decide_eq_true (by omega)
        simp only [lesBody, h1, eSs_cons, eS_if, eS_asg, eS_sub, eS_exp, eS_ret, eS_for, eS_rais, eS_brk, eS_cont, eS_pass, ss_nil', eT_or, eT_and, eT_no, eT_isi, eT_var, eT_cst, eT_op, eT_chn, eT_call, eT_bi, eE_isi, eE_var, eE_op, eE_glo, eE_chn, eE_cst, eE_bi, eE_bif, eE_tup, eE_fre, eE_dic0, eE_neg, eE_no, eE_and, eE_or, eE_ite, eE_call, eE_me, eE_sl, eE_rev, eO_non, eO_som, part_int, eEs_cons, eEs_nil, eF_lst, eF_list, eF_lc, eI_e, eI_f, eI_rng1, eI_enu, eI_z2, eI_z3, src_tup, src_rol, enu_tup, zip_tup, zip_tup3, its_items, List.getElem?_cons_zero, List.getElem?_cons_succ, List.set_cons_zero, List.set_cons_succ, rdVar_some, rb_ok, rb_exn, any_str, any_tup, any_int, any_bl, any_non, tr_bl, pur_at, alloc_at, bnd_at, o_add, o_sub, o_lt, o_le, o_gt, o_ge, o_eqI, o_neI, o_eqS, o_isN, chn_t, chn_f, lf_ok, lf_exn, sq_nx, sq_ret, sq_exn, ctx_glo, ctx_call, ctx_ini, opt_some, o_notinS, o_inS, bi_lenT, bi_intI, bi_intB, bi_abs, bi_max, bi_min, bif_tup, bi_tupT, neg_int', sl_tup, nxO_some, putT_nm, putT_tup, putTs_nil, putTs_cons, Option.bind_some, raiO_1, raiO_2, ix_0, ix_1, beq_self_eq_true, Bool.not_true, Bool.not_false, Bool.false_eq_true, ↓reduceIte, Bool.true_and, Bool.false_and, Bool.and_false, Bool.and_true, decide_true, decide_false, wipe_nil, wipe_cons]
  obtain ⟨δ', h⟩ := loop (List.range m) ((List.range m).map fun i => D.tup [.int (f i), .int (g i)]) none none
  have e0 : evSs (ctx P fu (callN P fu n)) b_is_below [some (dI m f), some (dI m g), none, none] S = .ret (.bl (leR m f g)) S := by
    have hz : zipDD (dI m f) (dI m g) S = .ok (.its ((List.range m).map fun i => D.tup [.int (f i), .int (g i)])) S := zipR _ _
    simp only [b_is_below, hz, eSs_cons, eS_if, eS_asg, eS_sub, eS_exp, eS_ret, eS_for, eS_rais, eS_brk, eS_cont, eS_pass, ss_nil', eT_or, eT_and, eT_no, eT_isi, eT_var, eT_cst, eT_op, eT_chn, eT_call, eT_bi, eE_isi, eE_var, eE_op, eE_glo, eE_chn, eE_cst, eE_bi, eE_bif, eE_tup, eE_fre, eE_dic0, eE_neg, eE_no, eE_and, eE_or, eE_ite, eE_call, eE_me, eE_sl, eE_rev, eO_non, eO_som, part_int, eEs_cons, eEs_nil, eF_lst, eF_list, eF_lc, eI_e, eI_f, eI_rng1, eI_enu, eI_z2, eI_z3, src_tup, src_rol, enu_tup, zip_tup, zip_tup3, its_items, List.getElem?_cons_zero, List.getElem?_cons_succ, List.set_cons_zero, List.set_cons_succ, rdVar_some, rb_ok, rb_exn, any_str, any_tup, any_int, any_bl, any_non, tr_bl, pur_at, alloc_at, bnd_at, o_add, o_sub, o_lt, o_le, o_gt, o_ge, o_eqI, o_neI, o_eqS, o_isN, chn_t, chn_f, lf_ok, lf_exn, sq_nx, sq_ret, sq_exn, ctx_glo, ctx_call, ctx_ini, opt_some, o_notinS, o_inS, bi_lenT, bi_intI, bi_intB, bi_abs, bi_max, bi_min, bif_tup, bi_tupT, neg_int', sl_tup, nxO_some, putT_nm, putT_tup, putTs_nil, putTs_cons, Option.bind_some, raiO_1, raiO_2, ix_0, ix_1, beq_self_eq_true, Bool.not_true, Bool.not_false, Bool.false_eq_true, ↓reduceIte, Bool.true_and, Bool.false_and, Bool.and_false, Bool.and_true, decide_true, decide_false, wipe_nil, wipe_cons]
    show (forL _ (forB _ _ lesBody) _ _ _).sq _ = _
    rw [h]
    show (if leR m f g = true then SR.nx δ' S else SR.ret (.bl false) S).sq _ = _
    cases leR m f g with
    | true => simp only [eSs_cons, eS_if, eS_asg, eS_sub, eS_exp, eS_ret, eS_for, eS_rais, eS_brk, eS_cont, eS_pass, ss_nil', eT_or, eT_and, eT_no, eT_isi, eT_var, eT_cst, eT_op, eT_chn, eT_call, eT_bi, eE_isi, eE_var, eE_op, eE_glo, eE_chn, eE_cst, eE_bi, eE_bif, eE_tup, eE_fre, eE_dic0, eE_neg, eE_no, eE_and, eE_or, eE_ite, eE_call, eE_me, eE_sl, eE_rev, eO_non, eO_som, part_int, eEs_cons, eEs_nil, eF_lst, eF_list, eF_lc, eI_e, eI_f, eI_rng1, eI_enu, eI_z2, eI_z3, src_tup, src_rol, enu_tup, zip_tup, zip_tup3, its_items, List.getElem?_cons_zero, List.getElem?_cons_succ, List.set_cons_zero, List.set_cons_succ, rdVar_some, rb_ok, rb_exn, any_str, any_tup, any_int, any_bl, any_non, tr_bl, pur_at, alloc_at, bnd_at, o_add, o_sub, o_lt, o_le, o_gt, o_ge, o_eqI, o_neI, o_eqS, o_isN, chn_t, chn_f, lf_ok, lf_exn, sq_nx, sq_ret, sq_exn, ctx_glo, ctx_call, ctx_ini, opt_some, o_notinS, o_inS, bi_lenT, bi_intI, bi_intB, bi_abs, bi_max, bi_min, bif_tup, bi_tupT, neg_int', sl_tup, nxO_some, putT_nm, putT_tup, putTs_nil, putTs_cons, Option.bind_some, raiO_1, raiO_2, ix_0, ix_1, beq_self_eq_true, Bool.not_true, Bool.not_false, Bool.false_eq_true, ↓reduceIte, Bool.true_and, Bool.false_and, Bool.and_false, Bool.and_true, decide_true, decide_false, wipe_nil, wipe_cons]
    | false => simp only [eSs_cons, eS_if, eS_asg, eS_sub, eS_exp, eS_ret, eS_for, eS_rais, eS_brk, eS_cont, eS_pass, ss_nil', eT_or, eT_and, eT_no, eT_isi, eT_var, eT_cst, eT_op, eT_chn, eT_call, eT_bi, eE_isi, eE_var, eE_op, eE_glo, eE_chn, eE_cst, eE_bi, eE_bif, eE_tup, eE_fre, eE_dic0, eE_neg, eE_no, eE_and, eE_or, eE_ite, eE_call, eE_me, eE_sl, eE_rev, eO_non, eO_som, part_int, eEs_cons, eEs_nil, eF_lst, eF_list, eF_lc, eI_e, eI_f, eI_rng1, eI_enu, eI_z2, eI_z3, src_tup, src_rol, enu_tup, zip_tup, zip_tup3, its_items, List.getElem?_cons_zero, List.getElem?_cons_succ, List.set_cons_zero, List.set_cons_succ, rdVar_some, rb_ok, rb_exn, any_str, any_tup, any_int, any_bl, any_non, tr_bl, pur_at, alloc_at, bnd_at, o_add, o_sub, o_lt, o_le, o_gt, o_ge, o_eqI, o_neI, o_eqS, o_isN, chn_t, chn_f, lf_ok, lf_exn, sq_nx, sq_ret, sq_exn, ctx_glo, ctx_call, ctx_ini, opt_some, o_notinS, o_inS, bi_lenT, bi_intI, bi_intB, bi_abs, bi_max, bi_min, bif_tup, bi_tupT, neg_int', sl_tup, nxO_some, putT_nm, putT_tup, putTs_nil, putTs_cons, Option.bind_some, raiO_1, raiO_2, ix_0, ix_1, beq_self_eq_true, Bool.not_true, Bool.not_false, Bool.false_eq_true, ↓reduceIte, Bool.true_and, Bool.false_and, Bool.and_false, Bool.and_true, decide_true, decide_false, wipe_nil, wipe_cons]
  exact (congrArg (fun r => fin S (endR r)) e0).trans (fin_ok0 rfl)
end
end Mi

set_option Elab.async false
set_option linter.all false
set_option maxRecDepth 100000
set_option maxHeartbeats 4000000
/-! below, least_common, outside, first_houses, everyone, nobody. -/
namespace Mi
def mx0 (i : Int) : Int := if i > 0 then i else 0
def lcF2 (z f g : Nat → Int) (i : Nat) : Int := mx0 (f i + g i - z i)
def fstD (i : Int) : D := if 0 < i then .tup [.tup [.int 0, .int i]] else .tup []
section
variable {P : Prog} (HP : Has P) {fu n : Nat} {S : Store} {m : Nat} {w : Nat → List Nat} {z f g : Nat → Int}
include HP
theorem common_ok (hm : m ≤ mx) : callN P fu (n + 1) "common_counts" [dL m w z, dI m f, dI m g] S = .ok (dI m (lcF2 z f g)) S := by
  rw [call_eq HP.f_common_counts rfl]
  have e0 : evSs (ctx P fu (callN P fu n)) b_common_counts [some (dL m w z), some (dI m f), some (dI m g), none, none, none] S = .ret (dI m (lcF2 z f g)) S := by
    have hF := evF_R (S := S) (c := ctx P fu (callN P fu n)) (δ := [some (dL m w z), some (dI m f), some (dI m g), none, none, none]) (own := [3, 4, 5]) (elt := .bi .max2 (.cons (.cst (.int 0)) (.cons (.op .sub (.op .add (.var 3) (.var 4)) (.op .ix (.var 5) (.cst (.int 1)))) .nil))) (tg := .tup (.cons (.nm 3) (.cons (.nm 4) (.cons (.nm 5) .nil)))) (it := .zip3 (.var 1) (.var 2) (.var 0)) (em := fun i => D.tup [.int (f i), .int (g i), .tup [.str (w i), .int (z i)]]) (gg := fun i => .int (lcF2 z f g i)) hm (by
      have hz : zipDDD (dI m f) (dI m g) (dL m w z) S = .ok _ S := zipR3 _ _ _
      simp only [hz, eSs_cons, eS_if, eS_asg, eS_sub, eS_exp, eS_ret, eS_for, eS_rais, eS_brk, eS_cont, eS_pass, ss_nil', eT_or, eT_and, eT_no, eT_isi, eT_var, eT_cst, eT_op, eT_chn, eT_call, eT_bi, eE_isi, eE_var, eE_op, eE_glo, eE_chn, eE_cst, eE_bi, eE_bif, eE_tup, eE_fre, eE_dic0, eE_neg, eE_no, eE_and, eE_or, eE_ite, eE_call, eE_me, eE_sl, eE_rev, eO_non, eO_som, part_int, eEs_cons, eEs_nil, eF_lst, eF_list, eF_lc, eI_e, eI_f, eI_rng1, eI_enu, eI_z2, eI_z3, src_tup, src_rol, enu_tup, zip_tup, zip_tup3, its_items, List.getElem?_cons_zero, List.getElem?_cons_succ, List.set_cons_zero, List.set_cons_succ, rdVar_some, rb_ok, rb_exn, any_str, any_tup, any_int, any_bl, any_non, tr_bl, pur_at, alloc_at, bnd_at, o_add, o_sub, o_lt, o_le, o_gt, o_ge, o_eqI, o_neI, o_eqS, o_isN, chn_t, chn_f, lf_ok, lf_exn, sq_nx, sq_ret, sq_exn, ctx_glo, ctx_call, ctx_ini, opt_some, o_notinS, o_inS, bi_lenT, bi_intI, bi_intB, bi_abs, bi_max, bi_min, bif_tup, bi_tupT, neg_int', sl_tup, nxO_some, putT_nm, putT_tup, putTs_nil, putTs_cons, Option.bind_some, raiO_1, raiO_2, ix_0, ix_1, beq_self_eq_true, Bool.not_true, Bool.not_false, Bool.false_eq_true, ↓reduceIte, Bool.true_and, Bool.false_and, Bool.and_false, Bool.and_true, decide_true, decide_false, wipe_nil, wipe_cons]) (fun i hi => lcF_at rfl (by
        simp only [eSs_cons, eS_if, eS_asg, eS_sub, eS_exp, eS_ret, eS_for, eS_rais, eS_brk, eS_cont, eS_pass, ss_nil', eT_or, eT_and, eT_no, eT_isi, eT_var, eT_cst, eT_op, eT_chn, eT_call, eT_bi, eE_isi, eE_var, eE_op, eE_glo, eE_chn, eE_cst, eE_bi, eE_bif, eE_tup, eE_fre, eE_dic0, eE_neg, eE_no, eE_and, eE_or, eE_ite, eE_call, eE_me, eE_sl, eE_rev, eO_non, eO_som, part_int, eEs_cons, eEs_nil, eF_lst, eF_list, eF_lc, eI_e, eI_f, eI_rng1, eI_enu, eI_z2, eI_z3, src_tup, src_rol, enu_tup, zip_tup, zip_tup3, its_items, List.getElem?_cons_zero, List.getElem?_cons_succ, List.set_cons_zero, List.set_cons_succ, rdVar_some, rb_ok, rb_exn, any_str, any_tup, any_int, any_bl, any_non, tr_bl, pur_at, alloc_at, bnd_at, o_add, o_sub, o_lt, o_le, o_gt, o_ge, o_eqI, o_neI, o_eqS, o_isN, chn_t, chn_f, lf_ok, lf_exn, sq_nx, sq_ret, sq_exn, ctx_glo, ctx_call, ctx_ini, opt_some, o_notinS, o_inS, bi_lenT, bi_intI, bi_intB, bi_abs, bi_max, bi_min, bif_tup, bi_tupT, neg_int', sl_tup, nxO_some, putT_nm, putT_tup, putTs_nil, putTs_cons, Option.bind_some, raiO_1, raiO_2, ix_0, ix_1, beq_self_eq_true, Bool.not_true, Bool.not_false, Bool.false_eq_true, ↓reduceIte, Bool.true_and, Bool.false_and, Bool.and_false, Bool.and_true, decide_true, decide_false, wipe_nil, wipe_cons]
        rfl))
    simp only [b_common_counts, eSs_cons, eS_ret, eE_bif, hF, rb_ok, bif_tup, lf_ok, sq_ret]
    rfl
  exact (congrArg (fun r => fin S (endR r)) e0).trans (fin_ok0 bel_dI)
theorem below_good (G : GL m w z) (hf : FitC m z f) (hg : FitC m z g) : callN P fu (n + 4) "below" [dL m w z, dI m f, dI m g] S = .ok (.bl (leR m f g)) S := by
  rw [call_eq HP.f_below rfl]
  obtain ⟨t1, h1⟩ := need_good HP (fu := fu) (n := n) (S := S) (w := w) hf
  obtain ⟨t2, h2⟩ := need_good HP (fu := fu) (n := n) (S := S) (w := w) hg
  have e0 : evSs (ctx P fu (callN P fu (n + 3))) b_below [some (dL m w z), some (dI m f), some (dI m g)] S = .ret (.bl (leR m f g)) S := by
    simp only [b_below, chk_ok HP (n := n + 1) G, h1, h2, is_below_ok HP (n := n + 2), eSs_cons, eS_if, eS_asg, eS_sub, eS_exp, eS_ret, eS_for, eS_rais, eS_brk, eS_cont, eS_pass, ss_nil', eT_or, eT_and, eT_no, eT_isi, eT_var, eT_cst, eT_op, eT_chn, eT_call, eT_bi, eE_isi, eE_var, eE_op, eE_glo, eE_chn, eE_cst, eE_bi, eE_bif, eE_tup, eE_fre, eE_dic0, eE_neg, eE_no, eE_and, eE_or, eE_ite, eE_call, eE_me, eE_sl, eE_rev, eO_non, eO_som, part_int, eEs_cons, eEs_nil, eF_lst, eF_list, eF_lc, eI_e, eI_f, eI_rng1, eI_enu, eI_z2, eI_z3, src_tup, src_rol, enu_tup, zip_tup, zip_tup3, its_items, List.getElem?_cons_zero, List.getElem?_cons_succ, List.set_cons_zero, List.set_cons_succ, rdVar_some, rb_ok, rb_exn, any_str, any_tup, any_int, any_bl, any_non, tr_bl, pur_at, alloc_at, bnd_at, o_add, o_sub, o_lt, o_le, o_gt, o_ge, o_eqI, o_neI, o_eqS, o_isN, chn_t, chn_f, lf_ok, lf_exn, sq_nx, sq_ret, sq_exn, ctx_glo, ctx_call, ctx_ini, opt_some, o_notinS, o_inS, bi_lenT, bi_intI, bi_intB, bi_abs, bi_max, bi_min, bif_tup, bi_tupT, neg_int', sl_tup, nxO_some, putT_nm, putT_tup, putTs_nil, putTs_cons, Option.bind_some, raiO_1, raiO_2, ix_0, ix_1, beq_self_eq_true, Bool.not_true, Bool.not_false, Bool.false_eq_true, ↓reduceIte, Bool.true_and, Bool.false_and, Bool.and_false, Bool.and_true, decide_true, decide_false, wipe_nil, wipe_cons]
  exact (congrArg (fun r => fin S (endR r)) e0).trans (fin_ok0 rfl)
theorem least_good (G : GL m w z) (hf : FitC m z f) (hg : FitC m z g) : callN P fu (n + 4) "least_common" [dL m w z, dI m f, dI m g] S = .ok (dI m (lcF2 z f g)) S := by
  rw [call_eq HP.f_least_common rfl]
  obtain ⟨t1, h1⟩ := need_good HP (fu := fu) (n := n) (S := S) (w := w) hf
  obtain ⟨t2, h2⟩ := need_good HP (fu := fu) (n := n) (S := S) (w := w) hg
  have e0 : evSs (ctx P fu (callN P fu (n + 3))) b_least_common [some (dL m w z), some (dI m f), some (dI m g)] S = .ret (dI m (lcF2 z f g)) S := by
    simp only [b_least_common, chk_ok HP (n := n + 1) G, h1, h2, common_ok HP (n := n + 2) G.top, eSs_cons, eS_if, eS_asg, eS_sub, eS_exp, eS_ret, eS_for, eS_rais, eS_brk, eS_cont, eS_pass, ss_nil', eT_or, eT_and, eT_no, eT_isi, eT_var, eT_cst, eT_op, eT_chn, eT_call, eT_bi, eE_isi, eE_var, eE_op, eE_glo, eE_chn, eE_cst, eE_bi, eE_bif, eE_tup, eE_fre, eE_dic0, eE_neg, eE_no, eE_and, eE_or, eE_ite, eE_call, eE_me, eE_sl, eE_rev, eO_non, eO_som, part_int, eEs_cons, eEs_nil, eF_lst, eF_list, eF_lc, eI_e, eI_f, eI_rng1, eI_enu, eI_z2, eI_z3, src_tup, src_rol, enu_tup, zip_tup, zip_tup3, its_items, List.getElem?_cons_zero, List.getElem?_cons_succ, List.set_cons_zero, List.set_cons_succ, rdVar_some, rb_ok, rb_exn, any_str, any_tup, any_int, any_bl, any_non, tr_bl, pur_at, alloc_at, bnd_at, o_add, o_sub, o_lt, o_le, o_gt, o_ge, o_eqI, o_neI, o_eqS, o_isN, chn_t, chn_f, lf_ok, lf_exn, sq_nx, sq_ret, sq_exn, ctx_glo, ctx_call, ctx_ini, opt_some, o_notinS, o_inS, bi_lenT, bi_intI, bi_intB, bi_abs, bi_max, bi_min, bif_tup, bi_tupT, neg_int', sl_tup, nxO_some, putT_nm, putT_tup, putTs_nil, putTs_cons, Option.bind_some, raiO_1, raiO_2, ix_0, ix_1, beq_self_eq_true, Bool.not_true, Bool.not_false, Bool.false_eq_true, ↓reduceIte, Bool.true_and, Bool.false_and, Bool.and_false, Bool.and_true, decide_true, decide_false, wipe_nil, wipe_cons]
  exact (congrArg (fun r => fin S (endR r)) e0).trans (fin_ok0 bel_dI)
theorem outside_good (G : GL m w z) (hf : FitC m z f) : callN P fu (n + 4) "outside" [dL m w z, dI m f] S = .ok (dI m fun i => z i - f i) S := by
  rw [call_eq HP.f_outside rfl]
  obtain ⟨t1, h1⟩ := need_good HP (fu := fu) (n := n) (S := S) (w := w) hf
  have e0 : evSs (ctx P fu (callN P fu (n + 3))) b_outside [some (dL m w z), some (dI m f), none, none] S = .ret (dI m fun i => z i - f i) S := by
    have hF := evF_R (S := S) (c := ctx P fu (callN P fu (n + 3))) (δ := [some (dL m w z), some (dI m f), none, none]) (own := [2, 3]) (elt := .op .sub (.op .ix (.var 2) (.cst (.int 1))) (.var 3)) (tg := .tup (.cons (.nm 2) (.cons (.nm 3) .nil))) (it := .zip2 (.var 0) (.var 1)) (em := fun i => D.tup [.tup [.str (w i), .int (z i)], .int (f i)]) (gg := fun i => .int (z i - f i)) G.top (by
      have hz : zipDD (dL m w z) (dI m f) S = .ok _ S := zipR _ _
      simp only [hz, eSs_cons, eS_if, eS_asg, eS_sub, eS_exp, eS_ret, eS_for, eS_rais, eS_brk, eS_cont, eS_pass, ss_nil', eT_or, eT_and, eT_no, eT_isi, eT_var, eT_cst, eT_op, eT_chn, eT_call, eT_bi, eE_isi, eE_var, eE_op, eE_glo, eE_chn, eE_cst, eE_bi, eE_bif, eE_tup, eE_fre, eE_dic0, eE_neg, eE_no, eE_and, eE_or, eE_ite, eE_call, eE_me, eE_sl, eE_rev, eO_non, eO_som, part_int, eEs_cons, eEs_nil, eF_lst, eF_list, eF_lc, eI_e, eI_f, eI_rng1, eI_enu, eI_z2, eI_z3, src_tup, src_rol, enu_tup, zip_tup, zip_tup3, its_items, List.getElem?_cons_zero, List.getElem?_cons_succ, List.set_cons_zero, List.set_cons_succ, rdVar_some, rb_ok, rb_exn, any_str, any_tup, any_int, any_bl, any_non, tr_bl, pur_at, alloc_at, bnd_at, o_add, o_sub, o_lt, o_le, o_gt, o_ge, o_eqI, o_neI, o_eqS, o_isN, chn_t, chn_f, lf_ok, lf_exn, sq_nx, sq_ret, sq_exn, ctx_glo, ctx_call, ctx_ini, opt_some, o_notinS, o_inS, bi_lenT, bi_intI, bi_intB, bi_abs, bi_max, bi_min, bif_tup, bi_tupT, neg_int', sl_tup, nxO_some, putT_nm, putT_tup, putTs_nil, putTs_cons, Option.bind_some, raiO_1, raiO_2, ix_0, ix_1, beq_self_eq_true, Bool.not_true, Bool.not_false, Bool.false_eq_true, ↓reduceIte, Bool.true_and, Bool.false_and, Bool.and_false, Bool.and_true, decide_true, decide_false, wipe_nil, wipe_cons]) (fun i hi => lcF_at rfl (by
        simp only [eSs_cons, eS_if, eS_asg, eS_sub, eS_exp, eS_ret, eS_for, eS_rais, eS_brk, eS_cont, eS_pass, ss_nil', eT_or, eT_and, eT_no, eT_isi, eT_var, eT_cst, eT_op, eT_chn, eT_call, eT_bi, eE_isi, eE_var, eE_op, eE_glo, eE_chn, eE_cst, eE_bi, eE_bif, eE_tup, eE_fre, eE_dic0, eE_neg, eE_no, eE_and, eE_or, eE_ite, eE_call, eE_me, eE_sl, eE_rev, eO_non, eO_som, part_int, eEs_cons, eEs_nil, eF_lst, eF_list, eF_lc, eI_e, eI_f, eI_rng1, eI_enu, eI_z2, eI_z3, src_tup, src_rol, enu_tup, zip_tup, zip_tup3, its_items, List.getElem?_cons_zero, List.getElem?_cons_succ, List.set_cons_zero, List.set_cons_succ, rdVar_some, rb_ok, rb_exn, any_str, any_tup, any_int, any_bl, any_non, tr_bl, pur_at, alloc_at, bnd_at, o_add, o_sub, o_lt, o_le, o_gt, o_ge, o_eqI, o_neI, o_eqS, o_isN, chn_t, chn_f, lf_ok, lf_exn, sq_nx, sq_ret, sq_exn, ctx_glo, ctx_call, ctx_ini, opt_some, o_notinS, o_inS, bi_lenT, bi_intI, bi_intB, bi_abs, bi_max, bi_min, bif_tup, bi_tupT, neg_int', sl_tup, nxO_some, putT_nm, putT_tup, putTs_nil, putTs_cons, Option.bind_some, raiO_1, raiO_2, ix_0, ix_1, beq_self_eq_true, Bool.not_true, Bool.not_false, Bool.false_eq_true, ↓reduceIte, Bool.true_and, Bool.false_and, Bool.and_false, Bool.and_true, decide_true, decide_false, wipe_nil, wipe_cons]))
    simp only [b_outside, chk_ok HP (n := n + 1) G, h1, eSs_cons, eS_exp, eE_call, eEs_cons, eEs_nil, eE_var, List.getElem?_cons_zero, List.getElem?_cons_succ, rdVar_some, pur_at, ctx_call, sq_nx, eS_ret, eE_bif, hF, rb_ok, bif_tup, lf_ok, sq_ret]
    rfl
  exact (congrArg (fun r => fin S (endR r)) e0).trans (fin_ok0 bel_dI)
theorem first_good (G : GL m w z) (hf : FitC m z f) : callN P fu (n + 4) "first_houses" [dL m w z, dI m f] S = .ok (mR m fun i => fstD (f i)) S := by
  rw [call_eq HP.f_first_houses rfl]
  obtain ⟨t1, h1⟩ := need_good HP (fu := fu) (n := n) (S := S) (w := w) hf
  have e0 : evSs (ctx P fu (callN P fu (n + 3))) b_first_houses [some (dL m w z), some (dI m f), none] S = .ret (mR m fun i => fstD (f i)) S := by
    have hF := evF_R (S := S) (c := ctx P fu (callN P fu (n + 3))) (δ := [some (dL m w z), some (dI m f), none]) (own := [2]) (elt := .ite (.op .gt (.var 2) (.cst (.int 0))) (.tup (.cons (.tup (.cons (.cst (.int 0)) (.cons (.var 2) .nil))) .nil)) (.tup .nil)) (tg := .nm 2) (it := .e (.var 1)) (em := fun i => D.int (f i)) (gg := fun i => fstD (f i)) G.top (by
      have hz : srcD (dI m f) S = .ok (.its ((List.range m).map fun i => D.int (f i))) S := src_tup
      simp only [hz, eSs_cons, eS_if, eS_asg, eS_sub, eS_exp, eS_ret, eS_for, eS_rais, eS_brk, eS_cont, eS_pass, ss_nil', eT_or, eT_and, eT_no, eT_isi, eT_var, eT_cst, eT_op, eT_chn, eT_call, eT_bi, eE_isi, eE_var, eE_op, eE_glo, eE_chn, eE_cst, eE_bi, eE_bif, eE_tup, eE_fre, eE_dic0, eE_neg, eE_no, eE_and, eE_or, eE_ite, eE_call, eE_me, eE_sl, eE_rev, eO_non, eO_som, part_int, eEs_cons, eEs_nil, eF_lst, eF_list, eF_lc, eI_e, eI_f, eI_rng1, eI_enu, eI_z2, eI_z3, src_tup, src_rol, enu_tup, zip_tup, zip_tup3, its_items, List.getElem?_cons_zero, List.getElem?_cons_succ, List.set_cons_zero, List.set_cons_succ, rdVar_some, rb_ok, rb_exn, any_str, any_tup, any_int, any_bl, any_non, tr_bl, pur_at, alloc_at, bnd_at, o_add, o_sub, o_lt, o_le, o_gt, o_ge, o_eqI, o_neI, o_eqS, o_isN, chn_t, chn_f, lf_ok, lf_exn, sq_nx, sq_ret, sq_exn, ctx_glo, ctx_call, ctx_ini, opt_some, o_notinS, o_inS, bi_lenT, bi_intI, bi_intB, bi_abs, bi_max, bi_min, bif_tup, bi_tupT, neg_int', sl_tup, nxO_some, putT_nm, putT_tup, putTs_nil, putTs_cons, Option.bind_some, raiO_1, raiO_2, ix_0, ix_1, beq_self_eq_true, Bool.not_true, Bool.not_false, Bool.false_eq_true, ↓reduceIte, Bool.true_and, Bool.false_and, Bool.and_false, Bool.and_true, decide_true, decide_false, wipe_nil, wipe_cons]) (fun i hi => lcF_at rfl (by
        unfold fstD
        by_cases h : 0 < f i
        · simp only [decide_eq_true h, if_pos h, eSs_cons, eS_if, eS_asg, eS_sub, eS_exp, eS_ret, eS_for, eS_rais, eS_brk, eS_cont, eS_pass, ss_nil', eT_or, eT_and, eT_no, eT_isi, eT_var, eT_cst, eT_op, eT_chn, eT_call, eT_bi, eE_isi, eE_var, eE_op, eE_glo, eE_chn, eE_cst, eE_bi, eE_bif, eE_tup, eE_fre, eE_dic0, eE_neg, eE_no, eE_and, eE_or, eE_ite, eE_call, eE_me, eE_sl, eE_rev, eO_non, eO_som, part_int, eEs_cons, eEs_nil, eF_lst, eF_list, eF_lc, eI_e, eI_f, eI_rng1, eI_enu, eI_z2, eI_z3, src_tup, src_rol, enu_tup, zip_tup, zip_tup3, its_items, List.getElem?_cons_zero, List.getElem?_cons_succ, List.set_cons_zero, List.set_cons_succ, rdVar_some, rb_ok, rb_exn, any_str, any_tup, any_int, any_bl, any_non, tr_bl, pur_at, alloc_at, bnd_at, o_add, o_sub, o_lt, o_le, o_gt, o_ge, o_eqI, o_neI, o_eqS, o_isN, chn_t, chn_f, lf_ok, lf_exn, sq_nx, sq_ret, sq_exn, ctx_glo, ctx_call, ctx_ini, opt_some, o_notinS, o_inS, bi_lenT, bi_intI, bi_intB, bi_abs, bi_max, bi_min, bif_tup, bi_tupT, neg_int', sl_tup, nxO_some, putT_nm, putT_tup, putTs_nil, putTs_cons, Option.bind_some, raiO_1, raiO_2, ix_0, ix_1, beq_self_eq_true, Bool.not_true, Bool.not_false, Bool.false_eq_true, ↓reduceIte, Bool.true_and, Bool.false_and, Bool.and_false, Bool.and_true, decide_true, decide_false, wipe_nil, wipe_cons]
        · simp only [decide_eq_false h, if_neg h, eSs_cons, eS_if, eS_asg, eS_sub, eS_exp, eS_ret, eS_for, eS_rais, eS_brk, eS_cont, eS_pass, ss_nil', eT_or, eT_and, eT_no, eT_isi, eT_var, eT_cst, eT_op, eT_chn, eT_call, eT_bi, eE_isi, eE_var, eE_op, eE_glo, eE_chn, eE_cst, eE_bi, eE_bif, eE_tup, eE_fre, eE_dic0, eE_neg, eE_no, eE_and, eE_or, eE_ite, eE_call, eE_me, eE_sl, eE_rev, eO_non, eO_som, part_int, eEs_cons, eEs_nil, eF_lst, eF_list, eF_lc, eI_e, eI_f, eI_rng1, eI_enu, eI_z2, eI_z3, src_tup, src_rol, enu_tup, zip_tup, zip_tup3, its_items, List.getElem?_cons_zero, List.getElem?_cons_succ, List.set_cons_zero, List.set_cons_succ, rdVar_some, rb_ok, rb_exn, any_str, any_tup, any_int, any_bl, any_non, tr_bl, pur_at, alloc_at, bnd_at, o_add, o_sub, o_lt, o_le, o_gt, o_ge, o_eqI, o_neI, o_eqS, o_isN, chn_t, chn_f, lf_ok, lf_exn, sq_nx, sq_ret, sq_exn, ctx_glo, ctx_call, ctx_ini, opt_some, o_notinS, o_inS, bi_lenT, bi_intI, bi_intB, bi_abs, bi_max, bi_min, bif_tup, bi_tupT, neg_int', sl_tup, nxO_some, putT_nm, putT_tup, putTs_nil, putTs_cons, Option.bind_some, raiO_1, raiO_2, ix_0, ix_1, beq_self_eq_true, Bool.not_true, Bool.not_false, Bool.false_eq_true, ↓reduceIte, Bool.true_and, Bool.false_and, Bool.and_false, Bool.and_true, decide_true, decide_false, wipe_nil, wipe_cons]))
    simp only [b_first_houses, chk_ok HP (n := n + 1) G, h1, eSs_cons, eS_exp, eE_call, eEs_cons, eEs_nil, eE_var, List.getElem?_cons_zero, List.getElem?_cons_succ, rdVar_some, pur_at, ctx_call, sq_nx, eS_ret, eE_bif, hF, rb_ok, bif_tup, lf_ok, sq_ret]
    rfl
  exact (congrArg (fun r => fin S (endR r)) e0).trans (fin_ok0 (bels_R fun i _ => by unfold fstD; split <;> rfl))
theorem everyone_good (G : GL m w z) : callN P fu (n + 3) "everyone" [dL m w z] S = .ok (dI m z) S := by
  rw [call_eq HP.f_everyone rfl]
  have e0 : evSs (ctx P fu (callN P fu (n + 2))) b_everyone [some (dL m w z), none] S = .ret (dI m z) S := by
    have hF := evF_R (S := S) (c := ctx P fu (callN P fu (n + 2))) (δ := [some (dL m w z), none]) (own := [1]) (elt := .op .ix (.var 1) (.cst (.int 1))) (tg := .nm 1) (it := .e (.var 0)) (em := fun i => D.tup [.str (w i), .int (z i)]) (gg := fun i => .int (z i)) G.top (by
      have hz : srcD (dL m w z) S = .ok (.its ((List.range m).map fun i => D.tup [.str (w i), .int (z i)])) S := src_tup
      simp only [hz, eSs_cons, eS_if, eS_asg, eS_sub, eS_exp, eS_ret, eS_for, eS_rais, eS_brk, eS_cont, eS_pass, ss_nil', eT_or, eT_and, eT_no, eT_isi, eT_var, eT_cst, eT_op, eT_chn, eT_call, eT_bi, eE_isi, eE_var, eE_op, eE_glo, eE_chn, eE_cst, eE_bi, eE_bif, eE_tup, eE_fre, eE_dic0, eE_neg, eE_no, eE_and, eE_or, eE_ite, eE_call, eE_me, eE_sl, eE_rev, eO_non, eO_som, part_int, eEs_cons, eEs_nil, eF_lst, eF_list, eF_lc, eI_e, eI_f, eI_rng1, eI_enu, eI_z2, eI_z3, src_tup, src_rol, enu_tup, zip_tup, zip_tup3, its_items, List.getElem?_cons_zero, List.getElem?_cons_succ, List.set_cons_zero, List.set_cons_succ, rdVar_some, rb_ok, rb_exn, any_str, any_tup, any_int, any_bl, any_non, tr_bl, pur_at, alloc_at, bnd_at, o_add, o_sub, o_lt, o_le, o_gt, o_ge, o_eqI, o_neI, o_eqS, o_isN, chn_t, chn_f, lf_ok, lf_exn, sq_nx, sq_ret, sq_exn, ctx_glo, ctx_call, ctx_ini, opt_some, o_notinS, o_inS, bi_lenT, bi_intI, bi_intB, bi_abs, bi_max, bi_min, bif_tup, bi_tupT, neg_int', sl_tup, nxO_some, putT_nm, putT_tup, putTs_nil, putTs_cons, Option.bind_some, raiO_1, raiO_2, ix_0, ix_1, beq_self_eq_true, Bool.not_true, Bool.not_false, Bool.false_eq_true, ↓reduceIte, Bool.true_and, Bool.false_and, Bool.and_false, Bool.and_true, decide_true, decide_false, wipe_nil, wipe_cons]) (fun i hi => lcF_at rfl (by
        simp only [eSs_cons, eS_if, eS_asg, eS_sub, eS_exp, eS_ret, eS_for, eS_rais, eS_brk, eS_cont, eS_pass, ss_nil', eT_or, eT_and, eT_no, eT_isi, eT_var, eT_cst, eT_op, eT_chn, eT_call, eT_bi, eE_isi, eE_var, eE_op, eE_glo, eE_chn, eE_cst, eE_bi, eE_bif, eE_tup, eE_fre, eE_dic0, eE_neg, eE_no, eE_and, eE_or, eE_ite, eE_call, eE_me, eE_sl, eE_rev, eO_non, eO_som, part_int, eEs_cons, eEs_nil, eF_lst, eF_list, eF_lc, eI_e, eI_f, eI_rng1, eI_enu, eI_z2, eI_z3, src_tup, src_rol, enu_tup, zip_tup, zip_tup3, its_items, List.getElem?_cons_zero, List.getElem?_cons_succ, List.set_cons_zero, List.set_cons_succ, rdVar_some, rb_ok, rb_exn, any_str, any_tup, any_int, any_bl, any_non, tr_bl, pur_at, alloc_at, bnd_at, o_add, o_sub, o_lt, o_le, o_gt, o_ge, o_eqI, o_neI, o_eqS, o_isN, chn_t, chn_f, lf_ok, lf_exn, sq_nx, sq_ret, sq_exn, ctx_glo, ctx_call, ctx_ini, opt_some, o_notinS, o_inS, bi_lenT, bi_intI, bi_intB, bi_abs, bi_max, bi_min, bif_tup, bi_tupT, neg_int', sl_tup, nxO_some, putT_nm, putT_tup, putTs_nil, putTs_cons, Option.bind_some, raiO_1, raiO_2, ix_0, ix_1, beq_self_eq_true, Bool.not_true, Bool.not_false, Bool.false_eq_true, ↓reduceIte, Bool.true_and, Bool.false_and, Bool.and_false, Bool.and_true, decide_true, decide_false, wipe_nil, wipe_cons]))
    simp only [b_everyone, chk_ok HP (n := n) G, eSs_cons, eS_exp, eE_call, eEs_cons, eEs_nil, eE_var, List.getElem?_cons_zero, List.getElem?_cons_succ, rdVar_some, pur_at, ctx_call, sq_nx, eS_ret, eE_bif, hF, rb_ok, bif_tup, lf_ok, sq_ret]
    rfl
  exact (congrArg (fun r => fin S (endR r)) e0).trans (fin_ok0 bel_dI)
theorem nobody_good (G : GL m w z) : callN P fu (n + 3) "nobody" [dL m w z] S = .ok (dI m fun _ => 0) S := by
  rw [call_eq HP.f_nobody rfl]
  have e0 : evSs (ctx P fu (callN P fu (n + 2))) b_nobody [some (dL m w z), none] S = .ret (dI m fun _ => 0) S := by
    have hF := evF_R (S := S) (c := ctx P fu (callN P fu (n + 2))) (δ := [some (dL m w z), none]) (own := [1]) (elt := .cst (.int 0)) (tg := .nm 1) (it := .e (.var 0)) (em := fun i => D.tup [.str (w i), .int (z i)]) (gg := fun i => .int 0) G.top (by
      have hz : srcD (dL m w z) S = .ok (.its ((List.range m).map fun i => D.tup [.str (w i), .int (z i)])) S := src_tup
      simp only [hz, eSs_cons, eS_if, eS_asg, eS_sub, eS_exp, eS_ret, eS_for, eS_rais, eS_brk, eS_cont, eS_pass, ss_nil', eT_or, eT_and, eT_no, eT_isi, eT_var, eT_cst, eT_op, eT_chn, eT_call, eT_bi, eE_isi, eE_var, eE_op, eE_glo, eE_chn, eE_cst, eE_bi, eE_bif, eE_tup, eE_fre, eE_dic0, eE_neg, eE_no, eE_and, eE_or, eE_ite, eE_call, eE_me, eE_sl, eE_rev, eO_non, eO_som, part_int, eEs_cons, eEs_nil, eF_lst, eF_list, eF_lc, eI_e, eI_f, eI_rng1, eI_enu, eI_z2, eI_z3, src_tup, src_rol, enu_tup, zip_tup, zip_tup3, its_items, List.getElem?_cons_zero, List.getElem?_cons_succ, List.set_cons_zero, List.set_cons_succ, rdVar_some, rb_ok, rb_exn, any_str, any_tup, any_int, any_bl, any_non, tr_bl, pur_at, alloc_at, bnd_at, o_add, o_sub, o_lt, o_le, o_gt, o_ge, o_eqI, o_neI, o_eqS, o_isN, chn_t, chn_f, lf_ok, lf_exn, sq_nx, sq_ret, sq_exn, ctx_glo, ctx_call, ctx_ini, opt_some, o_notinS, o_inS, bi_lenT, bi_intI, bi_intB, bi_abs, bi_max, bi_min, bif_tup, bi_tupT, neg_int', sl_tup, nxO_some, putT_nm, putT_tup, putTs_nil, putTs_cons, Option.bind_some, raiO_1, raiO_2, ix_0, ix_1, beq_self_eq_true, Bool.not_true, Bool.not_false, Bool.false_eq_true, ↓reduceIte, Bool.true_and, Bool.false_and, Bool.and_false, Bool.and_true, decide_true, decide_false, wipe_nil, wipe_cons]) (fun i hi => lcF_at rfl (by
        simp only [eSs_cons, eS_if, eS_asg, eS_sub, eS_exp, eS_ret, eS_for, eS_rais, eS_brk, eS_cont, eS_pass, ss_nil', eT_or, eT_and, eT_no, eT_isi, eT_var, eT_cst, eT_op, eT_chn, eT_call, eT_bi, eE_isi, eE_var, eE_op, eE_glo, eE_chn, eE_cst, eE_bi, eE_bif, eE_tup, eE_fre, eE_dic0, eE_neg, eE_no, eE_and, eE_or, eE_ite, eE_call, eE_me, eE_sl, eE_rev, eO_non, eO_som, part_int, eEs_cons, eEs_nil, eF_lst, eF_list, eF_lc, eI_e, eI_f, eI_rng1, eI_enu, eI_z2, eI_z3, src_tup, src_rol, enu_tup, zip_tup, zip_tup3, its_items, List.getElem?_cons_zero, List.getElem?_cons_succ, List.set_cons_zero, List.set_cons_succ, rdVar_some, rb_ok, rb_exn, any_str, any_tup, any_int, any_bl, any_non, tr_bl, pur_at, alloc_at, bnd_at, o_add, o_sub, o_lt, o_le, o_gt, o_ge, o_eqI, o_neI, o_eqS, o_isN, chn_t, chn_f, lf_ok, lf_exn, sq_nx, sq_ret, sq_exn, ctx_glo, ctx_call, ctx_ini, opt_some, o_notinS, o_inS, bi_lenT, bi_intI, bi_intB, bi_abs, bi_max, bi_min, bif_tup, bi_tupT, neg_int', sl_tup, nxO_some, putT_nm, putT_tup, putTs_nil, putTs_cons, Option.bind_some, raiO_1, raiO_2, ix_0, ix_1, beq_self_eq_true, Bool.not_true, Bool.not_false, Bool.false_eq_true, ↓reduceIte, Bool.true_and, Bool.false_and, Bool.and_false, Bool.and_true, decide_true, decide_false, wipe_nil, wipe_cons]))
    simp only [b_nobody, chk_ok HP (n := n) G, eSs_cons, eS_exp, eE_call, eEs_cons, eEs_nil, eE_var, List.getElem?_cons_zero, List.getElem?_cons_succ, rdVar_some, pur_at, ctx_call, sq_nx, eS_ret, eE_bif, hF, rb_ok, bif_tup, lf_ok, sq_ret]
    rfl
  exact (congrArg (fun r => fin S (endR r)) e0).trans (fin_ok0 bel_dI)
/-! faults: what the checks raise goes through -/
theorem fault_one (x : String) (fnc : Fn) (hx : P.fns x = some fnc) (rest : Ss) (hb : fnc.body = .cons (.exp (.call "check_lots" (.cons (.var 0) .nil))) rest) {d : D} {ds : List D} (hl : (d :: ds).length = fnc.pars) {e : Exn} (he : callN P fu n "check_lots" [d] S = .exn e S) (hbel : (e.fs.all fun p => p.2.bel S.length) = true) :
    callN P fu (n + 1) x (d :: ds) S = .exn e S := by
  rw [call_eq hx hl, hb]
  rw [List.map_cons, List.cons_append, ss_exn (s_expX (x := e) (S' := S) (by simp only [he, eSs_cons, eS_if, eS_asg, eS_sub, eS_exp, eS_ret, eS_for, eS_rais, eS_brk, eS_cont, eS_pass, ss_nil', eT_or, eT_and, eT_no, eT_isi, eT_var, eT_cst, eT_op, eT_chn, eT_call, eT_bi, eE_isi, eE_var, eE_op, eE_glo, eE_chn, eE_cst, eE_bi, eE_bif, eE_tup, eE_fre, eE_dic0, eE_neg, eE_no, eE_and, eE_or, eE_ite, eE_call, eE_me, eE_sl, eE_rev, eO_non, eO_som, part_int, eEs_cons, eEs_nil, eF_lst, eF_list, eF_lc, eI_e, eI_f, eI_rng1, eI_enu, eI_z2, eI_z3, src_tup, src_rol, enu_tup, zip_tup, zip_tup3, its_items, List.getElem?_cons_zero, List.getElem?_cons_succ, List.set_cons_zero, List.set_cons_succ, rdVar_some, rb_ok, rb_exn, any_str, any_tup, any_int, any_bl, any_non, tr_bl, pur_at, alloc_at, bnd_at, o_add, o_sub, o_lt, o_le, o_gt, o_ge, o_eqI, o_neI, o_eqS, o_isN, chn_t, chn_f, lf_ok, lf_exn, sq_nx, sq_ret, sq_exn, ctx_glo, ctx_call, ctx_ini, opt_some, o_notinS, o_inS, bi_lenT, bi_intI, bi_intB, bi_abs, bi_max, bi_min, bif_tup, bi_tupT, neg_int', sl_tup, nxO_some, putT_nm, putT_tup, putTs_nil, putTs_cons, Option.bind_some, raiO_1, raiO_2, ix_0, ix_1, beq_self_eq_true, Bool.not_true, Bool.not_false, Bool.false_eq_true, ↓reduceIte, Bool.true_and, Bool.false_and, Bool.and_false, Bool.and_true, decide_true, decide_false, wipe_nil, wipe_cons]))]
  exact fin_exn0 hbel
theorem fault_two (x : String) (fnc : Fn) (hx : P.fns x = some fnc) (rest : Ss) (hb : fnc.body = .cons (.exp (.call "check_lots" (.cons (.var 0) .nil))) (.cons (.exp (.call "need_counts" (.cons (.var 0) (.cons (.var 1) .nil)))) rest)) {d c : D} {ds : List D} (hl : (d :: c :: ds).length = fnc.pars) {t : D} (h1 : callN P fu n "check_lots" [d] S = .ok t S) {e : Exn} (he : callN P fu n "need_counts" [d, c] S = .exn e S) (hbel : (e.fs.all fun p => p.2.bel S.length) = true) :
    callN P fu (n + 1) x (d :: c :: ds) S = .exn e S := by
  rw [call_eq hx hl, hb]
  rw [List.map_cons, List.map_cons, List.cons_append, List.cons_append, ss_nx (s_exp' (d := t) (S' := S) (by simp only [h1, eSs_cons, eS_if, eS_asg, eS_sub, eS_exp, eS_ret, eS_for, eS_rais, eS_brk, eS_cont, eS_pass, ss_nil', eT_or, eT_and, eT_no, eT_isi, eT_var, eT_cst, eT_op, eT_chn, eT_call, eT_bi, eE_isi, eE_var, eE_op, eE_glo, eE_chn, eE_cst, eE_bi, eE_bif, eE_tup, eE_fre, eE_dic0, eE_neg, eE_no, eE_and, eE_or, eE_ite, eE_call, eE_me, eE_sl, eE_rev, eO_non, eO_som, part_int, eEs_cons, eEs_nil, eF_lst, eF_list, eF_lc, eI_e, eI_f, eI_rng1, eI_enu, eI_z2, eI_z3, src_tup, src_rol, enu_tup, zip_tup, zip_tup3, its_items, List.getElem?_cons_zero, List.getElem?_cons_succ, List.set_cons_zero, List.set_cons_succ, rdVar_some, rb_ok, rb_exn, any_str, any_tup, any_int, any_bl, any_non, tr_bl, pur_at, alloc_at, bnd_at, o_add, o_sub, o_lt, o_le, o_gt, o_ge, o_eqI, o_neI, o_eqS, o_isN, chn_t, chn_f, lf_ok, lf_exn, sq_nx, sq_ret, sq_exn, ctx_glo, ctx_call, ctx_ini, opt_some, o_notinS, o_inS, bi_lenT, bi_intI, bi_intB, bi_abs, bi_max, bi_min, bif_tup, bi_tupT, neg_int', sl_tup, nxO_some, putT_nm, putT_tup, putTs_nil, putTs_cons, Option.bind_some, raiO_1, raiO_2, ix_0, ix_1, beq_self_eq_true, Bool.not_true, Bool.not_false, Bool.false_eq_true, ↓reduceIte, Bool.true_and, Bool.false_and, Bool.and_false, Bool.and_true, decide_true, decide_false, wipe_nil, wipe_cons])), ss_exn (s_expX (x := e) (S' := S) (by simp only [he, eSs_cons, eS_if, eS_asg, eS_sub, eS_exp, eS_ret, eS_for, eS_rais, eS_brk, eS_cont, eS_pass, ss_nil', eT_or, eT_and, eT_no, eT_isi, eT_var, eT_cst, eT_op, eT_chn, eT_call, eT_bi, eE_isi, eE_var, eE_op, eE_glo, eE_chn, eE_cst, eE_bi, eE_bif, eE_tup, eE_fre, eE_dic0, eE_neg, eE_no, eE_and, eE_or, eE_ite, eE_call, eE_me, eE_sl, eE_rev, eO_non, eO_som, part_int, eEs_cons, eEs_nil, eF_lst, eF_list, eF_lc, eI_e, eI_f, eI_rng1, eI_enu, eI_z2, eI_z3, src_tup, src_rol, enu_tup, zip_tup, zip_tup3, its_items, List.getElem?_cons_zero, List.getElem?_cons_succ, List.set_cons_zero, List.set_cons_succ, rdVar_some, rb_ok, rb_exn, any_str, any_tup, any_int, any_bl, any_non, tr_bl, pur_at, alloc_at, bnd_at, o_add, o_sub, o_lt, o_le, o_gt, o_ge, o_eqI, o_neI, o_eqS, o_isN, chn_t, chn_f, lf_ok, lf_exn, sq_nx, sq_ret, sq_exn, ctx_glo, ctx_call, ctx_ini, opt_some, o_notinS, o_inS, bi_lenT, bi_intI, bi_intB, bi_abs, bi_max, bi_min, bif_tup, bi_tupT, neg_int', sl_tup, nxO_some, putT_nm, putT_tup, putTs_nil, putTs_cons, Option.bind_some, raiO_1, raiO_2, ix_0, ix_1, beq_self_eq_true, Bool.not_true, Bool.not_false, Bool.false_eq_true, ↓reduceIte, Bool.true_and, Bool.false_and, Bool.and_false, Bool.and_true, decide_true, decide_false, wipe_nil, wipe_cons]))]
  exact fin_exn0 hbel
theorem fault_three (x : String) (fnc : Fn) (hx : P.fns x = some fnc) (rest : Ss) (hb : fnc.body = .cons (.exp (.call "check_lots" (.cons (.var 0) .nil))) (.cons (.exp (.call "need_counts" (.cons (.var 0) (.cons (.var 1) .nil)))) (.cons (.exp (.call "need_counts" (.cons (.var 0) (.cons (.var 2) .nil)))) rest))) {d c b : D} {ds : List D} (hl : (d :: c :: b :: ds).length = fnc.pars) {t u : D} (h1 : callN P fu n "check_lots" [d] S = .ok t S) (h2 : callN P fu n "need_counts" [d, c] S = .ok u S) {e : Exn} (he : callN P fu n "need_counts" [d, b] S = .exn e S) (hbel : (e.fs.all fun p => p.2.bel S.length) = true) :
    callN P fu (n + 1) x (d :: c :: b :: ds) S = .exn e S := by
  rw [call_eq hx hl, hb]
  rw [List.map_cons, List.map_cons, List.map_cons, List.cons_append, List.cons_append, List.cons_append, ss_nx (s_exp' (d := t) (S' := S) (by simp only [h1, eSs_cons, eS_if, eS_asg, eS_sub, eS_exp, eS_ret, eS_for, eS_rais, eS_brk, eS_cont, eS_pass, ss_nil', eT_or, eT_and, eT_no, eT_isi, eT_var, eT_cst, eT_op, eT_chn, eT_call, eT_bi, eE_isi, eE_var, eE_op, eE_glo, eE_chn, eE_cst, eE_bi, eE_bif, eE_tup, eE_fre, eE_dic0, eE_neg, eE_no, eE_and, eE_or, eE_ite, eE_call, eE_me, eE_sl, eE_rev, eO_non, eO_som, part_int, eEs_cons, eEs_nil, eF_lst, eF_list, eF_lc, eI_e, eI_f, eI_rng1, eI_enu, eI_z2, eI_z3, src_tup, src_rol, enu_tup, zip_tup, zip_tup3, its_items, List.getElem?_cons_zero, List.getElem?_cons_succ, List.set_cons_zero, List.set_cons_succ, rdVar_some, rb_ok, rb_exn, any_str, any_tup, any_int, any_bl, any_non, tr_bl, pur_at, alloc_at, bnd_at, o_add, o_sub, o_lt, o_le, o_gt, o_ge, o_eqI, o_neI, o_eqS, o_isN, chn_t, chn_f, lf_ok, lf_exn, sq_nx, sq_ret, sq_exn, ctx_glo, ctx_call, ctx_ini, opt_some, o_notinS, o_inS, bi_lenT, bi_intI, bi_intB, bi_abs, bi_max, bi_min, bif_tup, bi_tupT, neg_int', sl_tup, nxO_some, putT_nm, putT_tup, putTs_nil, putTs_cons, Option.bind_some, raiO_1, raiO_2, ix_0, ix_1, beq_self_eq_true, Bool.not_true, Bool.not_false, Bool.false_eq_true, ↓reduceIte, Bool.true_and, Bool.false_and, Bool.and_false, Bool.and_true, decide_true, decide_false, wipe_nil, wipe_cons])), ss_nx (s_exp' (d := u) (S' := S) (by simp only [h2, eSs_cons, eS_if, eS_asg, eS_sub, eS_exp, eS_ret, eS_for, eS_rais, eS_brk, eS_cont, eS_pass, ss_nil', eT_or, eT_and, eT_no, eT_isi, eT_var, eT_cst, eT_op, eT_chn, eT_call, eT_bi, eE_isi, eE_var, eE_op, eE_glo, eE_chn, eE_cst, eE_bi, eE_bif, eE_tup, eE_fre, eE_dic0, eE_neg, eE_no, eE_and, eE_or, eE_ite, eE_call, eE_me, eE_sl, eE_rev, eO_non, eO_som, part_int, eEs_cons, eEs_nil, eF_lst, eF_list, eF_lc, eI_e, eI_f, eI_rng1, eI_enu, eI_z2, eI_z3, src_tup, src_rol, enu_tup, zip_tup, zip_tup3, its_items, List.getElem?_cons_zero, List.getElem?_cons_succ, List.set_cons_zero, List.set_cons_succ, rdVar_some, rb_ok, rb_exn, any_str, any_tup, any_int, any_bl, any_non, tr_bl, pur_at, alloc_at, bnd_at, o_add, o_sub, o_lt, o_le, o_gt, o_ge, o_eqI, o_neI, o_eqS, o_isN, chn_t, chn_f, lf_ok, lf_exn, sq_nx, sq_ret, sq_exn, ctx_glo, ctx_call, ctx_ini, opt_some, o_notinS, o_inS, bi_lenT, bi_intI, bi_intB, bi_abs, bi_max, bi_min, bif_tup, bi_tupT, neg_int', sl_tup, nxO_some, putT_nm, putT_tup, putTs_nil, putTs_cons, Option.bind_some, raiO_1, raiO_2, ix_0, ix_1, beq_self_eq_true, Bool.not_true, Bool.not_false, Bool.false_eq_true, ↓reduceIte, Bool.true_and, Bool.false_and, Bool.and_false, Bool.and_true, decide_true, decide_false, wipe_nil, wipe_cons])), ss_exn (s_expX (x := e) (S' := S) (by simp only [he, eSs_cons, eS_if, eS_asg, eS_sub, eS_exp, eS_ret, eS_for, eS_rais, eS_brk, eS_cont, eS_pass, ss_nil', eT_or, eT_and, eT_no, eT_isi, eT_var, eT_cst, eT_op, eT_chn, eT_call, eT_bi, eE_isi, eE_var, eE_op, eE_glo, eE_chn, eE_cst, eE_bi, eE_bif, eE_tup, eE_fre, eE_dic0, eE_neg, eE_no, eE_and, eE_or, eE_ite, eE_call, eE_me, eE_sl, eE_rev, eO_non, eO_som, part_int, eEs_cons, eEs_nil, eF_lst, eF_list, eF_lc, eI_e, eI_f, eI_rng1, eI_enu, eI_z2, eI_z3, src_tup, src_rol, enu_tup, zip_tup, zip_tup3, its_items, List.getElem?_cons_zero, List.getElem?_cons_succ, List.set_cons_zero, List.set_cons_succ, rdVar_some, rb_ok, rb_exn, any_str, any_tup, any_int, any_bl, any_non, tr_bl, pur_at, alloc_at, bnd_at, o_add, o_sub, o_lt, o_le, o_gt, o_ge, o_eqI, o_neI, o_eqS, o_isN, chn_t, chn_f, lf_ok, lf_exn, sq_nx, sq_ret, sq_exn, ctx_glo, ctx_call, ctx_ini, opt_some, o_notinS, o_inS, bi_lenT, bi_intI, bi_intB, bi_abs, bi_max, bi_min, bif_tup, bi_tupT, neg_int', sl_tup, nxO_some, putT_nm, putT_tup, putTs_nil, putTs_cons, Option.bind_some, raiO_1, raiO_2, ix_0, ix_1, beq_self_eq_true, Bool.not_true, Bool.not_false, Bool.false_eq_true, ↓reduceIte, Bool.true_and, Bool.false_and, Bool.and_false, Bool.and_true, decide_true, decide_false, wipe_nil, wipe_cons]))]
  exact fin_exn0 hbel
end
end Mi

set_option Elab.async false
set_option linter.all false
set_option maxRecDepth 100000
set_option maxHeartbeats 4000000
/-! Law functions: the tape, a draw, what stands beside. -/
namespace Mi
/-- the tape at t, its great numbers at g, a list of counts at a -/
structure Mem (S : Store) (t g a : Nat) (bs : List Int) : Prop where
  ht : ∃ st dg : Int, S[t]? = some (.lst [.int st, .int dg, .ref g])
  hg : ∃ gs : List Int, S[g]? = some (.lst (gs.map D.int))
  ha : S[a]? = some (.lst (bs.map D.int))
  tg : t ≠ g
  ta : t ≠ a
  ga : g ≠ a
/-- all else is as it was -/
structure Ext (t g a : Nat) (S S' : Store) : Prop where
  le : S.length ≤ S'.length
  same : ∀ k, k < S.length → k ≠ t → k ≠ g → k ≠ a → S'[k]? = S[k]?
structure Fr (t g a : Nat) (S S' : Store) : Prop where
  len : S'.length = S.length
  same : ∀ k, k ≠ t → k ≠ g → k ≠ a → S'[k]? = S[k]?
section
variable {S S' S'' : Store} {t g a : Nat} {bs bs' : List Int}
theorem Fr.ext (h : Fr t g a S S') : Ext t g a S S' := ⟨by rw [h.len]; exact Nat.le_refl _, fun k _ => h.same k⟩
theorem Fr.refl : Fr t g a S S := ⟨rfl, fun _ _ _ _ => rfl⟩
theorem Ext.refl : Ext t g a S S := ⟨Nat.le_refl _, fun _ _ _ _ _ => rfl⟩
theorem Fr.trans (h : Fr t g a S S') (k : Fr t g a S' S'') : Fr t g a S S'' := ⟨k.len.trans h.len, fun i h1 h2 h3 => (k.same i h1 h2 h3).trans (h.same i h1 h2 h3)⟩
theorem Ext.trans (h : Ext t g a S S') (k : Ext t g a S' S'') : Ext t g a S S'' := ⟨Nat.le_trans h.le k.le, fun i hi h1 h2 h3 => (k.same i (Nat.lt_of_lt_of_le hi h.le) h1 h2 h3).trans (h.same i hi h1 h2 h3)⟩
theorem Ext.app (o : Store) : Ext t g a S (S ++ o) := ⟨by rw [List.length_append]; omega, fun k hk _ _ _ => List.getElem?_append_left hk⟩
theorem lt_of_get {k : Nat} {o : O} (h : S[k]? = some o) : k < S.length := by
  by_cases hk : k < S.length
  · exact hk
  · rw [List.getElem?_eq_none (by omega)] at h
    cases h
theorem Mem.tlt (h : Mem S t g a bs) : t < S.length := by obtain ⟨_, _, e⟩ := h.ht; exact lt_of_get e
theorem Mem.glt (h : Mem S t g a bs) : g < S.length := by obtain ⟨_, e⟩ := h.hg; exact lt_of_get e
theorem Mem.alt (h : Mem S t g a bs) : a < S.length := lt_of_get h.ha
theorem Mem.app (h : Mem S t g a bs) (o : Store) : Mem (S ++ o) t g a bs := by
  refine ⟨?_, ?_, ?_, h.tg, h.ta, h.ga⟩
  · obtain ⟨x, y, e⟩ := h.ht; exact ⟨x, y, by rw [List.getElem?_append_left h.tlt]; exact e⟩
  · obtain ⟨x, e⟩ := h.hg; exact ⟨x, by rw [List.getElem?_append_left h.glt]; exact e⟩
  · rw [List.getElem?_append_left h.alt]; exact h.ha
theorem Mem.set (h : Mem S t g a bs) {k : Nat} (h1 : k ≠ t) (h2 : k ≠ g) (h3 : k ≠ a) (o : O) : Mem (S.set k o) t g a bs := by
  refine ⟨?_, ?_, ?_, h.tg, h.ta, h.ga⟩
  · obtain ⟨x, y, e⟩ := h.ht; exact ⟨x, y, by rw [List.getElem?_set_ne h1]; exact e⟩
  · obtain ⟨x, e⟩ := h.hg; exact ⟨x, by rw [List.getElem?_set_ne h2]; exact e⟩
  · rw [List.getElem?_set_ne h3]; exact h.ha
theorem Mem.setT (h : Mem S t g a bs) (x y : Int) : Mem (S.set t (.lst [.int x, .int y, .ref g])) t g a bs := by
  refine ⟨⟨x, y, by rw [List.getElem?_set_self h.tlt]⟩, ?_, ?_, h.tg, h.ta, h.ga⟩
  · obtain ⟨x, e⟩ := h.hg; exact ⟨x, by rw [List.getElem?_set_ne h.tg]; exact e⟩
  · rw [List.getElem?_set_ne h.ta]; exact h.ha
theorem Mem.setG (h : Mem S t g a bs) (gs : List Int) : Mem (S.set g (.lst (gs.map D.int))) t g a bs := by
  refine ⟨?_, ⟨gs, by rw [List.getElem?_set_self h.glt]⟩, ?_, h.tg, h.ta, h.ga⟩
  · obtain ⟨x, y, e⟩ := h.ht; exact ⟨x, y, by rw [List.getElem?_set_ne h.tg.symm]; exact e⟩
  · rw [List.getElem?_set_ne h.ga]; exact h.ha
theorem Mem.setA (h : Mem S t g a bs) (bs' : List Int) : Mem (S.set a (.lst (bs'.map D.int))) t g a bs' := by
  refine ⟨?_, ?_, by rw [List.getElem?_set_self h.alt], h.tg, h.ta, h.ga⟩
  · obtain ⟨x, y, e⟩ := h.ht; exact ⟨x, y, by rw [List.getElem?_set_ne h.ta.symm]; exact e⟩
  · obtain ⟨x, e⟩ := h.hg; exact ⟨x, by rw [List.getElem?_set_ne h.ga.symm]; exact e⟩
theorem Fr.setT (o : O) : Fr t g a S (S.set t o) := ⟨by rw [List.length_set], fun k h _ _ => by rw [List.getElem?_set_ne (Ne.symm h)]⟩
theorem Fr.setG (o : O) : Fr t g a S (S.set g o) := ⟨by rw [List.length_set], fun k _ h _ => by rw [List.getElem?_set_ne (Ne.symm h)]⟩
theorem Fr.setA (o : O) : Fr t g a S (S.set a o) := ⟨by rw [List.length_set], fun k _ _ h => by rw [List.getElem?_set_ne (Ne.symm h)]⟩
theorem bel_ints (xs : List Int) (k : Nat) : D.bels k (xs.map D.int) = true := by
  induction xs with
  | nil => rfl
  | cons x xs ih => exact (Bool.and_eq_true _ _).mpr ⟨rfl, ih⟩
/-- the end of a call that changes the tape, the counts, and adds to the store -/
theorem old_mem (h : Mem S t g a bs) (h' : Mem S' t g a bs') (he : Ext t g a S S') : oldOk S S' = true := by
  unfold oldOk
  refine List.all_eq_true.mpr fun k hk => ?_
  have hk : k < S.length := List.mem_range.mp hk
  rw [Bool.or_eq_true]
  by_cases h1 : k = t
  · right
    obtain ⟨x, y, e⟩ := h'.ht
    rw [h1, e]
    show (true && (true && (decide (g < S.length) && true))) = true
    rw [decide_eq_true h.glt]
    rfl
  · by_cases h2 : k = g
    · right
      obtain ⟨x, e⟩ := h'.hg
      rw [h2, e]
      exact bel_ints _ _
    · by_cases h3 : k = a
      · right
        rw [h3, h'.ha]
        exact bel_ints _ _
      · left
        exact decide_eq_true (he.same k hk h1 h2 h3)
theorem mem_take (h : Mem S t g a bs) (h' : Mem S' t g a bs') : Mem (S'.take S.length) t g a bs' := by
  refine ⟨?_, ?_, ?_, h.tg, h.ta, h.ga⟩
  · obtain ⟨x, y, e⟩ := h'.ht; exact ⟨x, y, by rw [List.getElem?_take_of_lt h.tlt]; exact e⟩
  · obtain ⟨x, e⟩ := h'.hg; exact ⟨x, by rw [List.getElem?_take_of_lt h.glt]; exact e⟩
  · rw [List.getElem?_take_of_lt h.alt]; exact h'.ha
theorem fr_take (he : Ext t g a S S') : Fr t g a S (S'.take S.length) := by
  refine ⟨by rw [List.length_take, Nat.min_eq_left he.le], fun k h1 h2 h3 => ?_⟩
  by_cases hk : k < S.length
  · rw [List.getElem?_take_of_lt hk, he.same k hk h1 h2 h3]
  · rw [List.getElem?_eq_none (by rw [List.length_take]; omega), List.getElem?_eq_none (by omega)]
theorem fin_mem {d : D} (h : Mem S t g a bs) (h' : Mem S' t g a bs') (he : Ext t g a S S') (hb : d.bel S.length = true) : ∃ S2, fin S (.ok d S') = .ok d S2 ∧ Mem S2 t g a bs' ∧ Fr t g a S S2 := by
  refine ⟨S'.take S.length, ?_, mem_take h h', fr_take he⟩
  unfold fin
  simp only [hb, old_mem h h' he, Bool.and_self, if_true]
theorem put_L {ds : List D} {k : Int} {j n : Nat} {v : D} (hn : S[n]? = some (.lst ds)) (hk : ixn ds.length k = some j) : setItem (.ref n) (.int k) v S = .ok () (S.set n (.lst (ds.set j v))) := by
  unfold setItem
  simp only [hn, hk]
theorem pop_L {ds : List D} {n : Nat} {x : D} (hn : S[n]? = some (.lst ds)) (hx : ds[ds.length - 1]? = some x) : meD .pop0 (.ref n) [] S = .ok x (S.set n (.lst ds.dropLast)) := by
  show (getL n S).bind _ = _
  unfold getL
  rw [hn]
  show (opt (ds[ds.length - 1]?) S).bind _ = _
  rw [hx]
  rfl
theorem isL_L {ds : List D} {n : Nat} (hn : S[n]? = some (.lst ds)) : isL (.ref n) S = .ok () S := by
  show (getL n S).bind _ = _
  unfold getL
  rw [hn]
  rfl
theorem app_L {ds : List D} {n : Nat} {x : D} (hn : S[n]? = some (.lst ds)) (hl : ds.length < mx) : meD .append (.ref n) [x] S = .ok .non (S.set n (.lst (ds ++ [x]))) := by
  show (getL n S).bind _ = _
  unfold getL
  rw [hn]
  show (if ds.length < mx then bnd (setO n (.lst (ds ++ [x]))) fun _ => pur .non else bad : M D) S = _
  rw [if_pos hl]
  rfl
end
/-- a draw's text -/
def drawT (c1 c2 c3 c4 : Int) : Ss := (.cons (.if_ (.and2 (.op .lt (.op .ix (.var 0) (.cst (.int 1))) (.cst (.int 2))) (.op .gt (.bi .len (.cons (.op .ix (.var 0) (.cst (.int 2))) .nil)) (.cst (.int 0)))) (.cons (.sub (.var 0) (.cst (.int 1)) (.me .pop0 (.op .ix (.var 0) (.cst (.int 2))) .nil)) .nil) .nil) (.cons (.if_ (.op .gt (.op .ix (.var 0) (.cst (.int 1))) (.cst (.int 1))) (.cons (.asg (.nm 2) (.op .mod (.bi .int (.cons (.op .ix (.var 0) (.cst (.int 1))) .nil)) (.var 1))) (.cons (.sub (.var 0) (.cst (.int 1)) (.op .fdiv (.op .ix (.var 0) (.cst (.int 1))) (.var 1))) (.cons (.ret (.var 2)) .nil))) .nil) (.cons (.sub (.var 0) (.cst (.int 0)) (.op .mod (.bi .int (.cons (.op .add (.op .mul (.op .ix (.var 0) (.cst (.int 0))) (.cst (.int c1))) (.cst (.int c2))) .nil)) (.cst (.int c3)))) (.cons (.ret (.op .mod (.bi .int (.cons (.op .fdiv (.op .ix (.var 0) (.cst (.int 0))) (.cst (.int c4))) .nil)) (.var 1))) .nil))))
section
variable {P : Prog} {fu n : Nat} {S : Store} {t g a : Nat} {bs : List Int}
theorem draw_ok {c1 c2 c3 c4 : Int} (hp : P.fns "_law_draw" = some ⟨2, 3, drawT c1 c2 c3 c4⟩) (hc : -(2 ^ 64) < c1 ∧ c1 < 2 ^ 64) (h3 : 0 < c3) (h4 : 0 < c4 ∧ c4.natAbs.log2 < 9000) (M0 : Mem S t g a bs) {many : Int} (hm : 0 < many) (hm2 : many.natAbs.log2 < 9000) :
    ∃ r S', callN P fu (n + 1) "_law_draw" [.ref t, .int many] S = .ok (.int r) S' ∧ (0 ≤ r ∧ r < many) ∧ Mem S' t g a bs ∧ Fr t g a S S' := by
  rw [call_eq hp rfl]
  -- the first statement
  have one : ∃ S1, evS (ctx P fu (callN P fu n)) (.if_ (.and2 (.op .lt (.op .ix (.var 0) (.cst (.int 1))) (.cst (.int 2))) (.op .gt (.bi .len (.cons (.op .ix (.var 0) (.cst (.int 2))) .nil)) (.cst (.int 0)))) (.cons (.sub (.var 0) (.cst (.int 1)) (.me .pop0 (.op .ix (.var 0) (.cst (.int 2))) .nil)) .nil) .nil) [some (.ref t), some (.int many), none] S = .nx [some (.ref t), some (.int many), none] S1 ∧ Mem S1 t g a bs ∧ Fr t g a S S1 := by
    obtain ⟨st, dg, ht⟩ := M0.ht
    obtain ⟨gs, hg⟩ := M0.hg
    have i1 : opD .ix (.ref t) (.int 1) S = .ok (.int dg) S := o_ixL ht rfl
    have i2 : opD .ix (.ref t) (.int 2) S = .ok (.ref g) S := o_ixL ht rfl
    have il : biD .len [.ref g] S = .ok (.int (((gs.map D.int).length : Nat) : Int)) S := bi_lenL hg
    by_cases hd : dg < 2
    · by_cases hl : (0 : Int) < (((gs.map D.int).length : Nat) : Int)
      · obtain ⟨x, hx⟩ : ∃ x : Int, gs[gs.length - 1]? = some x := ⟨_, List.getElem?_eq_getElem (by rw [List.length_map] at hl; omega)⟩
        have hx2 : (gs.map D.int)[(gs.map D.int).length - 1]? = some (.int x) := by rw [List.length_map, List.getElem?_map, hx]; rfl
        have ip := pop_L hg hx2
        have hdl : (gs.map D.int).dropLast = gs.dropLast.map D.int := by rw [List.map_dropLast]
        rw [hdl] at ip
        have M1 := M0.setG gs.dropLast
        have t1 : (S.set g (.lst (gs.dropLast.map D.int)))[t]? = some (.lst [.int st, .int dg, .ref g]) := by rw [List.getElem?_set_ne M0.tg.symm]; exact ht
        have is := put_L (v := .int x) (k := 1) (j := 1) t1 rfl
        refine ⟨_, ?_, M1.setT st x, (Fr.setG _).trans (Fr.setT _)⟩
        simp only [i1, i2, il, isL_L hg, ip, is, decide_eq_true hd, decide_eq_true hl, eE_me, eSs_cons, eS_if, eS_asg, eS_sub, eS_exp, eS_ret, eS_for, eS_rais, eS_brk, eS_cont, eS_pass, ss_nil', eT_or, eT_and, eT_no, eT_isi, eT_var, eT_cst, eT_op, eT_chn, eT_call, eT_bi, eE_isi, eE_var, eE_op, eE_glo, eE_chn, eE_cst, eE_bi, eE_bif, eE_tup, eE_fre, eE_dic0, eE_neg, eE_no, eE_and, eE_or, eE_ite, eE_call, eE_me, eE_sl, eE_rev, eO_non, eO_som, part_int, eEs_cons, eEs_nil, eF_lst, eF_list, eF_lc, eI_e, eI_f, eI_rng1, eI_enu, eI_z2, eI_z3, src_tup, src_rol, enu_tup, zip_tup, zip_tup3, its_items, List.getElem?_cons_zero, List.getElem?_cons_succ, List.set_cons_zero, List.set_cons_succ, rdVar_some, rb_ok, rb_exn, any_str, any_tup, any_int, any_bl, any_non, tr_bl, pur_at, alloc_at, bnd_at, o_add, o_sub, o_lt, o_le, o_gt, o_ge, o_eqI, o_neI, o_eqS, o_isN, chn_t, chn_f, lf_ok, lf_exn, sq_nx, sq_ret, sq_exn, ctx_glo, ctx_call, ctx_ini, opt_some, o_notinS, o_inS, bi_lenT, bi_intI, bi_intB, bi_abs, bi_max, bi_min, bif_tup, bi_tupT, neg_int', sl_tup, nxO_some, putT_nm, putT_tup, putTs_nil, putTs_cons, Option.bind_some, raiO_1, raiO_2, ix_0, ix_1, beq_self_eq_true, Bool.not_true, Bool.not_false, Bool.false_eq_true, ↓reduceIte, Bool.true_and, Bool.false_and, Bool.and_false, Bool.and_true, decide_true, decide_false, wipe_nil, wipe_cons]
      · refine ⟨S, ?_, M0, Fr.refl⟩
        simp only [i1, i2, il, decide_eq_true hd, decide_eq_false hl, eSs_cons, eS_if, eS_asg, eS_sub, eS_exp, eS_ret, eS_for, eS_rais, eS_brk, eS_cont, eS_pass, ss_nil', eT_or, eT_and, eT_no, eT_isi, eT_var, eT_cst, eT_op, eT_chn, eT_call, eT_bi, eE_isi, eE_var, eE_op, eE_glo, eE_chn, eE_cst, eE_bi, eE_bif, eE_tup, eE_fre, eE_dic0, eE_neg, eE_no, eE_and, eE_or, eE_ite, eE_call, eE_me, eE_sl, eE_rev, eO_non, eO_som, part_int, eEs_cons, eEs_nil, eF_lst, eF_list, eF_lc, eI_e, eI_f, eI_rng1, eI_enu, eI_z2, eI_z3, src_tup, src_rol, enu_tup, zip_tup, zip_tup3, its_items, List.getElem?_cons_zero, List.getElem?_cons_succ, List.set_cons_zero, List.set_cons_succ, rdVar_some, rb_ok, rb_exn, any_str, any_tup, any_int, any_bl, any_non, tr_bl, pur_at, alloc_at, bnd_at, o_add, o_sub, o_lt, o_le, o_gt, o_ge, o_eqI, o_neI, o_eqS, o_isN, chn_t, chn_f, lf_ok, lf_exn, sq_nx, sq_ret, sq_exn, ctx_glo, ctx_call, ctx_ini, opt_some, o_notinS, o_inS, bi_lenT, bi_intI, bi_intB, bi_abs, bi_max, bi_min, bif_tup, bi_tupT, neg_int', sl_tup, nxO_some, putT_nm, putT_tup, putTs_nil, putTs_cons, Option.bind_some, raiO_1, raiO_2, ix_0, ix_1, beq_self_eq_true, Bool.not_true, Bool.not_false, Bool.false_eq_true, ↓reduceIte, Bool.true_and, Bool.false_and, Bool.and_false, Bool.and_true, decide_true, decide_false, wipe_nil, wipe_cons]
    · refine ⟨S, ?_, M0, Fr.refl⟩
      simp only [i1, decide_eq_false hd, eSs_cons, eS_if, eS_asg, eS_sub, eS_exp, eS_ret, eS_for, eS_rais, eS_brk, eS_cont, eS_pass, ss_nil', eT_or, eT_and, eT_no, eT_isi, eT_var, eT_cst, eT_op, eT_chn, eT_call, eT_bi, eE_isi, eE_var, eE_op, eE_glo, eE_chn, eE_cst, eE_bi, eE_bif, eE_tup, eE_fre, eE_dic0, eE_neg, eE_no, eE_and, eE_or, eE_ite, eE_call, eE_me, eE_sl, eE_rev, eO_non, eO_som, part_int, eEs_cons, eEs_nil, eF_lst, eF_list, eF_lc, eI_e, eI_f, eI_rng1, eI_enu, eI_z2, eI_z3, src_tup, src_rol, enu_tup, zip_tup, zip_tup3, its_items, List.getElem?_cons_zero, List.getElem?_cons_succ, List.set_cons_zero, List.set_cons_succ, rdVar_some, rb_ok, rb_exn, any_str, any_tup, any_int, any_bl, any_non, tr_bl, pur_at, alloc_at, bnd_at, o_add, o_sub, o_lt, o_le, o_gt, o_ge, o_eqI, o_neI, o_eqS, o_isN, chn_t, chn_f, lf_ok, lf_exn, sq_nx, sq_ret, sq_exn, ctx_glo, ctx_call, ctx_ini, opt_some, o_notinS, o_inS, bi_lenT, bi_intI, bi_intB, bi_abs, bi_max, bi_min, bif_tup, bi_tupT, neg_int', sl_tup, nxO_some, putT_nm, putT_tup, putTs_nil, putTs_cons, Option.bind_some, raiO_1, raiO_2, ix_0, ix_1, beq_self_eq_true, Bool.not_true, Bool.not_false, Bool.false_eq_true, ↓reduceIte, Bool.true_and, Bool.false_and, Bool.and_false, Bool.and_true, decide_true, decide_false, wipe_nil, wipe_cons]
  obtain ⟨S1, e1, M1, F1⟩ := one
  have two : ∃ r S2, evSs (ctx P fu (callN P fu n)) (drawT c1 c2 c3 c4) [some (.ref t), some (.int many), none] S = .ret (.int r) S2 ∧ (0 ≤ r ∧ r < many) ∧ Mem S2 t g a bs ∧ Fr t g a S S2 := by
    obtain ⟨st, dg, ht⟩ := M1.ht
    have i1 : opD .ix (.ref t) (.int 1) S1 = .ok (.int dg) S1 := o_ixL ht rfl
    have i0 : opD .ix (.ref t) (.int 0) S1 = .ok (.int st) S1 := o_ixL ht rfl
    by_cases hd : 1 < dg
    · refine ⟨dg % many, _, ?_, ⟨Int.emod_nonneg _ (by omega), Int.emod_lt_of_pos _ hm⟩, M1.setT st (dg / many), F1.trans (Fr.setT _)⟩
      have is := put_L (v := .int (dg / many)) (k := 1) (j := 1) ht rfl
      unfold drawT
      rw [ss_nx e1]
      simp only [i1, decide_eq_true hd, o_mod hm, o_fdiv hm hm2, is, eSs_cons, eS_if, eS_asg, eS_sub, eS_exp, eS_ret, eS_for, eS_rais, eS_brk, eS_cont, eS_pass, ss_nil', eT_or, eT_and, eT_no, eT_isi, eT_var, eT_cst, eT_op, eT_chn, eT_call, eT_bi, eE_isi, eE_var, eE_op, eE_glo, eE_chn, eE_cst, eE_bi, eE_bif, eE_tup, eE_fre, eE_dic0, eE_neg, eE_no, eE_and, eE_or, eE_ite, eE_call, eE_me, eE_sl, eE_rev, eO_non, eO_som, part_int, eEs_cons, eEs_nil, eF_lst, eF_list, eF_lc, eI_e, eI_f, eI_rng1, eI_enu, eI_z2, eI_z3, src_tup, src_rol, enu_tup, zip_tup, zip_tup3, its_items, List.getElem?_cons_zero, List.getElem?_cons_succ, List.set_cons_zero, List.set_cons_succ, rdVar_some, rb_ok, rb_exn, any_str, any_tup, any_int, any_bl, any_non, tr_bl, pur_at, alloc_at, bnd_at, o_add, o_sub, o_lt, o_le, o_gt, o_ge, o_eqI, o_neI, o_eqS, o_isN, chn_t, chn_f, lf_ok, lf_exn, sq_nx, sq_ret, sq_exn, ctx_glo, ctx_call, ctx_ini, opt_some, o_notinS, o_inS, bi_lenT, bi_intI, bi_intB, bi_abs, bi_max, bi_min, bif_tup, bi_tupT, neg_int', sl_tup, nxO_some, putT_nm, putT_tup, putTs_nil, putTs_cons, Option.bind_some, raiO_1, raiO_2, ix_0, ix_1, beq_self_eq_true, Bool.not_true, Bool.not_false, Bool.false_eq_true, ↓reduceIte, Bool.true_and, Bool.false_and, Bool.and_false, Bool.and_true, decide_true, decide_false, wipe_nil, wipe_cons]
    · have is := put_L (v := .int ((st * c1 + c2) % c3)) (k := 0) (j := 0) ht rfl
      have M2 := M1.setT ((st * c1 + c2) % c3) dg
      have hq : (S1.set t (.lst [.int ((st * c1 + c2) % c3), .int dg, .ref g]))[t]? = some (.lst [.int ((st * c1 + c2) % c3), .int dg, .ref g]) := by rw [List.getElem?_set_self M1.tlt]
      have i02 : opD .ix (.ref t) (.int 0) (S1.set t (.lst [.int ((st * c1 + c2) % c3), .int dg, .ref g])) = .ok (.int ((st * c1 + c2) % c3)) _ := o_ixL hq rfl
      refine ⟨((st * c1 + c2) % c3) / c4 % many, _, ?_, ⟨Int.emod_nonneg _ (by omega), Int.emod_lt_of_pos _ hm⟩, M2, F1.trans (Fr.setT _)⟩
      unfold drawT
      rw [ss_nx e1]
      simp only [i1, i0, decide_eq_false hd, o_mul hc, o_mod h3, is, List.set_cons_zero, i02, o_fdiv h4.1 h4.2, o_mod hm, eSs_cons, eS_if, eS_asg, eS_sub, eS_exp, eS_ret, eS_for, eS_rais, eS_brk, eS_cont, eS_pass, ss_nil', eT_or, eT_and, eT_no, eT_isi, eT_var, eT_cst, eT_op, eT_chn, eT_call, eT_bi, eE_isi, eE_var, eE_op, eE_glo, eE_chn, eE_cst, eE_bi, eE_bif, eE_tup, eE_fre, eE_dic0, eE_neg, eE_no, eE_and, eE_or, eE_ite, eE_call, eE_me, eE_sl, eE_rev, eO_non, eO_som, part_int, eEs_cons, eEs_nil, eF_lst, eF_list, eF_lc, eI_e, eI_f, eI_rng1, eI_enu, eI_z2, eI_z3, src_tup, src_rol, enu_tup, zip_tup, zip_tup3, its_items, List.getElem?_cons_zero, List.getElem?_cons_succ, List.set_cons_zero, List.set_cons_succ, rdVar_some, rb_ok, rb_exn, any_str, any_tup, any_int, any_bl, any_non, tr_bl, pur_at, alloc_at, bnd_at, o_add, o_sub, o_lt, o_le, o_gt, o_ge, o_eqI, o_neI, o_eqS, o_isN, chn_t, chn_f, lf_ok, lf_exn, sq_nx, sq_ret, sq_exn, ctx_glo, ctx_call, ctx_ini, opt_some, o_notinS, o_inS, bi_lenT, bi_intI, bi_intB, bi_abs, bi_max, bi_min, bif_tup, bi_tupT, neg_int', sl_tup, nxO_some, putT_nm, putT_tup, putTs_nil, putTs_cons, Option.bind_some, raiO_1, raiO_2, ix_0, ix_1, beq_self_eq_true, Bool.not_true, Bool.not_false, Bool.false_eq_true, ↓reduceIte, Bool.true_and, Bool.false_and, Bool.and_false, Bool.and_true, decide_true, decide_false, wipe_nil, wipe_cons]
  obtain ⟨r, S2, e2, hr, M2, F2⟩ := two
  obtain ⟨S3, e3, M3, F3⟩ := fin_mem (d := .int r) M0 M2 F2.ext rfl
  refine ⟨r, S3, ?_, hr, M3, F3⟩
  show fin S (endR (evSs (ctx P fu (callN P fu n)) (drawT c1 c2 c3 c4) [some (.ref t), some (.int many), none] S)) = _
  rw [e2]
  exact e3
end
end Mi

set_option Elab.async false
set_option linter.all false
set_option maxRecDepth 100000
set_option maxHeartbeats 4000000
/-! K03: the trees; what is asked of a table. -/
namespace K03
open Mi
def b__law_tape : Ss := (.cons (.asg (.nm 1) (.cst (.int 77023))) (.cons (.asg (.nm 2) (.fre (.lst .nil))) (.cons (.for_ (.nm 3) (.e (.var 0)) (.cons (.asg (.nm 1) (.op .mod (.bi .int (.cons (.op .add (.op .add (.op .mul (.var 1) (.cst (.int 1181783497276652981))) (.op .mul (.var 3) (.cst (.int 16807)))) (.cst (.int 7))) .nil)) (.cst (.int 2305843009213693951)))) (.cons (.if_ (.op .ge (.bi .abs (.cons (.var 3) .nil)) (.op .pow (.cst (.int 10)) (.cst (.int 18)))) (.cons (.exp (.me .append (.var 2) (.cons (.bi .abs (.cons (.var 3) .nil)) .nil))) .nil) .nil) .nil))) (.cons (.ret (.fre (.lst (.cons (.var 1) (.cons (.cst (.int 0)) (.cons (.rev (.var 2)) .nil)))))) .nil))))
def b__law_draw : Ss := (.cons (.if_ (.and2 (.op .lt (.op .ix (.var 0) (.cst (.int 1))) (.cst (.int 2))) (.op .gt (.bi .len (.cons (.op .ix (.var 0) (.cst (.int 2))) .nil)) (.cst (.int 0)))) (.cons (.sub (.var 0) (.cst (.int 1)) (.me .pop0 (.op .ix (.var 0) (.cst (.int 2))) .nil)) .nil) .nil) (.cons (.if_ (.op .gt (.op .ix (.var 0) (.cst (.int 1))) (.cst (.int 1))) (.cons (.asg (.nm 2) (.op .mod (.bi .int (.cons (.op .ix (.var 0) (.cst (.int 1))) .nil)) (.var 1))) (.cons (.sub (.var 0) (.cst (.int 1)) (.op .fdiv (.op .ix (.var 0) (.cst (.int 1))) (.var 1))) (.cons (.ret (.var 2)) .nil))) .nil) (.cons (.sub (.var 0) (.cst (.int 0)) (.op .mod (.bi .int (.cons (.op .add (.op .mul (.op .ix (.var 0) (.cst (.int 0))) (.cst (.int 7664345821815920749))) (.cst (.int 21))) .nil)) (.cst (.int 2305843009213693951)))) (.cons (.ret (.op .mod (.bi .int (.cons (.op .fdiv (.op .ix (.var 0) (.cst (.int 0))) (.cst (.int 16381))) .nil)) (.var 1))) .nil))))
def b__law_upto : Ss := (.cons (.asg (.nm 2) (.call "_law_draw" (.cons (.var 0) (.cons (.cst (.int 4)) .nil)))) (.cons (.if_ (.or2 (.op .eq (.var 2) (.cst (.int 0))) (.op .le (.var 1) (.cst (.int 0)))) (.cons (.ret (.cst (.int 0))) .nil) .nil) (.cons (.if_ (.op .eq (.var 2) (.cst (.int 1))) (.cons (.ret (.var 1)) .nil) .nil) (.cons (.if_ (.op .eq (.var 2) (.cst (.int 2))) (.cons (.ret (.bi .min2 (.cons (.var 1) (.cons (.op .add (.cst (.int 1)) (.call "_law_draw" (.cons (.var 0) (.cons (.cst (.int 2)) .nil)))) .nil)))) .nil) .nil) (.cons (.ret (.call "_law_draw" (.cons (.var 0) (.cons (.op .add (.var 1) (.cst (.int 1))) .nil)))) .nil)))))
def b__law_kept : Ss := (.cons (.ret (.tup (.cons (.cst (.str [111, 102])) (.cons (.cst (.str [105, 110])) (.cons (.cst (.str [109, 111, 115, 116])) (.cons (.cst (.str [97, 108, 108])) (.cons (.cst (.str [111, 110, 101])) (.cons (.cst (.str [104, 101, 97, 118, 121])) (.cons (.cst (.str [108, 101, 97, 115, 116])) (.cons (.cst (.str [115, 112, 97, 114, 101])) (.cons (.cst (.str [109, 105, 114, 114, 111, 114])) (.cons (.cst (.str [110, 111, 98, 111, 100, 121])) (.cons (.cst (.str [109, 97, 110, 110, 101, 114])) (.cons (.cst (.str [114, 117, 108, 101])) (.cons (.cst (.str [108, 111, 116])) (.cons (.cst (.str [116, 114, 117, 115, 116])) (.cons (.cst (.str [99, 104, 97, 114, 116, 101, 114])) (.cons (.cst (.str [114, 111, 119])) (.cons (.cst (.str [97, 115, 107])) (.cons (.cst (.str [101, 99, 104, 111])) (.cons (.cst (.str [118, 111, 116, 101])) (.cons (.cst (.str [108, 111, 111, 107])) (.cons (.cst (.str [104, 111, 108, 100])) (.cons (.cst (.str [99, 104, 97, 110, 103, 101])) (.cons (.cst (.str [116, 111])) .nil))))))))))))))))))))))))) .nil)
def b__law_word : Ss := (.cons (.asg (.nm 2) (.op .ix (.cst (.str [97, 98, 99, 100, 101, 102, 103, 104, 105, 106, 107, 108, 109, 110, 111, 112, 113, 114, 115, 116, 117, 118, 119, 120, 121, 122])) (.call "_law_draw" (.cons (.var 0) (.cons (.cst (.int 26)) .nil))))) (.cons (.for_ (.nm 3) (.rng1 (.call "_law_draw" (.cons (.var 0) (.cons (.cst (.int 8)) .nil)))) (.cons (.asg (.nm 2) (.op .add (.var 2) (.op .ix (.cst (.str [97, 98, 99, 100, 101, 102, 103, 104, 105, 106, 107, 108, 109, 110, 111, 112, 113, 114, 115, 116, 117, 118, 119, 120, 121, 122, 48, 49, 50, 51, 52, 53, 54, 55, 56, 57])) (.call "_law_draw" (.cons (.var 0) (.cons (.cst (.int 36)) .nil)))))) .nil)) (.cons (.if_ (.or2 (.op .in_ (.var 2) (.call "_law_kept" .nil)) (.op .in_ (.var 2) (.var 1))) (.cons (.for_ (.nm 3) (.rng1 (.cst (.int 10))) (.cons (.asg (.nm 4) (.op .add (.sl (.var 2) .non (.som (.cst (.int 6)))) (.bi .str (.cons (.var 3) .nil)))) (.cons (.if_ (.op .notin (.var 4) (.var 1)) (.cons (.ret (.var 4)) .nil) .nil) .nil))) .nil) .nil) (.cons (.ret (.var 2)) .nil))))
def b__law_size : Ss := (.cons (.asg (.nm 1) (.call "_law_draw" (.cons (.var 0) (.cons (.cst (.int 6)) .nil)))) (.cons (.if_ (.op .eq (.var 1) (.cst (.int 0))) (.cons (.ret (.cst (.int 1))) .nil) .nil) (.cons (.if_ (.op .lt (.var 1) (.cst (.int 4))) (.cons (.ret (.op .add (.cst (.int 1)) (.call "_law_draw" (.cons (.var 0) (.cons (.cst (.int 6)) .nil))))) .nil) .nil) (.cons (.if_ (.op .eq (.var 1) (.cst (.int 4))) (.cons (.ret (.op .sub (.op .pow (.cst (.int 10)) (.cst (.int 12))) (.call "_law_draw" (.cons (.var 0) (.cons (.cst (.int 3)) .nil))))) .nil) .nil) (.cons (.ret (.op .add (.cst (.int 1)) (.call "_law_draw" (.cons (.var 0) (.cons (.op .pow (.cst (.int 10)) (.cst (.int 12))) .nil))))) .nil)))))
def b__law_lots : Ss := (.cons (.asg (.nm 2) (.fre (.lst .nil))) (.cons (.asg (.nm 3) (.fre (.lst .nil))) (.cons (.for_ (.nm 4) (.rng1 (.var 1)) (.cons (.asg (.nm 5) (.call "_law_word" (.cons (.var 0) (.cons (.var 3) .nil)))) (.cons (.exp (.me .append (.var 3) (.cons (.var 5) .nil))) (.cons (.exp (.me .append (.var 2) (.cons (.tup (.cons (.var 5) (.cons (.call "_law_size" (.cons (.var 0) .nil)) .nil))) .nil))) .nil)))) (.cons (.ret (.bi .tuple (.cons (.var 2) .nil))) .nil))))
def b__law_with : Ss := (.cons (.ret (.op .add (.op .add (.sl (.var 0) .non (.som (.var 1))) (.tup (.cons (.var 2) .nil))) (.sl (.var 0) (.som (.op .add (.var 1) (.cst (.int 1)))) .non))) .nil)
def b__law_same : Ss := (.cons (.if_ (.op .is_ (.var 1) (.cst .non)) (.cons (.ret (.op .is_ (.var 0) (.cst .non))) .nil) .nil) (.cons (.if_ (.isi (.var 1) [.bool]) (.cons (.ret (.and2 (.isi (.var 0) [.bool]) (.op .eq (.var 0) (.var 1)))) .nil) .nil) (.cons (.if_ (.isi (.var 1) [.int]) (.cons (.ret (.and2 (.isi (.var 0) [.int]) (.and2 (.no (.isi (.var 0) [.bool])) (.op .eq (.var 0) (.var 1))))) .nil) .nil) (.cons (.if_ (.isi (.var 1) [.str]) (.cons (.ret (.and2 (.isi (.var 0) [.str]) (.op .eq (.var 0) (.var 1)))) .nil) .nil) (.cons (.if_ (.or2 (.and2 (.isi (.var 1) [.tuple]) (.no (.isi (.var 0) [.tuple]))) (.and2 (.isi (.var 1) [.list]) (.no (.isi (.var 0) [.list])))) (.cons (.ret (.cst (.bl false))) .nil) .nil) (.cons (.if_ (.op .ne (.bi .len (.cons (.var 0) .nil)) (.bi .len (.cons (.var 1) .nil))) (.cons (.ret (.cst (.bl false))) .nil) .nil) (.cons (.for_ (.nm 2) (.rng1 (.bi .len (.cons (.var 1) .nil))) (.cons (.if_ (.no (.call "_law_same" (.cons (.op .ix (.var 0) (.var 2)) (.cons (.op .ix (.var 1) (.var 2)) .nil)))) (.cons (.ret (.cst (.bl false))) .nil) .nil) .nil)) (.cons (.ret (.cst (.bl true))) .nil))))))))
def b__law_told : Ss := (.cons (.try_ (.cons (.if_ (.op .eq (.var 0) (.cst (.str [108, 101, 97, 115, 116]))) (.cons (.asg (.nm 6) (.call "least_common" (.cons (.var 1) (.cons (.var 2) (.cons (.var 3) .nil))))) .nil) (.cons (.if_ (.op .eq (.var 0) (.cst (.str [98, 101, 108, 111, 119]))) (.cons (.asg (.nm 6) (.call "below" (.cons (.var 1) (.cons (.var 2) (.cons (.var 3) .nil))))) .nil) (.cons (.if_ (.op .eq (.var 0) (.cst (.str [111, 117, 116, 115, 105, 100, 101]))) (.cons (.asg (.nm 6) (.call "outside" (.cons (.var 1) (.cons (.var 2) .nil)))) .nil) (.cons (.if_ (.op .eq (.var 0) (.cst (.str [102, 105, 114, 115, 116]))) (.cons (.asg (.nm 6) (.call "first_houses" (.cons (.var 1) (.cons (.var 2) .nil)))) .nil) (.cons (.if_ (.op .eq (.var 0) (.cst (.str [101, 118, 101, 114, 121, 111, 110, 101]))) (.cons (.asg (.nm 6) (.call "everyone" (.cons (.var 1) .nil))) .nil) (.cons (.asg (.nm 6) (.call "nobody" (.cons (.var 1) .nil))) .nil)) .nil)) .nil)) .nil)) .nil)) .nil) (.cons "BadLots" (some 4) (.cons (.ret (.tup (.cons (.cst (.str [108, 111, 116, 115])) (.cons (.errA 4 "at") (.cons (.errA 4 "word") .nil))))) .nil) (.cons "BadCounts" (some 5) (.cons (.ret (.tup (.cons (.cst (.str [99, 111, 117, 110, 116, 115])) (.cons (.errA 5 "at") .nil)))) .nil) (.cons "AssentError" none (.cons (.ret (.tup (.cons (.cst (.str [111, 116, 104, 101, 114])) .nil))) .nil) .nil)))) (.cons (.ret (.tup (.cons (.cst (.str [116, 111, 108, 100])) (.cons (.var 6) .nil)))) .nil))
def b__law_sizes : Ss := (.cons (.ret (.bif .tuple (.lc [1] (.op .ix (.var 1) (.cst (.int 1))) (.nm 1) (.e (.var 0)) .nil))) .nil)
def b__law_part : Ss := (.cons (.ret (.bif .tuple (.lc [3] (.bi .max2 (.cons (.cst (.int 0)) (.cons (.op .sub (.op .add (.op .ix (.var 1) (.var 3)) (.op .ix (.var 2) (.var 3))) (.op .ix (.op .ix (.var 0) (.var 3)) (.cst (.int 1)))) .nil))) (.nm 3) (.rng1 (.bi .len (.cons (.var 0) .nil))) .nil))) .nil)
def b__law_is_below : Ss := (.cons (.for_ (.nm 2) (.rng1 (.bi .len (.cons (.var 0) .nil))) (.cons (.if_ (.op .gt (.op .ix (.var 0) (.var 2)) (.op .ix (.var 1) (.var 2))) (.cons (.ret (.cst (.bl false))) .nil) .nil) .nil)) (.cons (.ret (.cst (.bl true))) .nil))
def b__law_bits : Ss := (.cons (.asg (.nm 1) (.cst (.int 0))) (.cons (.for_ (.nm 2) (.e (.tup (.cons (.cst (.int 1)) (.cons (.cst (.int 2)) (.cons (.cst (.int 4)) (.cons (.cst (.int 8)) (.cons (.cst (.int 16)) (.cons (.cst (.int 32)) .nil)))))))) (.cons (.if_ (.op .gt (.op .band (.var 0) (.var 2)) (.cst (.int 0))) (.cons (.asg (.nm 1) (.op .add (.var 1) (.cst (.int 1)))) .nil) .nil) .nil)) (.cons (.ret (.var 1)) .nil)))
def b__law_subsets : Ss := (.cons (.ret (.fre (.lc [2] (.var 2) (.nm 2) (.rng1 (.op .ix (.tup (.cons (.cst (.int 1)) (.cons (.cst (.int 2)) (.cons (.cst (.int 4)) (.cons (.cst (.int 8)) (.cons (.cst (.int 16)) (.cons (.cst (.int 32)) .nil))))))) (.var 0))) (.cons (.op .eq (.call "_law_bits" (.cons (.var 2) .nil)) (.var 1)) .nil)))) .nil)
def b__law_fewest : Ss := (.cons (.asg (.nm 3) (.var 0)) (.cons (.for_ (.nm 4) (.e (.call "_law_subsets" (.cons (.var 0) (.cons (.var 1) .nil)))) (.cons (.for_ (.nm 5) (.e (.call "_law_subsets" (.cons (.var 0) (.cons (.var 2) .nil)))) (.cons (.asg (.nm 3) (.bi .min2 (.cons (.var 3) (.cons (.call "_law_bits" (.cons (.op .band (.var 4) (.var 5)) .nil)) .nil)))) .nil)) .nil)) (.cons (.ret (.var 3)) .nil)))
def b__law_fits : Ss := (.cons (.for_ (.nm 4) (.e (.call "_law_subsets" (.cons (.var 0) (.cons (.var 1) .nil)))) (.cons (.for_ (.nm 5) (.e (.call "_law_subsets" (.cons (.var 0) (.cons (.var 2) .nil)))) (.cons (.if_ (.op .eq (.op .band (.op .band (.var 4) (.var 5)) (.op .sub (.cst (.int 31)) (.var 3))) (.cst (.int 0))) (.cons (.ret (.cst (.bl true))) .nil) .nil) .nil)) .nil)) (.cons (.ret (.cst (.bl false))) .nil))
def b__law_ask_below : Ss := (.cons (.asg (.nm 4) (.call "_law_is_below" (.cons (.var 2) (.cons (.var 3) .nil)))) (.cons (.sub (.var 0) (.bi .int (.cons (.var 4) .nil)) (.op .add (.op .ix (.var 0) (.bi .int (.cons (.var 4) .nil))) (.cst (.int 1)))) (.cons (.ret (.call "_law_same" (.cons (.call "_law_told" (.cons (.cst (.str [98, 101, 108, 111, 119])) (.cons (.var 1) (.cons (.var 2) (.cons (.var 3) .nil))))) (.cons (.tup (.cons (.cst (.str [116, 111, 108, 100])) (.cons (.var 4) .nil))) .nil)))) .nil)))
def b__law_ask_least : Ss := (.cons (.asg (.nm 3) (.call "_law_part" (.cons (.var 0) (.cons (.var 1) (.cons (.var 2) .nil))))) (.cons (.if_ (.no (.call "_law_same" (.cons (.call "_law_told" (.cons (.cst (.str [108, 101, 97, 115, 116])) (.cons (.var 0) (.cons (.var 1) (.cons (.var 2) .nil))))) (.cons (.tup (.cons (.cst (.str [116, 111, 108, 100])) (.cons (.var 3) .nil))) .nil)))) (.cons (.ret (.cst (.bl false))) .nil) .nil) (.cons (.ret (.call "_law_same" (.cons (.call "_law_told" (.cons (.cst (.str [108, 101, 97, 115, 116])) (.cons (.var 0) (.cons (.var 2) (.cons (.var 1) .nil))))) (.cons (.tup (.cons (.cst (.str [116, 111, 108, 100])) (.cons (.var 3) .nil))) .nil)))) .nil)))
def b__law_second : Ss := (.cons (.asg (.nm 3) (.call "_law_draw" (.cons (.var 0) (.cons (.cst (.int 8)) .nil)))) (.cons (.asg (.nm 4) (.tup (.cons (.op .sub (.var 1) (.var 2)) (.cons (.op .add (.op .sub (.var 1) (.var 2)) (.cst (.int 1))) (.cons (.op .sub (.op .sub (.var 1) (.var 2)) (.cst (.int 1))) (.cons (.var 2) (.cons (.op .add (.var 2) (.cst (.int 1))) (.cons (.op .sub (.var 2) (.cst (.int 1))) .nil)))))))) (.cons (.if_ (.op .lt (.var 3) (.cst (.int 6))) (.cons (.ret (.bi .min2 (.cons (.var 1) (.cons (.bi .max2 (.cons (.cst (.int 0)) (.cons (.op .ix (.var 4) (.var 3)) .nil))) .nil)))) .nil) .nil) (.cons (.ret (.call "_law_upto" (.cons (.var 0) (.cons (.var 1) .nil)))) .nil))))
def b__law_pair : Ss := (.cons (.asg (.nm 5) (.call "_law_sizes" (.cons (.var 2) .nil))) (.cons (.asg (.nm 6) (.bif .tuple (.lc [12] (.cst (.int 0)) (.nm 12) (.e (.var 2)) .nil))) (.cons (.asg (.nm 7) (.bif .tuple (.lc [8] (.op .sub (.op .ix (.var 5) (.var 8)) (.op .ix (.var 3) (.var 8))) (.nm 8) (.rng1 (.bi .len (.cons (.var 2) .nil))) .nil))) (.cons (.asg (.nm 8) (.call "_law_draw" (.cons (.var 0) (.cons (.bi .len (.cons (.var 2) .nil)) .nil)))) (.cons (.asg (.nm 9) (.call "_law_with" (.cons (.var 3) (.cons (.var 8) (.cons (.bi .min2 (.cons (.op .ix (.var 5) (.var 8)) (.cons (.op .add (.op .ix (.var 3) (.var 8)) (.cst (.int 1))) .nil))) .nil))))) (.cons (.asg (.nm 10) (.call "_law_with" (.cons (.var 3) (.cons (.var 8) (.cons (.bi .max2 (.cons (.cst (.int 0)) (.cons (.op .sub (.op .ix (.var 3) (.var 8)) (.cst (.int 1))) .nil))) .nil))))) (.cons (.for_ (.nm 11) (.e (.tup (.cons (.tup (.cons (.var 3) (.cons (.var 4) .nil))) (.cons (.tup (.cons (.var 3) (.cons (.var 3) .nil))) (.cons (.tup (.cons (.var 3) (.cons (.var 7) .nil))) (.cons (.tup (.cons (.var 3) (.cons (.var 5) .nil))) (.cons (.tup (.cons (.var 3) (.cons (.var 6) .nil))) (.cons (.tup (.cons (.var 9) (.cons (.var 4) .nil))) (.cons (.tup (.cons (.var 10) (.cons (.var 4) .nil))) (.cons (.tup (.cons (.var 7) (.cons (.var 9) .nil))) .nil)))))))))) (.cons (.if_ (.no (.call "_law_ask_least" (.cons (.var 2) (.cons (.op .ix (.var 11) (.cst (.int 0))) (.cons (.op .ix (.var 11) (.cst (.int 1))) .nil))))) (.cons (.ret (.cst (.bl false))) .nil) .nil) .nil)) (.cons (.for_ (.nm 11) (.e (.tup (.cons (.tup (.cons (.var 3) (.cons (.var 4) .nil))) (.cons (.tup (.cons (.var 4) (.cons (.var 3) .nil))) (.cons (.tup (.cons (.var 3) (.cons (.var 3) .nil))) (.cons (.tup (.cons (.var 3) (.cons (.var 9) .nil))) (.cons (.tup (.cons (.var 9) (.cons (.var 3) .nil))) (.cons (.tup (.cons (.var 3) (.cons (.var 10) .nil))) (.cons (.tup (.cons (.var 10) (.cons (.var 3) .nil))) (.cons (.tup (.cons (.var 6) (.cons (.var 3) .nil))) (.cons (.tup (.cons (.var 3) (.cons (.var 5) .nil))) (.cons (.tup (.cons (.var 5) (.cons (.var 6) .nil))) (.cons (.tup (.cons (.var 3) (.cons (.var 6) .nil))) (.cons (.tup (.cons (.var 5) (.cons (.var 3) .nil))) (.cons (.tup (.cons (.call "_law_part" (.cons (.var 2) (.cons (.var 3) (.cons (.var 4) .nil)))) (.cons (.var 3) .nil))) .nil))))))))))))))) (.cons (.if_ (.no (.call "_law_ask_below" (.cons (.var 1) (.cons (.var 2) (.cons (.op .ix (.var 11) (.cst (.int 0))) (.cons (.op .ix (.var 11) (.cst (.int 1))) .nil)))))) (.cons (.ret (.cst (.bl false))) .nil) .nil) .nil)) (.cons (.for_ (.nm 11) (.e (.tup (.cons (.tup (.cons (.var 3) (.cons (.var 7) .nil))) (.cons (.tup (.cons (.var 7) (.cons (.var 3) .nil))) (.cons (.tup (.cons (.var 5) (.cons (.var 6) .nil))) (.cons (.tup (.cons (.var 6) (.cons (.var 5) .nil))) .nil)))))) (.cons (.if_ (.no (.call "_law_same" (.cons (.call "_law_told" (.cons (.cst (.str [111, 117, 116, 115, 105, 100, 101])) (.cons (.var 2) (.cons (.op .ix (.var 11) (.cst (.int 0))) (.cons (.cst (.int 0)) .nil))))) (.cons (.tup (.cons (.cst (.str [116, 111, 108, 100])) (.cons (.op .ix (.var 11) (.cst (.int 1))) .nil))) .nil)))) (.cons (.ret (.cst (.bl false))) .nil) .nil) .nil)) (.cons (.if_ (.no (.call "_law_same" (.cons (.call "_law_told" (.cons (.cst (.str [101, 118, 101, 114, 121, 111, 110, 101])) (.cons (.var 2) (.cons (.cst (.int 0)) (.cons (.cst (.int 0)) .nil))))) (.cons (.tup (.cons (.cst (.str [116, 111, 108, 100])) (.cons (.var 5) .nil))) .nil)))) (.cons (.ret (.cst (.bl false))) .nil) .nil) (.cons (.ret (.call "_law_same" (.cons (.call "_law_told" (.cons (.cst (.str [110, 111, 98, 111, 100, 121])) (.cons (.var 2) (.cons (.cst (.int 0)) (.cons (.cst (.int 0)) .nil))))) (.cons (.tup (.cons (.cst (.str [116, 111, 108, 100])) (.cons (.var 6) .nil))) .nil)))) .nil)))))))))))
def b__law_first_last : Ss := (.cons (.asg (.nm 3) (.call "_law_told" (.cons (.cst (.str [102, 105, 114, 115, 116])) (.cons (.var 0) (.cons (.var 1) (.cons (.cst (.int 0)) .nil)))))) (.cons (.asg (.nm 4) (.bif .tuple (.lc [10] (.sl (.tup (.cons (.tup (.cons (.cst (.int 0)) (.cons (.var 10) .nil))) .nil)) .non (.som (.var 10))) (.nm 10) (.e (.var 1)) .nil))) (.cons (.if_ (.no (.call "_law_same" (.cons (.var 3) (.cons (.tup (.cons (.cst (.str [116, 111, 108, 100])) (.cons (.var 4) .nil))) .nil)))) (.cons (.ret (.cst (.bl false))) .nil) .nil) (.cons (.asg (.nm 5) (.fre (.lst .nil))) (.cons (.for_ (.nm 6) (.rng1 (.bi .len (.cons (.var 0) .nil))) (.cons (.asg (.nm 7) (.op .sub (.op .ix (.op .ix (.var 0) (.var 6)) (.cst (.int 1))) (.op .ix (.var 2) (.var 6)))) (.cons (.asg (.nm 8) (.cst (.int 0))) (.cons (.for_ (.nm 9) (.e (.op .ix (.op .ix (.var 3) (.cst (.int 1))) (.var 6))) (.cons (.asg (.nm 8) (.op .add (.var 8) (.bi .max2 (.cons (.cst (.int 0)) (.cons (.op .sub (.op .ix (.var 9) (.cst (.int 1))) (.bi .max2 (.cons (.op .ix (.var 9) (.cst (.int 0))) (.cons (.var 7) .nil)))) .nil))))) .nil)) (.cons (.exp (.me .append (.var 5) (.cons (.var 8) .nil))) .nil))))) (.cons (.ret (.call "_law_same" (.cons (.call "_law_told" (.cons (.cst (.str [108, 101, 97, 115, 116])) (.cons (.var 0) (.cons (.var 1) (.cons (.var 2) .nil))))) (.cons (.tup (.cons (.cst (.str [116, 111, 108, 100])) (.cons (.bi .tuple (.cons (.var 5) .nil)) .nil))) .nil)))) .nil))))))
def b__law_small : Ss := (.cons (.asg (.nm 3) (.bif .tuple (.lc [11] (.tup (.cons (.op .ix (.var 11) (.cst (.int 0))) (.cons (.op .add (.cst (.int 1)) (.call "_law_draw" (.cons (.var 0) (.cons (.cst (.int 5)) .nil)))) .nil))) (.nm 11) (.e (.sl (.var 2) .non (.som (.op .add (.cst (.int 1)) (.call "_law_draw" (.cons (.var 0) (.cons (.cst (.int 3)) .nil))))))) .nil))) (.cons (.for_ (.nm 4) (.rng1 (.cst (.int 3))) (.cons (.asg (.nm 5) (.bif .tuple (.lc [11] (.call "_law_draw" (.cons (.var 0) (.cons (.op .add (.op .ix (.var 11) (.cst (.int 1))) (.cst (.int 1))) .nil))) (.nm 11) (.e (.var 3)) .nil))) (.cons (.asg (.nm 6) (.bif .tuple (.lc [10] (.call "_law_second" (.cons (.var 0) (.cons (.op .ix (.op .ix (.var 3) (.var 10)) (.cst (.int 1))) (.cons (.op .ix (.var 5) (.var 10)) .nil)))) (.nm 10) (.rng1 (.bi .len (.cons (.var 3) .nil))) .nil))) (.cons (.asg (.nm 7) (.fre (.lc [11] (.op .band (.call "_law_draw" (.cons (.var 0) (.cons (.op .pow (.cst (.int 2)) (.cst (.int 5))) .nil))) (.op .sub (.op .ix (.tup (.cons (.cst (.int 1)) (.cons (.cst (.int 2)) (.cons (.cst (.int 4)) (.cons (.cst (.int 8)) (.cons (.cst (.int 16)) (.cons (.cst (.int 32)) .nil))))))) (.op .ix (.var 11) (.cst (.int 1)))) (.cst (.int 1)))) (.nm 11) (.e (.var 3)) .nil))) (.cons (.asg (.nm 8) (.fre (.lst .nil))) (.cons (.asg (.nm 9) (.cst (.bl true))) (.cons (.for_ (.nm 10) (.rng1 (.bi .len (.cons (.var 3) .nil))) (.cons (.exp (.me .append (.var 8) (.cons (.call "_law_fewest" (.cons (.op .ix (.op .ix (.var 3) (.var 10)) (.cst (.int 1))) (.cons (.op .ix (.var 5) (.var 10)) (.cons (.op .ix (.var 6) (.var 10)) .nil)))) .nil))) (.cons (.asg (.nm 9) (.and2 (.var 9) (.call "_law_fits" (.cons (.op .ix (.op .ix (.var 3) (.var 10)) (.cst (.int 1))) (.cons (.op .ix (.var 5) (.var 10)) (.cons (.op .ix (.var 6) (.var 10)) (.cons (.op .ix (.var 7) (.var 10)) .nil))))))) .nil))) (.cons (.if_ (.no (.call "_law_same" (.cons (.call "_law_told" (.cons (.cst (.str [108, 101, 97, 115, 116])) (.cons (.var 3) (.cons (.var 5) (.cons (.var 6) .nil))))) (.cons (.tup (.cons (.cst (.str [116, 111, 108, 100])) (.cons (.bi .tuple (.cons (.var 8) .nil)) .nil))) .nil)))) (.cons (.ret (.cst (.bl false))) .nil) .nil) (.cons (.sub (.var 1) (.cst (.int 2)) (.op .add (.op .ix (.var 1) (.cst (.int 2))) (.cst (.int 1)))) (.cons (.if_ (.no (.call "_law_same" (.cons (.call "_law_told" (.cons (.cst (.str [98, 101, 108, 111, 119])) (.cons (.var 3) (.cons (.bi .tuple (.cons (.var 8) .nil)) (.cons (.bif .tuple (.lc [12] (.call "_law_bits" (.cons (.var 12) .nil)) (.nm 12) (.e (.var 7)) .nil)) .nil))))) (.cons (.tup (.cons (.cst (.str [116, 111, 108, 100])) (.cons (.var 9) .nil))) .nil)))) (.cons (.ret (.cst (.bl false))) .nil) .nil) (.cons (.if_ (.no (.call "_law_first_last" (.cons (.var 3) (.cons (.var 5) (.cons (.var 6) .nil))))) (.cons (.ret (.cst (.bl false))) .nil) .nil) .nil))))))))))) (.cons (.ret (.cst (.bl true))) .nil)))
def b__law_doors : Ss := (.cons (.asg (.nm 4) (.call "_law_draw" (.cons (.var 0) (.cons (.bi .len (.cons (.var 2) .nil)) .nil)))) (.cons (.asg (.nm 5) (.op .ix (.op .ix (.var 2) (.var 4)) (.cst (.int 1)))) (.cons (.asg (.nm 6) (.op .add (.var 4) (.call "_law_draw" (.cons (.var 0) (.cons (.op .sub (.bi .len (.cons (.var 2) .nil)) (.var 4)) .nil))))) (.cons (.asg (.nm 7) (.fre (.lst (.cons (.tup (.cons (.fre (.list (.var 3))) (.cons (.op .sub (.cst (.int 0)) (.cst (.int 1))) .nil))) (.cons (.tup (.cons (.op .add (.var 3) (.tup (.cons (.cst (.int 0)) .nil))) (.cons (.op .sub (.cst (.int 0)) (.cst (.int 1))) .nil))) (.cons (.tup (.cons (.sl (.var 3) .non (.som (.neg (.cst (.int 1))))) (.cons (.op .sub (.cst (.int 0)) (.cst (.int 1))) .nil))) (.cons (.tup (.cons (.tup .nil) (.cons (.op .sub (.cst (.int 0)) (.cst (.int 1))) .nil))) (.cons (.tup (.cons (.cst .non) (.cons (.op .sub (.cst (.int 0)) (.cst (.int 1))) .nil))) (.cons (.tup (.cons (.sl (.cst (.str [97, 98, 99, 100, 101, 102, 103, 104])) .non (.som (.bi .len (.cons (.var 2) .nil)))) (.cons (.op .sub (.cst (.int 0)) (.cst (.int 1))) .nil))) .nil))))))))) (.cons (.for_ (.nm 8) (.e (.tup (.cons (.op .add (.var 5) (.cst (.int 1))) (.cons (.op .sub (.cst (.int 0)) (.cst (.int 1))) (.cons (.cst (.bl true)) (.cons (.cst (.bl false)) (.cons (.cst .non) (.cons (.cst (.str [48])) (.cons (.tup (.cons (.cst (.int 0)) .nil)) (.cons (.fre (.lst (.cons (.cst (.int 0)) .nil))) (.cons (.op .sub (.cst (.int 0)) (.var 5)) (.cons (.op .pow (.cst (.int 10)) (.cst (.int 30))) .nil)))))))))))) (.cons (.exp (.me .append (.var 7) (.cons (.tup (.cons (.call "_law_with" (.cons (.var 3) (.cons (.var 4) (.cons (.var 8) .nil)))) (.cons (.var 4) .nil))) .nil))) .nil)) (.cons (.exp (.me .append (.var 7) (.cons (.tup (.cons (.call "_law_with" (.cons (.call "_law_with" (.cons (.var 3) (.cons (.var 6) (.cons (.op .add (.op .ix (.op .ix (.var 2) (.var 6)) (.cst (.int 1))) (.cst (.int 1))) .nil)))) (.cons (.var 4) (.cons (.op .sub (.cst (.int 0)) (.cst (.int 1))) .nil)))) (.cons (.var 4) .nil))) .nil))) (.cons (.for_ (.nm 9) (.e (.var 7)) (.cons (.sub (.var 1) (.cst (.int 3)) (.op .add (.op .ix (.var 1) (.cst (.int 3))) (.cst (.int 1)))) (.cons (.asg (.nm 11) (.op .ix (.op .ix (.var 7) (.call "_law_draw" (.cons (.var 0) (.cons (.bi .len (.cons (.var 7) .nil)) .nil)))) (.cst (.int 0)))) (.cons (.for_ (.nm 12) (.e (.tup (.cons (.cst (.str [108, 101, 97, 115, 116])) (.cons (.cst (.str [98, 101, 108, 111, 119])) .nil)))) (.cons (.if_ (.no (.call "_law_same" (.cons (.call "_law_told" (.cons (.var 12) (.cons (.var 2) (.cons (.op .ix (.var 9) (.cst (.int 0))) (.cons (.var 3) .nil))))) (.cons (.tup (.cons (.cst (.str [99, 111, 117, 110, 116, 115])) (.cons (.op .ix (.var 9) (.cst (.int 1))) .nil))) .nil)))) (.cons (.ret (.cst (.bl false))) .nil) .nil) (.cons (.if_ (.no (.call "_law_same" (.cons (.call "_law_told" (.cons (.var 12) (.cons (.var 2) (.cons (.var 3) (.cons (.op .ix (.var 9) (.cst (.int 0))) .nil))))) (.cons (.tup (.cons (.cst (.str [99, 111, 117, 110, 116, 115])) (.cons (.op .ix (.var 9) (.cst (.int 1))) .nil))) .nil)))) (.cons (.ret (.cst (.bl false))) .nil) .nil) (.cons (.if_ (.no (.call "_law_same" (.cons (.call "_law_told" (.cons (.var 12) (.cons (.var 2) (.cons (.op .ix (.var 9) (.cst (.int 0))) (.cons (.var 11) .nil))))) (.cons (.tup (.cons (.cst (.str [99, 111, 117, 110, 116, 115])) (.cons (.op .ix (.var 9) (.cst (.int 1))) .nil))) .nil)))) (.cons (.ret (.cst (.bl false))) .nil) .nil) .nil)))) (.cons (.for_ (.nm 12) (.e (.tup (.cons (.cst (.str [111, 117, 116, 115, 105, 100, 101])) (.cons (.cst (.str [102, 105, 114, 115, 116])) .nil)))) (.cons (.if_ (.no (.call "_law_same" (.cons (.call "_law_told" (.cons (.var 12) (.cons (.var 2) (.cons (.op .ix (.var 9) (.cst (.int 0))) (.cons (.cst (.int 0)) .nil))))) (.cons (.tup (.cons (.cst (.str [99, 111, 117, 110, 116, 115])) (.cons (.op .ix (.var 9) (.cst (.int 1))) .nil))) .nil)))) (.cons (.ret (.cst (.bl false))) .nil) .nil) .nil)) .nil))))) (.cons (.for_ (.nm 10) (.e (.tup (.cons (.tup (.cons (.fre (.list (.var 2))) (.cons (.op .sub (.cst (.int 0)) (.cst (.int 1))) (.cons (.cst (.str [115, 104, 97, 112, 101])) .nil)))) (.cons (.tup (.cons (.tup .nil) (.cons (.op .sub (.cst (.int 0)) (.cst (.int 1))) (.cons (.cst (.str [115, 104, 97, 112, 101])) .nil)))) (.cons (.tup (.cons (.cst .non) (.cons (.op .sub (.cst (.int 0)) (.cst (.int 1))) (.cons (.cst (.str [115, 104, 97, 112, 101])) .nil)))) (.cons (.tup (.cons (.op .add (.sl (.var 2) .non (.som (.cst (.int 1)))) (.sl (.var 2) .non (.som (.cst (.int 1))))) (.cons (.cst (.int 1)) (.cons (.cst (.str [116, 119, 105, 99, 101])) .nil)))) (.cons (.tup (.cons (.call "_law_with" (.cons (.var 2) (.cons (.var 4) (.cons (.tup (.cons (.op .ix (.op .ix (.var 2) (.var 4)) (.cst (.int 0))) (.cons (.cst (.int 0)) .nil))) .nil)))) (.cons (.var 4) (.cons (.cst (.str [115, 105, 122, 101])) .nil)))) (.cons (.tup (.cons (.call "_law_with" (.cons (.var 2) (.cons (.var 4) (.cons (.tup (.cons (.op .ix (.op .ix (.var 2) (.var 4)) (.cst (.int 0))) (.cons (.cst (.bl true)) .nil))) .nil)))) (.cons (.var 4) (.cons (.cst (.str [115, 105, 122, 101])) .nil)))) (.cons (.tup (.cons (.call "_law_with" (.cons (.var 2) (.cons (.var 4) (.cons (.tup (.cons (.cst (.str [109, 111, 115, 116])) (.cons (.var 5) .nil))) .nil)))) (.cons (.var 4) (.cons (.cst (.str [119, 111, 114, 100])) .nil)))) (.cons (.tup (.cons (.call "_law_with" (.cons (.var 2) (.cons (.var 4) (.cons (.fre (.lst (.cons (.op .ix (.op .ix (.var 2) (.var 4)) (.cst (.int 0))) (.cons (.var 5) .nil)))) .nil)))) (.cons (.var 4) (.cons (.cst (.str [115, 104, 97, 112, 101])) .nil)))) .nil)))))))))) (.cons (.for_ (.nm 12) (.e (.tup (.cons (.cst (.str [108, 101, 97, 115, 116])) (.cons (.cst (.str [98, 101, 108, 111, 119])) (.cons (.cst (.str [111, 117, 116, 115, 105, 100, 101])) (.cons (.cst (.str [102, 105, 114, 115, 116])) (.cons (.cst (.str [101, 118, 101, 114, 121, 111, 110, 101])) (.cons (.cst (.str [110, 111, 98, 111, 100, 121])) .nil)))))))) (.cons (.asg (.nm 13) (.tup (.cons (.cst (.str [108, 111, 116, 115])) (.cons (.op .ix (.var 10) (.cst (.int 1))) (.cons (.op .ix (.var 10) (.cst (.int 2))) .nil))))) (.cons (.if_ (.or2 (.no (.call "_law_same" (.cons (.call "_law_told" (.cons (.var 12) (.cons (.op .ix (.var 10) (.cst (.int 0))) (.cons (.var 3) (.cons (.var 3) .nil))))) (.cons (.var 13) .nil)))) (.no (.call "_law_same" (.cons (.call "_law_told" (.cons (.var 12) (.cons (.op .ix (.var 10) (.cst (.int 0))) (.cons (.cst .non) (.cons (.var 3) .nil))))) (.cons (.var 13) .nil))))) (.cons (.ret (.cst (.bl false))) .nil) .nil) .nil))) .nil)) (.cons (.ret (.cst (.bl true))) .nil)))))))))
def b__law_between : Ss := (.cons (.asg (.nm 3) (.call "_law_draw" (.cons (.var 0) (.cons (.bi .len (.cons (.var 2) .nil)) .nil)))) (.cons (.asg (.nm 4) (.bif .tuple (.lc [13] (.tup (.cons (.op .ix (.var 13) (.cst (.int 0))) (.cons (.cst (.int 2)) .nil))) (.nm 13) (.e (.var 2)) .nil))) (.cons (.asg (.nm 5) (.bif .tuple (.lc [13] (.cst (.int 1)) (.nm 13) (.e (.var 2)) .nil))) (.cons (.asg (.nm 6) (.bif .tuple (.lc [13] (.cst (.int 0)) (.nm 13) (.e (.var 2)) .nil))) (.cons (.asg (.nm 7) (.bif .tuple (.lc [13] (.cst (.int 2)) (.nm 13) (.e (.var 2)) .nil))) (.cons (.for_ (.nm 8) (.e (.tup (.cons (.tup (.cons (.var 5) (.cons (.cst (.bl true)) .nil))) (.cons (.tup (.cons (.var 6) (.cons (.cst (.bl false)) .nil))) .nil)))) (.cons (.asg (.nm 9) (.op .ix (.var 8) (.cst (.int 0)))) (.cons (.asg (.nm 10) (.call "_law_with" (.cons (.var 9) (.cons (.var 3) (.cons (.op .ix (.var 8) (.cst (.int 1))) .nil))))) (.cons (.for_ (.nm 11) (.rng1 (.cst (.int 2))) (.cons (.if_ (.or2 (.no (.call "_law_ask_least" (.cons (.var 4) (.cons (.var 9) (.cons (.var 7) .nil))))) (.no (.call "_law_ask_below" (.cons (.var 1) (.cons (.var 4) (.cons (.var 9) (.cons (.var 7) .nil))))))) (.cons (.ret (.cst (.bl false))) .nil) .nil) (.cons (.if_ (.no (.call "_law_ask_below" (.cons (.var 1) (.cons (.var 4) (.cons (.var 7) (.cons (.var 9) .nil)))))) (.cons (.ret (.cst (.bl false))) .nil) .nil) (.cons (.if_ (.no (.call "_law_same" (.cons (.call "_law_told" (.cons (.cst (.str [111, 117, 116, 115, 105, 100, 101])) (.cons (.var 4) (.cons (.var 9) (.cons (.cst (.int 0)) .nil))))) (.cons (.tup (.cons (.cst (.str [116, 111, 108, 100])) (.cons (.bif .tuple (.lc [14] (.op .sub (.cst (.int 2)) (.var 14)) (.nm 14) (.e (.var 9)) .nil)) .nil))) .nil)))) (.cons (.ret (.cst (.bl false))) .nil) .nil) (.cons (.if_ (.no (.call "_law_same" (.cons (.call "_law_told" (.cons (.cst (.str [102, 105, 114, 115, 116])) (.cons (.var 4) (.cons (.var 9) (.cons (.cst (.int 0)) .nil))))) (.cons (.tup (.cons (.cst (.str [116, 111, 108, 100])) (.cons (.bif .tuple (.lc [14] (.sl (.tup (.cons (.tup (.cons (.cst (.int 0)) (.cons (.cst (.int 1)) .nil))) .nil)) .non (.som (.var 14))) (.nm 14) (.e (.var 9)) .nil)) .nil))) .nil)))) (.cons (.ret (.cst (.bl false))) .nil) .nil) (.cons (.for_ (.nm 12) (.e (.tup (.cons (.cst (.str [108, 101, 97, 115, 116])) (.cons (.cst (.str [98, 101, 108, 111, 119])) (.cons (.cst (.str [111, 117, 116, 115, 105, 100, 101])) (.cons (.cst (.str [102, 105, 114, 115, 116])) .nil)))))) (.cons (.if_ (.no (.call "_law_same" (.cons (.call "_law_told" (.cons (.var 12) (.cons (.var 4) (.cons (.var 10) (.cons (.var 7) .nil))))) (.cons (.tup (.cons (.cst (.str [99, 111, 117, 110, 116, 115])) (.cons (.var 3) .nil))) .nil)))) (.cons (.ret (.cst (.bl false))) .nil) .nil) .nil)) (.cons (.for_ (.nm 12) (.e (.tup (.cons (.cst (.str [108, 101, 97, 115, 116])) (.cons (.cst (.str [98, 101, 108, 111, 119])) .nil)))) (.cons (.if_ (.no (.call "_law_same" (.cons (.call "_law_told" (.cons (.var 12) (.cons (.var 4) (.cons (.var 7) (.cons (.var 10) .nil))))) (.cons (.tup (.cons (.cst (.str [99, 111, 117, 110, 116, 115])) (.cons (.var 3) .nil))) .nil)))) (.cons (.ret (.cst (.bl false))) .nil) .nil) .nil)) .nil))))))) .nil)))) (.cons (.ret (.cst (.bl true))) .nil)))))))
def b_law : Ss := (.cons (.asg (.nm 1) (.call "_law_tape" (.cons (.var 0) .nil))) (.cons (.asg (.nm 2) (.fre (.lst (.cons (.cst (.int 0)) (.cons (.cst (.int 0)) (.cons (.cst (.int 0)) (.cons (.cst (.int 0)) .nil))))))) (.cons (.asg (.nm 3) (.call "_law_lots" (.cons (.var 1) (.cons (.op .add (.cst (.int 1)) (.call "_law_draw" (.cons (.var 1) (.cons (.cst (.int 8)) .nil)))) .nil)))) (.cons (.asg (.nm 4) (.bif .tuple (.lc [6] (.call "_law_upto" (.cons (.var 1) (.cons (.op .ix (.var 6) (.cst (.int 1))) .nil))) (.nm 6) (.e (.var 3)) .nil))) (.cons (.asg (.nm 5) (.bif .tuple (.lc [7] (.call "_law_second" (.cons (.var 1) (.cons (.op .ix (.op .ix (.var 3) (.var 7)) (.cst (.int 1))) (.cons (.op .ix (.var 4) (.var 7)) .nil)))) (.nm 7) (.rng1 (.bi .len (.cons (.var 3) .nil))) .nil))) (.cons (.if_ (.no (.call "_law_pair" (.cons (.var 1) (.cons (.var 2) (.cons (.var 3) (.cons (.var 4) (.cons (.var 5) .nil))))))) (.cons (.ret (.cst (.bl false))) .nil) .nil) (.cons (.if_ (.or2 (.no (.call "_law_first_last" (.cons (.var 3) (.cons (.var 4) (.cons (.var 5) .nil))))) (.no (.call "_law_first_last" (.cons (.var 3) (.cons (.var 5) (.cons (.var 4) .nil)))))) (.cons (.ret (.cst (.bl false))) .nil) .nil) (.cons (.if_ (.no (.call "_law_small" (.cons (.var 1) (.cons (.var 2) (.cons (.var 3) .nil))))) (.cons (.ret (.cst (.bl false))) .nil) .nil) (.cons (.if_ (.or2 (.no (.call "_law_doors" (.cons (.var 1) (.cons (.var 2) (.cons (.var 3) (.cons (.var 4) .nil)))))) (.no (.call "_law_between" (.cons (.var 1) (.cons (.var 2) (.cons (.var 3) .nil)))))) (.cons (.ret (.cst (.bl false))) .nil) .nil) (.cons (.if_ (.no (.call "_law_ask_least" (.cons (.var 3) (.cons (.var 4) (.cons (.var 5) .nil))))) (.cons (.ret (.cst (.bl false))) .nil) .nil) (.cons (.ret (.op .gt (.bi .min1 (.cons (.var 2) .nil)) (.cst (.int 0)))) .nil)))))))))))
structure HasL (P : Prog) : Prop extends Has P where
  f__law_tape : P.fns "_law_tape" = some ⟨1, 4, b__law_tape⟩
  f__law_draw : P.fns "_law_draw" = some ⟨2, 3, b__law_draw⟩
  f__law_upto : P.fns "_law_upto" = some ⟨2, 3, b__law_upto⟩
  f__law_kept : P.fns "_law_kept" = some ⟨0, 0, b__law_kept⟩
  f__law_word : P.fns "_law_word" = some ⟨2, 5, b__law_word⟩
  f__law_size : P.fns "_law_size" = some ⟨1, 2, b__law_size⟩
  f__law_lots : P.fns "_law_lots" = some ⟨2, 6, b__law_lots⟩
  f__law_with : P.fns "_law_with" = some ⟨3, 3, b__law_with⟩
  f__law_same : P.fns "_law_same" = some ⟨2, 3, b__law_same⟩
  f__law_told : P.fns "_law_told" = some ⟨4, 7, b__law_told⟩
  f__law_sizes : P.fns "_law_sizes" = some ⟨1, 2, b__law_sizes⟩
  f__law_part : P.fns "_law_part" = some ⟨3, 4, b__law_part⟩
  f__law_is_below : P.fns "_law_is_below" = some ⟨2, 3, b__law_is_below⟩
  f__law_bits : P.fns "_law_bits" = some ⟨1, 3, b__law_bits⟩
  f__law_subsets : P.fns "_law_subsets" = some ⟨2, 3, b__law_subsets⟩
  f__law_fewest : P.fns "_law_fewest" = some ⟨3, 6, b__law_fewest⟩
  f__law_fits : P.fns "_law_fits" = some ⟨4, 6, b__law_fits⟩
  f__law_ask_below : P.fns "_law_ask_below" = some ⟨4, 5, b__law_ask_below⟩
  f__law_ask_least : P.fns "_law_ask_least" = some ⟨3, 4, b__law_ask_least⟩
  f__law_second : P.fns "_law_second" = some ⟨3, 5, b__law_second⟩
  f__law_pair : P.fns "_law_pair" = some ⟨5, 13, b__law_pair⟩
  f__law_first_last : P.fns "_law_first_last" = some ⟨3, 11, b__law_first_last⟩
  f__law_small : P.fns "_law_small" = some ⟨3, 13, b__law_small⟩
  f__law_doors : P.fns "_law_doors" = some ⟨4, 14, b__law_doors⟩
  f__law_between : P.fns "_law_between" = some ⟨3, 15, b__law_between⟩
  f_law : P.fns "law" = some ⟨1, 8, b_law⟩
  a_ll : P.isa "BadLots" "BadLots" = true
  a_cl : P.isa "BadCounts" "BadLots" = false
  a_cc : P.isa "BadCounts" "BadCounts" = true
end K03

set_option Elab.async false
set_option linter.all false
set_option maxRecDepth 100000
set_option maxHeartbeats 4000000
/-! k03: what is alike; what is told of a function. -/
namespace Mi
def SR.ty (r : SR) (h : Exn → Env → Store → SR) : SR := match r with
  | .exn x δ S => h x δ S
  | .nx δ S => .nx δ S
  | .cont δ S => .cont δ S
  | .brk δ S => .brk δ S
  | .ret d S => .ret d S
  | .bad => .bad
def hnd (i : Option Nat) (r : SR) : SR := match r with
  | .nx δ S => .nx (clr i δ) S
  | .cont δ S => .cont (clr i δ) S
  | .brk δ S => .brk (clr i δ) S
  | .ret d S => .ret d S
  | .exn _ _ _ => .bad
  | .bad => .bad
section
variable {c : Ctx} {δ : Env} {S : Store} {x : Exn} {i : Option Nat} {k : String} {b : Ss} {hs : Hs}
@[simp] theorem ty_nx {h : Exn → Env → Store → SR} : (SR.nx δ S).ty h = .nx δ S := rfl
@[simp] theorem ty_ret {h : Exn → Env → Store → SR} {d : D} : (SR.ret d S).ty h = .ret d S := rfl
@[simp] theorem ty_exn {h : Exn → Env → Store → SR} : (SR.exn x δ S).ty h = h x δ S := rfl
@[simp] theorem eS_try : evS c (.try_ b hs) δ S = (evSs c b δ S).ty (evH c hs) := by
  show (match evSs c b δ S with
    | .exn x δ' S' => evH c hs x δ' S'
    | .nx δ' S' => .nx δ' S'
    | .cont δ' S' => .cont δ' S'
    | .brk δ' S' => .brk δ' S'
    | .ret d S' => .ret d S'
    | .bad => .bad) = _
  cases evSs c b δ S <;> rfl
theorem eH_hit (h1 : c.isa x.cls k = true) (h2 : inR i δ = true) : evH c (.cons k i b hs) x δ S = hnd i (evSs { c with cur := i.map fun i => (i, x) } b (clr i δ) S) := by
  show (if c.isa x.cls k then (if inR i δ then (match evSs { c with cur := i.map fun i => (i, x) } b (clr i δ) S with
    | .nx δ' S' => SR.nx (clr i δ') S'
    | .cont δ' S' => .cont (clr i δ') S'
    | .brk δ' S' => .brk (clr i δ') S'
    | .ret d S' => .ret d S'
    | .exn _ _ _ => .bad
    | .bad => .bad) else .bad) else evH c hs x δ S) = _
  rw [if_pos h1, if_pos h2]
  cases evSs { c with cur := i.map fun i => (i, x) } b (clr i δ) S <;> rfl
theorem eH_miss (h1 : c.isa x.cls k = false) : evH c (.cons k i b hs) x δ S = evH c hs x δ S := by
  show (if c.isa x.cls k then _ else evH c hs x δ S) = _
  rw [if_neg (by rw [h1]; exact Bool.false_ne_true)]
end
end Mi
namespace K03
open Mi
/-- what one of the functions is called -/
inductive Wh where
  | least | below | outside | first | every | nobody
def Wh.code : Wh → List Nat
  | .least => [108, 101, 97, 115, 116]
  | .below => [98, 101, 108, 111, 119]
  | .outside => [111, 117, 116, 115, 105, 100, 101]
  | .first => [102, 105, 114, 115, 116]
  | .every => [101, 118, 101, 114, 121, 111, 110, 101]
  | .nobody => [110, 111, 98, 111, 100, 121]
def Wh.run (P : Prog) (fu n : Nat) (k : Wh) (lots one two : D) : M D := match k with
  | .least => callN P fu n "least_common" [lots, one, two]
  | .below => callN P fu n "below" [lots, one, two]
  | .outside => callN P fu n "outside" [lots, one]
  | .first => callN P fu n "first_houses" [lots, one]
  | .every => callN P fu n "everyone" [lots]
  | .nobody => callN P fu n "nobody" [lots]
def sTold : D := .str [116, 111, 108, 100]
def sLots : D := .str [108, 111, 116, 115]
def sCounts : D := .str [99, 111, 117, 110, 116, 115]
def toldB : Ss := match b__law_told with
  | .cons (.try_ b _) _ => b
  | _ => .nil
def toldH : Hs := match b__law_told with
  | .cons (.try_ _ h) _ => h
  | _ => .nil
section
variable {P : Prog} (HP : HasL P) {fu n : Nat} {S : Store}
include HP
theorem told_body {k : Wh} {lots one two : D} : evSs (ctx P fu (callN P fu n)) toldB [some (.str k.code), some lots, some one, some two, none, none, none] S = lift [some (.str k.code), some lots, some one, some two, none, none, none] (k.run P fu n lots one two S) fun v S => .nx [some (.str k.code), some lots, some one, some two, none, none, some v] S := by
  cases k with
  | least =>
    show _ = lift _ (callN P fu n "least_common" [lots, one, two] S) _
    simp only [toldB, b__law_told, Wh.code, eSs_cons, eS_if, eS_asg, eS_sub, eS_exp, eS_ret, eS_for, eS_rais, eS_brk, eS_cont, eS_pass, ss_nil', eT_or, eT_and, eT_no, eT_isi, eT_var, eT_cst, eT_op, eT_chn, eT_call, eT_bi, eE_isi, eE_var, eE_op, eE_glo, eE_chn, eE_cst, eE_bi, eE_bif, eE_tup, eE_fre, eE_dic0, eE_neg, eE_no, eE_and, eE_or, eE_ite, eE_call, eE_me, eE_sl, eE_rev, eO_non, eO_som, part_int, eEs_cons, eEs_nil, eF_lst, eF_list, eF_lc, eI_e, eI_f, eI_rng1, eI_enu, eI_z2, eI_z3, src_tup, src_rol, enu_tup, zip_tup, zip_tup3, its_items, List.getElem?_cons_zero, List.getElem?_cons_succ, List.set_cons_zero, List.set_cons_succ, rdVar_some, rb_ok, rb_exn, any_str, any_tup, any_int, any_bl, any_non, tr_bl, pur_at, alloc_at, bnd_at, o_add, o_sub, o_lt, o_le, o_gt, o_ge, o_eqI, o_neI, o_eqS, o_isN, chn_t, chn_f, lf_ok, lf_exn, sq_nx, sq_ret, sq_exn, ctx_glo, ctx_call, ctx_ini, opt_some, o_notinS, o_inS, bi_lenT, bi_intI, bi_intB, bi_abs, bi_max, bi_min, bif_tup, bi_tupT, neg_int', sl_tup, nxO_some, putT_nm, putT_tup, putTs_nil, putTs_cons, Option.bind_some, raiO_1, raiO_2, ix_0, ix_1, beq_self_eq_true, Bool.not_true, Bool.not_false, Bool.false_eq_true, ↓reduceIte, Bool.true_and, Bool.false_and, Bool.and_false, Bool.and_true, decide_true, decide_false, wipe_nil, wipe_cons]
    cases callN P fu n "least_common" [lots, one, two] S <;> rfl
  | below =>
    show _ = lift _ (callN P fu n "below" [lots, one, two] S) _
    simp only [toldB, b__law_told, Wh.code, show ([98, 101, 108, 111, 119] == [108, 101, 97, 115, 116]) = false from rfl, eSs_cons, eS_if, eS_asg, eS_sub, eS_exp, eS_ret, eS_for, eS_rais, eS_brk, eS_cont, eS_pass, ss_nil', eT_or, eT_and, eT_no, eT_isi, eT_var, eT_cst, eT_op, eT_chn, eT_call, eT_bi, eE_isi, eE_var, eE_op, eE_glo, eE_chn, eE_cst, eE_bi, eE_bif, eE_tup, eE_fre, eE_dic0, eE_neg, eE_no, eE_and, eE_or, eE_ite, eE_call, eE_me, eE_sl, eE_rev, eO_non, eO_som, part_int, eEs_cons, eEs_nil, eF_lst, eF_list, eF_lc, eI_e, eI_f, eI_rng1, eI_enu, eI_z2, eI_z3, src_tup, src_rol, enu_tup, zip_tup, zip_tup3, its_items, List.getElem?_cons_zero, List.getElem?_cons_succ, List.set_cons_zero, List.set_cons_succ, rdVar_some, rb_ok, rb_exn, any_str, any_tup, any_int, any_bl, any_non, tr_bl, pur_at, alloc_at, bnd_at, o_add, o_sub, o_lt, o_le, o_gt, o_ge, o_eqI, o_neI, o_eqS, o_isN, chn_t, chn_f, lf_ok, lf_exn, sq_nx, sq_ret, sq_exn, ctx_glo, ctx_call, ctx_ini, opt_some, o_notinS, o_inS, bi_lenT, bi_intI, bi_intB, bi_abs, bi_max, bi_min, bif_tup, bi_tupT, neg_int', sl_tup, nxO_some, putT_nm, putT_tup, putTs_nil, putTs_cons, Option.bind_some, raiO_1, raiO_2, ix_0, ix_1, beq_self_eq_true, Bool.not_true, Bool.not_false, Bool.false_eq_true, ↓reduceIte, Bool.true_and, Bool.false_and, Bool.and_false, Bool.and_true, decide_true, decide_false, wipe_nil, wipe_cons]
    cases callN P fu n "below" [lots, one, two] S <;> rfl
  | outside =>
    show _ = lift _ (callN P fu n "outside" [lots, one] S) _
    simp only [toldB, b__law_told, Wh.code, show ([111, 117, 116, 115, 105, 100, 101] == [108, 101, 97, 115, 116]) = false from rfl, show ([111, 117, 116, 115, 105, 100, 101] == [98, 101, 108, 111, 119]) = false from rfl, eSs_cons, eS_if, eS_asg, eS_sub, eS_exp, eS_ret, eS_for, eS_rais, eS_brk, eS_cont, eS_pass, ss_nil', eT_or, eT_and, eT_no, eT_isi, eT_var, eT_cst, eT_op, eT_chn, eT_call, eT_bi, eE_isi, eE_var, eE_op, eE_glo, eE_chn, eE_cst, eE_bi, eE_bif, eE_tup, eE_fre, eE_dic0, eE_neg, eE_no, eE_and, eE_or, eE_ite, eE_call, eE_me, eE_sl, eE_rev, eO_non, eO_som, part_int, eEs_cons, eEs_nil, eF_lst, eF_list, eF_lc, eI_e, eI_f, eI_rng1, eI_enu, eI_z2, eI_z3, src_tup, src_rol, enu_tup, zip_tup, zip_tup3, its_items, List.getElem?_cons_zero, List.getElem?_cons_succ, List.set_cons_zero, List.set_cons_succ, rdVar_some, rb_ok, rb_exn, any_str, any_tup, any_int, any_bl, any_non, tr_bl, pur_at, alloc_at, bnd_at, o_add, o_sub, o_lt, o_le, o_gt, o_ge, o_eqI, o_neI, o_eqS, o_isN, chn_t, chn_f, lf_ok, lf_exn, sq_nx, sq_ret, sq_exn, ctx_glo, ctx_call, ctx_ini, opt_some, o_notinS, o_inS, bi_lenT, bi_intI, bi_intB, bi_abs, bi_max, bi_min, bif_tup, bi_tupT, neg_int', sl_tup, nxO_some, putT_nm, putT_tup, putTs_nil, putTs_cons, Option.bind_some, raiO_1, raiO_2, ix_0, ix_1, beq_self_eq_true, Bool.not_true, Bool.not_false, Bool.false_eq_true, ↓reduceIte, Bool.true_and, Bool.false_and, Bool.and_false, Bool.and_true, decide_true, decide_false, wipe_nil, wipe_cons]
    cases callN P fu n "outside" [lots, one] S <;> rfl
  | first =>
    show _ = lift _ (callN P fu n "first_houses" [lots, one] S) _
    simp only [toldB, b__law_told, Wh.code, show ([102, 105, 114, 115, 116] == [108, 101, 97, 115, 116]) = false from rfl, show ([102, 105, 114, 115, 116] == [98, 101, 108, 111, 119]) = false from rfl, show ([102, 105, 114, 115, 116] == [111, 117, 116, 115, 105, 100, 101]) = false from rfl, eSs_cons, eS_if, eS_asg, eS_sub, eS_exp, eS_ret, eS_for, eS_rais, eS_brk, eS_cont, eS_pass, ss_nil', eT_or, eT_and, eT_no, eT_isi, eT_var, eT_cst, eT_op, eT_chn, eT_call, eT_bi, eE_isi, eE_var, eE_op, eE_glo, eE_chn, eE_cst, eE_bi, eE_bif, eE_tup, eE_fre, eE_dic0, eE_neg, eE_no, eE_and, eE_or, eE_ite, eE_call, eE_me, eE_sl, eE_rev, eO_non, eO_som, part_int, eEs_cons, eEs_nil, eF_lst, eF_list, eF_lc, eI_e, eI_f, eI_rng1, eI_enu, eI_z2, eI_z3, src_tup, src_rol, enu_tup, zip_tup, zip_tup3, its_items, List.getElem?_cons_zero, List.getElem?_cons_succ, List.set_cons_zero, List.set_cons_succ, rdVar_some, rb_ok, rb_exn, any_str, any_tup, any_int, any_bl, any_non, tr_bl, pur_at, alloc_at, bnd_at, o_add, o_sub, o_lt, o_le, o_gt, o_ge, o_eqI, o_neI, o_eqS, o_isN, chn_t, chn_f, lf_ok, lf_exn, sq_nx, sq_ret, sq_exn, ctx_glo, ctx_call, ctx_ini, opt_some, o_notinS, o_inS, bi_lenT, bi_intI, bi_intB, bi_abs, bi_max, bi_min, bif_tup, bi_tupT, neg_int', sl_tup, nxO_some, putT_nm, putT_tup, putTs_nil, putTs_cons, Option.bind_some, raiO_1, raiO_2, ix_0, ix_1, beq_self_eq_true, Bool.not_true, Bool.not_false, Bool.false_eq_true, ↓reduceIte, Bool.true_and, Bool.false_and, Bool.and_false, Bool.and_true, decide_true, decide_false, wipe_nil, wipe_cons]
    cases callN P fu n "first_houses" [lots, one] S <;> rfl
  | every =>
    show _ = lift _ (callN P fu n "everyone" [lots] S) _
    simp only [toldB, b__law_told, Wh.code, show ([101, 118, 101, 114, 121, 111, 110, 101] == [108, 101, 97, 115, 116]) = false from rfl, show ([101, 118, 101, 114, 121, 111, 110, 101] == [98, 101, 108, 111, 119]) = false from rfl, show ([101, 118, 101, 114, 121, 111, 110, 101] == [111, 117, 116, 115, 105, 100, 101]) = false from rfl, show ([101, 118, 101, 114, 121, 111, 110, 101] == [102, 105, 114, 115, 116]) = false from rfl, eSs_cons, eS_if, eS_asg, eS_sub, eS_exp, eS_ret, eS_for, eS_rais, eS_brk, eS_cont, eS_pass, ss_nil', eT_or, eT_and, eT_no, eT_isi, eT_var, eT_cst, eT_op, eT_chn, eT_call, eT_bi, eE_isi, eE_var, eE_op, eE_glo, eE_chn, eE_cst, eE_bi, eE_bif, eE_tup, eE_fre, eE_dic0, eE_neg, eE_no, eE_and, eE_or, eE_ite, eE_call, eE_me, eE_sl, eE_rev, eO_non, eO_som, part_int, eEs_cons, eEs_nil, eF_lst, eF_list, eF_lc, eI_e, eI_f, eI_rng1, eI_enu, eI_z2, eI_z3, src_tup, src_rol, enu_tup, zip_tup, zip_tup3, its_items, List.getElem?_cons_zero, List.getElem?_cons_succ, List.set_cons_zero, List.set_cons_succ, rdVar_some, rb_ok, rb_exn, any_str, any_tup, any_int, any_bl, any_non, tr_bl, pur_at, alloc_at, bnd_at, o_add, o_sub, o_lt, o_le, o_gt, o_ge, o_eqI, o_neI, o_eqS, o_isN, chn_t, chn_f, lf_ok, lf_exn, sq_nx, sq_ret, sq_exn, ctx_glo, ctx_call, ctx_ini, opt_some, o_notinS, o_inS, bi_lenT, bi_intI, bi_intB, bi_abs, bi_max, bi_min, bif_tup, bi_tupT, neg_int', sl_tup, nxO_some, putT_nm, putT_tup, putTs_nil, putTs_cons, Option.bind_some, raiO_1, raiO_2, ix_0, ix_1, beq_self_eq_true, Bool.not_true, Bool.not_false, Bool.false_eq_true, ↓reduceIte, Bool.true_and, Bool.false_and, Bool.and_false, Bool.and_true, decide_true, decide_false, wipe_nil, wipe_cons]
    cases callN P fu n "everyone" [lots] S <;> rfl
  | nobody =>
    show _ = lift _ (callN P fu n "nobody" [lots] S) _
    simp only [toldB, b__law_told, Wh.code, show ([110, 111, 98, 111, 100, 121] == [108, 101, 97, 115, 116]) = false from rfl, show ([110, 111, 98, 111, 100, 121] == [98, 101, 108, 111, 119]) = false from rfl, show ([110, 111, 98, 111, 100, 121] == [111, 117, 116, 115, 105, 100, 101]) = false from rfl, show ([110, 111, 98, 111, 100, 121] == [102, 105, 114, 115, 116]) = false from rfl, show ([110, 111, 98, 111, 100, 121] == [101, 118, 101, 114, 121, 111, 110, 101]) = false from rfl, eSs_cons, eS_if, eS_asg, eS_sub, eS_exp, eS_ret, eS_for, eS_rais, eS_brk, eS_cont, eS_pass, ss_nil', eT_or, eT_and, eT_no, eT_isi, eT_var, eT_cst, eT_op, eT_chn, eT_call, eT_bi, eE_isi, eE_var, eE_op, eE_glo, eE_chn, eE_cst, eE_bi, eE_bif, eE_tup, eE_fre, eE_dic0, eE_neg, eE_no, eE_and, eE_or, eE_ite, eE_call, eE_me, eE_sl, eE_rev, eO_non, eO_som, part_int, eEs_cons, eEs_nil, eF_lst, eF_list, eF_lc, eI_e, eI_f, eI_rng1, eI_enu, eI_z2, eI_z3, src_tup, src_rol, enu_tup, zip_tup, zip_tup3, its_items, List.getElem?_cons_zero, List.getElem?_cons_succ, List.set_cons_zero, List.set_cons_succ, rdVar_some, rb_ok, rb_exn, any_str, any_tup, any_int, any_bl, any_non, tr_bl, pur_at, alloc_at, bnd_at, o_add, o_sub, o_lt, o_le, o_gt, o_ge, o_eqI, o_neI, o_eqS, o_isN, chn_t, chn_f, lf_ok, lf_exn, sq_nx, sq_ret, sq_exn, ctx_glo, ctx_call, ctx_ini, opt_some, o_notinS, o_inS, bi_lenT, bi_intI, bi_intB, bi_abs, bi_max, bi_min, bif_tup, bi_tupT, neg_int', sl_tup, nxO_some, putT_nm, putT_tup, putTs_nil, putTs_cons, Option.bind_some, raiO_1, raiO_2, ix_0, ix_1, beq_self_eq_true, Bool.not_true, Bool.not_false, Bool.false_eq_true, ↓reduceIte, Bool.true_and, Bool.false_and, Bool.and_false, Bool.and_true, decide_true, decide_false, wipe_nil, wipe_cons]
    cases callN P fu n "nobody" [lots] S <;> rfl
theorem told_ok {k : Wh} {lots one two v : D} (h : k.run P fu n lots one two S = .ok v S) (hb : v.bel S.length = true) : callN P fu (n + 1) "_law_told" [.str k.code, lots, one, two] S = .ok (.tup [sTold, v]) S := by
  rw [call_eq HP.f__law_told rfl]
  have e0 : evSs (ctx P fu (callN P fu n)) b__law_told [some (.str k.code), some lots, some one, some two, none, none, none] S = .ret (.tup [sTold, v]) S := by
    have e1 := told_body HP (fu := fu) (n := n) (S := S) (k := k) (lots := lots) (one := one) (two := two)
    rw [h] at e1
    show evSs _ (.cons (.try_ toldB toldH) _) _ _ = _
    rw [ss_nx (by rw [eS_try, e1]; rfl)]
    simp only [eSs_cons, eS_if, eS_asg, eS_sub, eS_exp, eS_ret, eS_for, eS_rais, eS_brk, eS_cont, eS_pass, ss_nil', eT_or, eT_and, eT_no, eT_isi, eT_var, eT_cst, eT_op, eT_chn, eT_call, eT_bi, eE_isi, eE_var, eE_op, eE_glo, eE_chn, eE_cst, eE_bi, eE_bif, eE_tup, eE_fre, eE_dic0, eE_neg, eE_no, eE_and, eE_or, eE_ite, eE_call, eE_me, eE_sl, eE_rev, eO_non, eO_som, part_int, eEs_cons, eEs_nil, eF_lst, eF_list, eF_lc, eI_e, eI_f, eI_rng1, eI_enu, eI_z2, eI_z3, src_tup, src_rol, enu_tup, zip_tup, zip_tup3, its_items, List.getElem?_cons_zero, List.getElem?_cons_succ, List.set_cons_zero, List.set_cons_succ, rdVar_some, rb_ok, rb_exn, any_str, any_tup, any_int, any_bl, any_non, tr_bl, pur_at, alloc_at, bnd_at, o_add, o_sub, o_lt, o_le, o_gt, o_ge, o_eqI, o_neI, o_eqS, o_isN, chn_t, chn_f, lf_ok, lf_exn, sq_nx, sq_ret, sq_exn, ctx_glo, ctx_call, ctx_ini, opt_some, o_notinS, o_inS, bi_lenT, bi_intI, bi_intB, bi_abs, bi_max, bi_min, bif_tup, bi_tupT, neg_int', sl_tup, nxO_some, putT_nm, putT_tup, putTs_nil, putTs_cons, Option.bind_some, raiO_1, raiO_2, ix_0, ix_1, beq_self_eq_true, Bool.not_true, Bool.not_false, Bool.false_eq_true, ↓reduceIte, Bool.true_and, Bool.false_and, Bool.and_false, Bool.and_true, decide_true, decide_false, wipe_nil, wipe_cons]
    rfl
  refine (congrArg (fun r => fin S (endR r)) e0).trans (fin_ok0 ?_)
  show (true && (v.bel S.length && true)) = true
  rw [hb]
  rfl
theorem told_lots {k : Wh} {lots one two : D} {i : Int} {e : String} (h : k.run P fu n lots one two S = .exn (badLots i e) S) : callN P fu (n + 1) "_law_told" [.str k.code, lots, one, two] S = .ok (.tup [sLots, .int i, .str (codeS e)]) S := by
  rw [call_eq HP.f__law_told rfl]
  have e0 : evSs (ctx P fu (callN P fu n)) b__law_told [some (.str k.code), some lots, some one, some two, none, none, none] S = .ret (.tup [sLots, .int i, .str (codeS e)]) S := by
    have e1 := told_body HP (fu := fu) (n := n) (S := S) (k := k) (lots := lots) (one := one) (two := two)
    rw [h] at e1
    show evSs _ (.cons (.try_ toldB toldH) _) _ _ = _
    refine ss_ret ?_
    rw [eS_try, e1]
    show evH _ toldH (badLots i e) _ _ = _
    unfold toldH
    exact (eH_hit (by exact HP.a_ll) rfl).trans rfl
  exact (congrArg (fun r => fin S (endR r)) e0).trans (fin_ok0 rfl)
theorem told_counts {k : Wh} {lots one two : D} {i : Int} (h : k.run P fu n lots one two S = .exn (badCounts i) S) : callN P fu (n + 1) "_law_told" [.str k.code, lots, one, two] S = .ok (.tup [sCounts, .int i]) S := by
  rw [call_eq HP.f__law_told rfl]
  have e0 : evSs (ctx P fu (callN P fu n)) b__law_told [some (.str k.code), some lots, some one, some two, none, none, none] S = .ret (.tup [sCounts, .int i]) S := by
    have e1 := told_body HP (fu := fu) (n := n) (S := S) (k := k) (lots := lots) (one := one) (two := two)
    rw [h] at e1
    show evSs _ (.cons (.try_ toldB toldH) _) _ _ = _
    refine ss_ret ?_
    rw [eS_try, e1]
    show evH _ toldH (badCounts i) _ _ = _
    unfold toldH
    exact (eH_miss (by exact HP.a_cl)).trans ((eH_hit (by exact HP.a_cc) rfl).trans rfl)
  exact (congrArg (fun r => fin S (endR r)) e0).trans (fin_ok0 rfl)
end
end K03

set_option Elab.async false
set_option linter.all false
set_option maxRecDepth 100000
set_option maxHeartbeats 4000000
/-! Runs that end: Ret, Nx; what is alike. -/
namespace Mi
/-- it returns, and so -/
def Ret (r : SR) (Q : D → Store → Prop) : Prop := ∃ d S, r = .ret d S ∧ Q d S
/-- it goes on, and so -/
def Nx (r : SR) (Q : Env → Store → Prop) : Prop := ∃ δ S, r = .nx δ S ∧ Q δ S
section
variable {src : Src} {F : D → Env → Store → SR} {k : Env → Store → SR} {δ : Env} {S : Store}
theorem for_L {l : List D} (I : List D → Env → Store → Prop) (hok : ∀ l δ S, I l δ S → src.ok S = true) (step : ∀ d r δ S, I (d :: r) δ S → Nx (F d δ S) (I r)) (h0 : I l δ S) : Nx (forL src F l δ S) (I []) := for_inv I hok step l h0
theorem ret_L {l : List D} {Q : D → Store → Prop} (I : List D → Env → Store → Prop) (hok : ∀ l δ S, I l δ S → src.ok S = true) (step : ∀ d r δ S, I (d :: r) δ S → Nx (F d δ S) (I r)) (h0 : I l δ S) (hk : ∀ δ S, I [] δ S → Ret (k δ S) Q) : Ret ((forL src F l δ S).sq k) Q := by
  obtain ⟨δ', S', h, hI⟩ := for_L I hok step h0
  rw [h]
  exact hk _ _ hI
theorem nx_L {l : List D} {Q : Env → Store → Prop} (I : List D → Env → Store → Prop) (hok : ∀ l δ S, I l δ S → src.ok S = true) (step : ∀ d r δ S, I (d :: r) δ S → Nx (F d δ S) (I r)) (h0 : I l δ S) (hk : ∀ δ S, I [] δ S → Nx (k δ S) Q) : Nx ((forL src F l δ S).sq k) Q := by
  obtain ⟨δ', S', h, hI⟩ := for_L I hok step h0
  rw [h]
  exact hk _ _ hI
theorem ret_R {m : Nat} {em : Nat → D} {Q : D → Store → Prop} (I : Nat → Env → Store → Prop) (hok : ∀ i δ S, I i δ S → src.ok S = true) (step : ∀ i δ S, i < m → I i δ S → Nx (F (em i) δ S) (I (i + 1))) (h0 : I 0 δ S) (hk : ∀ δ S, I m δ S → Ret (k δ S) Q) : Ret ((forL src F ((List.range m).map em) δ S).sq k) Q := by
  obtain ⟨δ', S', h, hI⟩ := for_R I hok step h0
  rw [h]
  exact hk _ _ hI
theorem nx_R {m : Nat} {em : Nat → D} {Q : Env → Store → Prop} (I : Nat → Env → Store → Prop) (hok : ∀ i δ S, I i δ S → src.ok S = true) (step : ∀ i δ S, i < m → I i δ S → Nx (F (em i) δ S) (I (i + 1))) (h0 : I 0 δ S) (hk : ∀ δ S, I m δ S → Nx (k δ S) Q) : Nx ((forL src F ((List.range m).map em) δ S).sq k) Q := by
  obtain ⟨δ', S', h, hI⟩ := for_R I hok step h0
  rw [h]
  exact hk _ _ hI
end
theorem atI_nat {ds : List D} {k : Nat} {x : D} (h : ds[k]? = some x) : atI ds (k : Int) = some x := by
  have hk : k < ds.length := by
    by_cases hk : k < ds.length
    · exact hk
    · rw [List.getElem?_eq_none (by omega)] at h
      cases h
  unfold atI ixn
  have h1 : (0 : Int) ≤ (k : Int) := by omega
  have h2 : (k : Int) < ((ds.length : Nat) : Int) := by omega
  rw [if_pos h1, if_pos h2]
  show ds[((k : Nat) : Int).toNat]? = some x
  rw [Int.toNat_natCast]
  exact h
/-- data without lists, rows no longer than may be, so deep at most -/
inductive Pl : Nat → D → Prop where
  | non {k} : Pl k .non
  | bl {k b} : Pl k (.bl b)
  | int {k i} : Pl k (.int i)
  | str {k s} : Pl k (.str s)
  | tup {k ds} : ds.length ≤ mx → (∀ d ∈ ds, Pl k d) → Pl (k + 1) (.tup ds)
theorem Pl.row {k m : Nat} {f : Nat → D} (hm : m ≤ mx) (h : ∀ i, i < m → Pl k (f i)) : Pl (k + 1) (mR m f) := .tup (by rw [len_R]; exact hm) fun d hd => by
  obtain ⟨i, hi, rfl⟩ := List.mem_map.mp hd
  exact h i (List.mem_range.mp hi)
theorem Pl.pair {k : Nat} {a b : D} (ha : Pl k a) (hb : Pl k b) : Pl (k + 1) (.tup [a, b]) := .tup (show 2 ≤ mx by decide) fun d hd => by
  rcases List.mem_cons.mp hd with e | e
  · rw [e]; exact ha
  · rw [List.mem_singleton.mp e]; exact hb
theorem Pl.trip {k : Nat} {a b c : D} (ha : Pl k a) (hb : Pl k b) (hc : Pl k c) : Pl (k + 1) (.tup [a, b, c]) := .tup (show 3 ≤ mx by decide) fun d hd => by
  rcases List.mem_cons.mp hd with e | e
  · rw [e]; exact ha
  · rcases List.mem_cons.mp e with e | e
    · rw [e]; exact hb
    · rw [List.mem_singleton.mp e]; exact hc
end Mi
namespace K03
open Mi
section
variable {P : Prog} (HP : HasL P) {fu : Nat} {S : Store}
include HP
theorem same_ok {k : Nat} {d : D} (h : Pl k d) : ∀ n, callN P fu (n + k + 1) "_law_same" [d, d] S = .ok (.bl true) S := by
  induction h with
  | non => exact fun n => (call_eq HP.f__law_same rfl).trans (fin_ok0 rfl)
  | bl =>
    rename_i k b
    intro n
    rw [call_eq HP.f__law_same rfl]
    have e0 : evSs (ctx P fu (callN P fu (n + k))) b__law_same [some (.bl b), some (.bl b), none] S = .ret (.bl true) S := by
      cases b <;> rfl
    exact (congrArg (fun r => fin S (endR r)) e0).trans (fin_ok0 rfl)
  | int =>
    rename_i k i
    intro n
    rw [call_eq HP.f__law_same rfl]
    have e0 : evSs (ctx P fu (callN P fu (n + k))) b__law_same [some (.int i), some (.int i), none] S = .ret (.bl true) S := by
      simp only [b__law_same, show decide (D.int i = D.non) = false from rfl, show (Ty.int == Ty.bool) = false from rfl, show (Ty.bool == Ty.int) = false from rfl, eSs_cons, eS_if, eS_asg, eS_sub, eS_exp, eS_ret, eS_for, eS_rais, eS_brk, eS_cont, eS_pass, ss_nil', eT_or, eT_and, eT_no, eT_isi, eT_var, eT_cst, eT_op, eT_chn, eT_call, eT_bi, eE_isi, eE_var, eE_op, eE_glo, eE_chn, eE_cst, eE_bi, eE_bif, eE_tup, eE_fre, eE_dic0, eE_neg, eE_no, eE_and, eE_or, eE_ite, eE_call, eE_me, eE_sl, eE_rev, eO_non, eO_som, part_int, eEs_cons, eEs_nil, eF_lst, eF_list, eF_lc, eI_e, eI_f, eI_rng1, eI_enu, eI_z2, eI_z3, src_tup, src_rol, enu_tup, zip_tup, zip_tup3, its_items, List.getElem?_cons_zero, List.getElem?_cons_succ, List.set_cons_zero, List.set_cons_succ, rdVar_some, rb_ok, rb_exn, any_str, any_tup, any_int, any_bl, any_non, tr_bl, pur_at, alloc_at, bnd_at, o_add, o_sub, o_lt, o_le, o_gt, o_ge, o_eqI, o_neI, o_eqS, o_isN, chn_t, chn_f, lf_ok, lf_exn, sq_nx, sq_ret, sq_exn, ctx_glo, ctx_call, ctx_ini, opt_some, o_notinS, o_inS, bi_lenT, bi_intI, bi_intB, bi_abs, bi_max, bi_min, bif_tup, bi_tupT, neg_int', sl_tup, nxO_some, putT_nm, putT_tup, putTs_nil, putTs_cons, Option.bind_some, raiO_1, raiO_2, ix_0, ix_1, beq_self_eq_true, Bool.not_true, Bool.not_false, Bool.false_eq_true, ↓reduceIte, Bool.true_and, Bool.false_and, Bool.and_false, Bool.and_true, decide_true, decide_false, wipe_nil, wipe_cons]
    exact (congrArg (fun r => fin S (endR r)) e0).trans (fin_ok0 rfl)
  | str =>
    rename_i k s
    intro n
    rw [call_eq HP.f__law_same rfl]
    have e0 : evSs (ctx P fu (callN P fu (n + k))) b__law_same [some (.str s), some (.str s), none] S = .ret (.bl true) S := by
      simp only [b__law_same, show decide (D.str s = D.non) = false from rfl, show (Ty.int == Ty.str) = false from rfl, show (Ty.bool == Ty.str) = false from rfl, eSs_cons, eS_if, eS_asg, eS_sub, eS_exp, eS_ret, eS_for, eS_rais, eS_brk, eS_cont, eS_pass, ss_nil', eT_or, eT_and, eT_no, eT_isi, eT_var, eT_cst, eT_op, eT_chn, eT_call, eT_bi, eE_isi, eE_var, eE_op, eE_glo, eE_chn, eE_cst, eE_bi, eE_bif, eE_tup, eE_fre, eE_dic0, eE_neg, eE_no, eE_and, eE_or, eE_ite, eE_call, eE_me, eE_sl, eE_rev, eO_non, eO_som, part_int, eEs_cons, eEs_nil, eF_lst, eF_list, eF_lc, eI_e, eI_f, eI_rng1, eI_enu, eI_z2, eI_z3, src_tup, src_rol, enu_tup, zip_tup, zip_tup3, its_items, List.getElem?_cons_zero, List.getElem?_cons_succ, List.set_cons_zero, List.set_cons_succ, rdVar_some, rb_ok, rb_exn, any_str, any_tup, any_int, any_bl, any_non, tr_bl, pur_at, alloc_at, bnd_at, o_add, o_sub, o_lt, o_le, o_gt, o_ge, o_eqI, o_neI, o_eqS, o_isN, chn_t, chn_f, lf_ok, lf_exn, sq_nx, sq_ret, sq_exn, ctx_glo, ctx_call, ctx_ini, opt_some, o_notinS, o_inS, bi_lenT, bi_intI, bi_intB, bi_abs, bi_max, bi_min, bif_tup, bi_tupT, neg_int', sl_tup, nxO_some, putT_nm, putT_tup, putTs_nil, putTs_cons, Option.bind_some, raiO_1, raiO_2, ix_0, ix_1, beq_self_eq_true, Bool.not_true, Bool.not_false, Bool.false_eq_true, ↓reduceIte, Bool.true_and, Bool.false_and, Bool.and_false, Bool.and_true, decide_true, decide_false, wipe_nil, wipe_cons]
    exact (congrArg (fun r => fin S (endR r)) e0).trans (fin_ok0 rfl)
  | @tup k ds hl _ ih =>
    intro n
    rw [call_eq HP.f__law_same rfl]
    have e0 : Ret (evSs (ctx P fu (callN P fu (n + (k + 1)))) b__law_same [some (.tup ds), some (.tup ds), none] S) fun d S' => d = .bl true ∧ S' = S := by
      simp only [b__law_same, show (Ty.int == Ty.tuple) = false from rfl, show (Ty.bool == Ty.tuple) = false from rfl, show (Ty.str == Ty.tuple) = false from rfl, show (Ty.list == Ty.tuple) = false from rfl, rng_R hl, show decide (D.tup ds = D.non) = false from rfl, eSs_cons, eS_if, eS_asg, eS_sub, eS_exp, eS_ret, eS_for, eS_rais, eS_brk, eS_cont, eS_pass, ss_nil', eT_or, eT_and, eT_no, eT_isi, eT_var, eT_cst, eT_op, eT_chn, eT_call, eT_bi, eE_isi, eE_var, eE_op, eE_glo, eE_chn, eE_cst, eE_bi, eE_bif, eE_tup, eE_fre, eE_dic0, eE_neg, eE_no, eE_and, eE_or, eE_ite, eE_call, eE_me, eE_sl, eE_rev, eO_non, eO_som, part_int, eEs_cons, eEs_nil, eF_lst, eF_list, eF_lc, eI_e, eI_f, eI_rng1, eI_enu, eI_z2, eI_z3, src_tup, src_rol, enu_tup, zip_tup, zip_tup3, its_items, List.getElem?_cons_zero, List.getElem?_cons_succ, List.set_cons_zero, List.set_cons_succ, rdVar_some, rb_ok, rb_exn, any_str, any_tup, any_int, any_bl, any_non, tr_bl, pur_at, alloc_at, bnd_at, o_add, o_sub, o_lt, o_le, o_gt, o_ge, o_eqI, o_neI, o_eqS, o_isN, chn_t, chn_f, lf_ok, lf_exn, sq_nx, sq_ret, sq_exn, ctx_glo, ctx_call, ctx_ini, opt_some, o_notinS, o_inS, bi_lenT, bi_intI, bi_intB, bi_abs, bi_max, bi_min, bif_tup, bi_tupT, neg_int', sl_tup, nxO_some, putT_nm, putT_tup, putTs_nil, putTs_cons, Option.bind_some, raiO_1, raiO_2, ix_0, ix_1, beq_self_eq_true, Bool.not_true, Bool.not_false, Bool.false_eq_true, ↓reduceIte, Bool.true_and, Bool.false_and, Bool.and_false, Bool.and_true, decide_true, decide_false, wipe_nil, wipe_cons]
      refine ret_R (fun _ δ S' => (∃ x, δ = [some (.tup ds), some (.tup ds), x]) ∧ S' = S) (fun _ _ _ _ => rfl) ?_ ⟨⟨_, rfl⟩, rfl⟩ ?_
      · rintro i δ S' hi ⟨⟨x, rfl⟩, rfl⟩
        have hg : ds[i]? = some ds[i] := List.getElem?_eq_getElem hi
        have hx : opD .ix (.tup ds) (.int (i : Int)) S' = .ok ds[i] S' := o_ixT (atI_nat hg)
        refine ⟨[some (.tup ds), some (.tup ds), some (.int (i : Int))], S', ?_, ⟨_, rfl⟩, rfl⟩
        rw [forB_at rfl]
        have hih : callN P fu (n + (k + 1)) "_law_same" [ds[i], ds[i]] S' = .ok (.bl true) S' := ih _ (List.getElem_mem hi) n
        simp only [hx, hih, eSs_cons, eS_if, eS_asg, eS_sub, eS_exp, eS_ret, eS_for, eS_rais, eS_brk, eS_cont, eS_pass, ss_nil', eT_or, eT_and, eT_no, eT_isi, eT_var, eT_cst, eT_op, eT_chn, eT_call, eT_bi, eE_isi, eE_var, eE_op, eE_glo, eE_chn, eE_cst, eE_bi, eE_bif, eE_tup, eE_fre, eE_dic0, eE_neg, eE_no, eE_and, eE_or, eE_ite, eE_call, eE_me, eE_sl, eE_rev, eO_non, eO_som, part_int, eEs_cons, eEs_nil, eF_lst, eF_list, eF_lc, eI_e, eI_f, eI_rng1, eI_enu, eI_z2, eI_z3, src_tup, src_rol, enu_tup, zip_tup, zip_tup3, its_items, List.getElem?_cons_zero, List.getElem?_cons_succ, List.set_cons_zero, List.set_cons_succ, rdVar_some, rb_ok, rb_exn, any_str, any_tup, any_int, any_bl, any_non, tr_bl, pur_at, alloc_at, bnd_at, o_add, o_sub, o_lt, o_le, o_gt, o_ge, o_eqI, o_neI, o_eqS, o_isN, chn_t, chn_f, lf_ok, lf_exn, sq_nx, sq_ret, sq_exn, ctx_glo, ctx_call, ctx_ini, opt_some, o_notinS, o_inS, bi_lenT, bi_intI, bi_intB, bi_abs, bi_max, bi_min, bif_tup, bi_tupT, neg_int', sl_tup, nxO_some, putT_nm, putT_tup, putTs_nil, putTs_cons, Option.bind_some, raiO_1, raiO_2, ix_0, ix_1, beq_self_eq_true, Bool.not_true, Bool.not_false, Bool.false_eq_true, ↓reduceIte, Bool.true_and, Bool.false_and, Bool.and_false, Bool.and_true, decide_true, decide_false, wipe_nil, wipe_cons]
      · rintro δ S' ⟨⟨x, rfl⟩, rfl⟩
        simp only [eSs_cons, eS_if, eS_asg, eS_sub, eS_exp, eS_ret, eS_for, eS_rais, eS_brk, eS_cont, eS_pass, ss_nil', eT_or, eT_and, eT_no, eT_isi, eT_var, eT_cst, eT_op, eT_chn, eT_call, eT_bi, eE_isi, eE_var, eE_op, eE_glo, eE_chn, eE_cst, eE_bi, eE_bif, eE_tup, eE_fre, eE_dic0, eE_neg, eE_no, eE_and, eE_or, eE_ite, eE_call, eE_me, eE_sl, eE_rev, eO_non, eO_som, part_int, eEs_cons, eEs_nil, eF_lst, eF_list, eF_lc, eI_e, eI_f, eI_rng1, eI_enu, eI_z2, eI_z3, src_tup, src_rol, enu_tup, zip_tup, zip_tup3, its_items, List.getElem?_cons_zero, List.getElem?_cons_succ, List.set_cons_zero, List.set_cons_succ, rdVar_some, rb_ok, rb_exn, any_str, any_tup, any_int, any_bl, any_non, tr_bl, pur_at, alloc_at, bnd_at, o_add, o_sub, o_lt, o_le, o_gt, o_ge, o_eqI, o_neI, o_eqS, o_isN, chn_t, chn_f, lf_ok, lf_exn, sq_nx, sq_ret, sq_exn, ctx_glo, ctx_call, ctx_ini, opt_some, o_notinS, o_inS, bi_lenT, bi_intI, bi_intB, bi_abs, bi_max, bi_min, bif_tup, bi_tupT, neg_int', sl_tup, nxO_some, putT_nm, putT_tup, putTs_nil, putTs_cons, Option.bind_some, raiO_1, raiO_2, ix_0, ix_1, beq_self_eq_true, Bool.not_true, Bool.not_false, Bool.false_eq_true, ↓reduceIte, Bool.true_and, Bool.false_and, Bool.and_false, Bool.and_true, decide_true, decide_false, wipe_nil, wipe_cons]
        exact ⟨_, _, rfl, rfl, rfl⟩
    obtain ⟨_, _, e1, rfl, rfl⟩ := e0
    exact (congrArg (fun r => fin _ (endR r)) e1).trans (fin_ok0 rfl)
end
end K03

set_option Elab.async false
set_option linter.all false
set_option maxRecDepth 100000
set_option maxHeartbeats 4000000
/-! k03: small functions of the law. -/
namespace Mi
/-- a call that changes the tape and the counts at most -/
def Res (t g a : Nat) (S : Store) (r : R D) (Q : D → List Int → Prop) : Prop := ∃ d S' bs', r = .ok d S' ∧ Q d bs' ∧ Mem S' t g a bs' ∧ Fr t g a S S'
theorem res_of {P : Prog} {fu n : Nat} {S : Store} {t g a : Nat} {bs : List Int} {f : String} {fn : Fn} {ds : List D} {Q : D → List Int → Prop} (h : P.fns f = some fn) (hl : ds.length = fn.pars) (M0 : Mem S t g a bs)
    (hb : Ret (evSs (ctx P fu (callN P fu n)) fn.body (ds.map some ++ List.replicate (fn.slots - fn.pars) none) S) fun d S' => ∃ bs', Q d bs' ∧ d.bel S.length = true ∧ Mem S' t g a bs' ∧ Ext t g a S S') :
    Res t g a S (callN P fu (n + 1) f ds S) Q := by
  obtain ⟨d, S1, e1, bs', hq, hbel, M1, E1⟩ := hb
  obtain ⟨S2, e2, M2, F2⟩ := fin_mem (d := d) M0 M1 E1 hbel
  refine ⟨d, S2, bs', ?_, hq, M2, F2⟩
  rw [call_eq h hl, e1]
  exact e2
theorem ix_ints {S : Store} {xs : List Int} {i : Int} (h0 : 0 ≤ i) (h1 : i < (xs.length : Int)) : ∃ x, opD .ix (.tup (xs.map D.int)) (.int i) S = .ok (.int x) S ∧ x ∈ xs := by
  obtain ⟨k, rfl⟩ : ∃ k : Nat, i = (k : Int) := ⟨i.toNat, by omega⟩
  have hk : k < xs.length := by omega
  refine ⟨xs[k], o_ixT (atI_nat ?_), List.getElem_mem hk⟩
  rw [List.getElem?_map, List.getElem?_eq_getElem hk]
  rfl
theorem add_tup {S : Store} {xs ys : List D} (h : xs.length + ys.length ≤ mx) : opD .add (.tup xs) (.tup ys) S = .ok (.tup (xs ++ ys)) S := by
  show (if xs.length + ys.length ≤ mx then pur (.tup (xs ++ ys)) else bad : M D) S = _
  rw [if_pos h]
  rfl
theorem cut_lo {m k : Nat} {f : Nat → D} (h : k ≤ m) : cut ((List.range m).map f) none (some (k : Int)) = (List.range k).map f := by
  unfold cut sIx
  have h1 : ¬ (k : Int) < 0 := by omega
  simp only [len_R, if_neg h1, Int.toNat_natCast, Nat.min_eq_left h, Nat.sub_zero, List.drop_zero]
  rw [← List.map_take, List.take_range, Nat.min_eq_left h]
theorem cut_hi {m k : Nat} {f : Nat → D} (h : k < m) : cut ((List.range m).map f) (some ((k : Int) + 1)) none = ((List.range m).map f).drop (k + 1) := by
  unfold cut sIx
  have h1 : ¬ (k : Int) + 1 < 0 := by omega
  have h2 : ((k : Int) + 1).toNat = k + 1 := by omega
  simp only [len_R, if_neg h1, h2, Nat.min_eq_left (show k + 1 ≤ m by omega)]
  rw [List.take_of_length_le (by rw [List.length_drop, len_R]; exact Nat.le_refl _)]
def upd (f : Nat → D) (k : Nat) (x : D) : Nat → D := fun i => if i = k then x else f i
theorem with_eq {m k : Nat} {f : Nat → D} {x : D} (h : k < m) : (List.range k).map f ++ [x] ++ ((List.range m).map f).drop (k + 1) = (List.range m).map (upd f k x) := by
  apply List.ext_getElem?
  intro i
  by_cases h1 : i < k
  · rw [List.append_assoc, List.getElem?_append_left (by rw [len_R]; exact h1), List.getElem?_map, List.getElem?_map, List.getElem?_range h1, List.getElem?_range (by omega)]
    show some (f i) = some (if i = k then x else f i)
    rw [if_neg (by omega)]
  · by_cases h2 : i = k
    · subst h2
      rw [List.append_assoc, List.getElem?_append_right (by rw [len_R]; exact Nat.le_refl _), len_R, Nat.sub_self, List.getElem?_map, List.getElem?_range h]
      show some x = some (if i = i then x else f i)
      rw [if_pos rfl]
    · rw [List.getElem?_append_right (by rw [List.length_append, len_R]; show k + 1 ≤ i; omega), List.length_append, len_R, List.getElem?_drop, List.getElem?_map, List.getElem?_map]
      rw [show k + 1 + (i - (k + [x].length)) = i from by show k + 1 + (i - (k + 1)) = i; omega]
      by_cases h3 : i < m
      · rw [List.getElem?_range h3]
        show some (f i) = some (if i = k then x else f i)
        rw [if_neg h2]
      · rw [List.getElem?_eq_none (by rw [List.length_range]; omega)]
        rfl
end Mi
namespace K03
open Mi
section
variable {P : Prog} (HP : HasL P) {fu n : Nat} {S : Store} {t g a : Nat} {bs : List Int}
include HP
theorem draw (M0 : Mem S t g a bs) {many : Int} (hm : 0 < many) (hm2 : many < 2 ^ 64) :
    ∃ r S', callN P fu (n + 1) "_law_draw" [.ref t, .int many] S = .ok (.int r) S' ∧ (0 ≤ r ∧ r < many) ∧ Mem S' t g a bs ∧ Fr t g a S S' := by
  refine draw_ok (c1 := 7664345821815920749) (c2 := 21) (c3 := 2305843009213693951) (c4 := 16381) HP.f__law_draw (by decide) (by decide) (by decide) M0 hm ?_
  have : many.natAbs < 2 ^ 64 := by omega
  exact Nat.lt_of_lt_of_le ((Nat.log2_lt (by omega)).mpr this) (by decide)
theorem with_ok {m k : Nat} {f : Nat → D} {x : D} (h : k < m) (hm : m < mx) (hb : ∀ i, i < m → (f i).bel S.length = true) (hx : x.bel S.length = true) : callN P fu (n + 1) "_law_with" [mR m f, .int (k : Int), x] S = .ok (mR m (upd f k x)) S := by
  rw [call_eq HP.f__law_with rfl]
  have e0 : evSs (ctx P fu (callN P fu n)) b__law_with [some (mR m f), some (.int (k : Int)), some x] S = .ret (mR m (upd f k x)) S := by
    have s1 : slD (mR m f) none (some (k : Int)) S = .ok (.tup ((List.range k).map f)) S := by
      show slD (.tup _) _ _ S = _
      rw [sl_tup, cut_lo (Nat.le_of_lt h)]
    have s2 : slD (mR m f) (some ((k : Int) + 1)) none S = .ok (.tup (((List.range m).map f).drop (k + 1))) S := by
      show slD (.tup _) _ _ S = _
      rw [sl_tup, cut_hi h]
    have a1 : opD .add (.tup ((List.range k).map f)) (.tup [x]) S = .ok (.tup ((List.range k).map f ++ [x])) S := add_tup (by rw [len_R]; show k + 1 ≤ mx; omega)
    have a2 : opD .add (.tup ((List.range k).map f ++ [x])) (.tup (((List.range m).map f).drop (k + 1))) S = .ok (mR m (upd f k x)) S := by
      rw [add_tup (by rw [List.length_append, len_R, List.length_drop, len_R]; show k + 1 + (m - (k + 1)) ≤ mx; omega), with_eq h]
      rfl
    simp only [b__law_with, s1, s2, a1, a2, eSs_cons, eS_if, eS_asg, eS_sub, eS_exp, eS_ret, eS_for, eS_rais, eS_brk, eS_cont, eS_pass, ss_nil', eT_or, eT_and, eT_no, eT_isi, eT_var, eT_cst, eT_op, eT_chn, eT_call, eT_bi, eE_isi, eE_var, eE_op, eE_glo, eE_chn, eE_cst, eE_bi, eE_bif, eE_tup, eE_fre, eE_dic0, eE_neg, eE_no, eE_and, eE_or, eE_ite, eE_call, eE_me, eE_sl, eE_rev, eO_non, eO_som, part_int, eEs_cons, eEs_nil, eF_lst, eF_list, eF_lc, eI_e, eI_f, eI_rng1, eI_enu, eI_z2, eI_z3, src_tup, src_rol, enu_tup, zip_tup, zip_tup3, its_items, List.getElem?_cons_zero, List.getElem?_cons_succ, List.set_cons_zero, List.set_cons_succ, rdVar_some, rb_ok, rb_exn, any_str, any_tup, any_int, any_bl, any_non, tr_bl, pur_at, alloc_at, bnd_at, o_add, o_sub, o_lt, o_le, o_gt, o_ge, o_eqI, o_neI, o_eqS, o_isN, chn_t, chn_f, lf_ok, lf_exn, sq_nx, sq_ret, sq_exn, ctx_glo, ctx_call, ctx_ini, opt_some, o_notinS, o_inS, bi_lenT, bi_intI, bi_intB, bi_abs, bi_max, bi_min, bif_tup, bi_tupT, neg_int', sl_tup, nxO_some, putT_nm, putT_tup, putTs_nil, putTs_cons, Option.bind_some, raiO_1, raiO_2, ix_0, ix_1, beq_self_eq_true, Bool.not_true, Bool.not_false, Bool.false_eq_true, ↓reduceIte, Bool.true_and, Bool.false_and, Bool.and_false, Bool.and_true, decide_true, decide_false, wipe_nil, wipe_cons]
  refine (congrArg (fun r => fin S (endR r)) e0).trans (fin_ok0 (bels_R fun i hi => ?_))
  unfold upd
  split
  · exact hx
  · exact hb i hi
theorem with_int {m k : Nat} {f : Nat → Int} {x : Int} (h : k < m) (hm : m < mx) : callN P fu (n + 1) "_law_with" [dI m f, .int (k : Int), .int x] S = .ok (dI m fun i => if i = k then x else f i) S := by
  have := with_ok HP (fu := fu) (n := n) (S := S) (f := fun i => .int (f i)) (x := .int x) h hm (fun _ _ => rfl) rfl
  refine this.trans ?_
  have e : upd (fun i => .int (f i)) k (.int x) = fun i => D.int (if i = k then x else f i) := by
    funext i
    unfold upd
    by_cases hi : i = k
    · rw [if_pos hi, if_pos hi]
    · rw [if_neg hi, if_neg hi]
  rw [e]
  rfl
variable {m : Nat} {w : Nat → List Nat} {z f h : Nat → Int}
theorem sizes_ok (hm : m ≤ mx) : callN P fu (n + 1) "_law_sizes" [dL m w z] S = .ok (dI m z) S := by
  rw [call_eq HP.f__law_sizes rfl]
  have e0 : evSs (ctx P fu (callN P fu n)) b__law_sizes [some (dL m w z), none] S = .ret (dI m z) S := by
    have hF := evF_R (S := S) (c := ctx P fu (callN P fu n)) (δ := [some (dL m w z), none]) (own := [1]) (elt := .op .ix (.var 1) (.cst (.int 1))) (tg := .nm 1) (it := .e (.var 0)) (em := fun i => D.tup [.str (w i), .int (z i)]) (gg := fun i => .int (z i)) hm (by
      have hz : srcD (dL m w z) S = .ok (.its ((List.range m).map fun i => D.tup [.str (w i), .int (z i)])) S := src_tup
      simp only [hz, eSs_cons, eS_if, eS_asg, eS_sub, eS_exp, eS_ret, eS_for, eS_rais, eS_brk, eS_cont, eS_pass, ss_nil', eT_or, eT_and, eT_no, eT_isi, eT_var, eT_cst, eT_op, eT_chn, eT_call, eT_bi, eE_isi, eE_var, eE_op, eE_glo, eE_chn, eE_cst, eE_bi, eE_bif, eE_tup, eE_fre, eE_dic0, eE_neg, eE_no, eE_and, eE_or, eE_ite, eE_call, eE_me, eE_sl, eE_rev, eO_non, eO_som, part_int, eEs_cons, eEs_nil, eF_lst, eF_list, eF_lc, eI_e, eI_f, eI_rng1, eI_enu, eI_z2, eI_z3, src_tup, src_rol, enu_tup, zip_tup, zip_tup3, its_items, List.getElem?_cons_zero, List.getElem?_cons_succ, List.set_cons_zero, List.set_cons_succ, rdVar_some, rb_ok, rb_exn, any_str, any_tup, any_int, any_bl, any_non, tr_bl, pur_at, alloc_at, bnd_at, o_add, o_sub, o_lt, o_le, o_gt, o_ge, o_eqI, o_neI, o_eqS, o_isN, chn_t, chn_f, lf_ok, lf_exn, sq_nx, sq_ret, sq_exn, ctx_glo, ctx_call, ctx_ini, opt_some, o_notinS, o_inS, bi_lenT, bi_intI, bi_intB, bi_abs, bi_max, bi_min, bif_tup, bi_tupT, neg_int', sl_tup, nxO_some, putT_nm, putT_tup, putTs_nil, putTs_cons, Option.bind_some, raiO_1, raiO_2, ix_0, ix_1, beq_self_eq_true, Bool.not_true, Bool.not_false, Bool.false_eq_true, ↓reduceIte, Bool.true_and, Bool.false_and, Bool.and_false, Bool.and_true, decide_true, decide_false, wipe_nil, wipe_cons]) (fun i hi => lcF_at rfl (by
        simp only [eSs_cons, eS_if, eS_asg, eS_sub, eS_exp, eS_ret, eS_for, eS_rais, eS_brk, eS_cont, eS_pass, ss_nil', eT_or, eT_and, eT_no, eT_isi, eT_var, eT_cst, eT_op, eT_chn, eT_call, eT_bi, eE_isi, eE_var, eE_op, eE_glo, eE_chn, eE_cst, eE_bi, eE_bif, eE_tup, eE_fre, eE_dic0, eE_neg, eE_no, eE_and, eE_or, eE_ite, eE_call, eE_me, eE_sl, eE_rev, eO_non, eO_som, part_int, eEs_cons, eEs_nil, eF_lst, eF_list, eF_lc, eI_e, eI_f, eI_rng1, eI_enu, eI_z2, eI_z3, src_tup, src_rol, enu_tup, zip_tup, zip_tup3, its_items, List.getElem?_cons_zero, List.getElem?_cons_succ, List.set_cons_zero, List.set_cons_succ, rdVar_some, rb_ok, rb_exn, any_str, any_tup, any_int, any_bl, any_non, tr_bl, pur_at, alloc_at, bnd_at, o_add, o_sub, o_lt, o_le, o_gt, o_ge, o_eqI, o_neI, o_eqS, o_isN, chn_t, chn_f, lf_ok, lf_exn, sq_nx, sq_ret, sq_exn, ctx_glo, ctx_call, ctx_ini, opt_some, o_notinS, o_inS, bi_lenT, bi_intI, bi_intB, bi_abs, bi_max, bi_min, bif_tup, bi_tupT, neg_int', sl_tup, nxO_some, putT_nm, putT_tup, putTs_nil, putTs_cons, Option.bind_some, raiO_1, raiO_2, ix_0, ix_1, beq_self_eq_true, Bool.not_true, Bool.not_false, Bool.false_eq_true, ↓reduceIte, Bool.true_and, Bool.false_and, Bool.and_false, Bool.and_true, decide_true, decide_false, wipe_nil, wipe_cons]))
    simp only [b__law_sizes, eSs_cons, eS_ret, eE_bif, hF, rb_ok, bif_tup, lf_ok, sq_ret]
    rfl
  exact (congrArg (fun r => fin S (endR r)) e0).trans (fin_ok0 bel_dI)
theorem part_ok (hm : m ≤ mx) : callN P fu (n + 1) "_law_part" [dL m w z, dI m f, dI m h] S = .ok (dI m (lcF2 z f h)) S := by
  rw [call_eq HP.f__law_part rfl]
  have e0 : evSs (ctx P fu (callN P fu n)) b__law_part [some (dL m w z), some (dI m f), some (dI m h), none] S = .ret (dI m (lcF2 z f h)) S := by
    have hF := evF_R (S := S) (c := ctx P fu (callN P fu n)) (δ := [some (dL m w z), some (dI m f), some (dI m h), none]) (own := [3]) (elt := (.bi .max2 (.cons (.cst (.int 0)) (.cons (.op .sub (.op .add (.op .ix (.var 1) (.var 3)) (.op .ix (.var 2) (.var 3))) (.op .ix (.op .ix (.var 0) (.var 3)) (.cst (.int 1)))) .nil)))) (tg := .nm 3) (it := .rng1 (.bi .len (.cons (.var 0) .nil))) (em := fun (i : Nat) => D.int (i : Int)) (gg := fun i => .int (lcF2 z f h i)) hm (by
      have hl : biD .len [dL m w z] S = .ok (.int (m : Int)) S := len_mR
      simp only [hl, rng_R hm, eSs_cons, eS_if, eS_asg, eS_sub, eS_exp, eS_ret, eS_for, eS_rais, eS_brk, eS_cont, eS_pass, ss_nil', eT_or, eT_and, eT_no, eT_isi, eT_var, eT_cst, eT_op, eT_chn, eT_call, eT_bi, eE_isi, eE_var, eE_op, eE_glo, eE_chn, eE_cst, eE_bi, eE_bif, eE_tup, eE_fre, eE_dic0, eE_neg, eE_no, eE_and, eE_or, eE_ite, eE_call, eE_me, eE_sl, eE_rev, eO_non, eO_som, part_int, eEs_cons, eEs_nil, eF_lst, eF_list, eF_lc, eI_e, eI_f, eI_rng1, eI_enu, eI_z2, eI_z3, src_tup, src_rol, enu_tup, zip_tup, zip_tup3, its_items, List.getElem?_cons_zero, List.getElem?_cons_succ, List.set_cons_zero, List.set_cons_succ, rdVar_some, rb_ok, rb_exn, any_str, any_tup, any_int, any_bl, any_non, tr_bl, pur_at, alloc_at, bnd_at, o_add, o_sub, o_lt, o_le, o_gt, o_ge, o_eqI, o_neI, o_eqS, o_isN, chn_t, chn_f, lf_ok, lf_exn, sq_nx, sq_ret, sq_exn, ctx_glo, ctx_call, ctx_ini, opt_some, o_notinS, o_inS, bi_lenT, bi_intI, bi_intB, bi_abs, bi_max, bi_min, bif_tup, bi_tupT, neg_int', sl_tup, nxO_some, putT_nm, putT_tup, putTs_nil, putTs_cons, Option.bind_some, raiO_1, raiO_2, ix_0, ix_1, beq_self_eq_true, Bool.not_true, Bool.not_false, Bool.false_eq_true, ↓reduceIte, Bool.true_and, Bool.false_and, Bool.and_false, Bool.and_true, decide_true, decide_false, wipe_nil, wipe_cons]) (fun i hi => lcF_at rfl (by
        have h1 : opD .ix (dI m f) (.int (i : Int)) S = .ok (.int (f i)) S := ix_R hi
        have h2 : opD .ix (dI m h) (.int (i : Int)) S = .ok (.int (h i)) S := ix_R hi
        have h3 : opD .ix (dL m w z) (.int (i : Int)) S = .ok (.tup [.str (w i), .int (z i)]) S := ix_R hi
        simp only [h1, h2, h3, eSs_cons, eS_if, eS_asg, eS_sub, eS_exp, eS_ret, eS_for, eS_rais, eS_brk, eS_cont, eS_pass, ss_nil', eT_or, eT_and, eT_no, eT_isi, eT_var, eT_cst, eT_op, eT_chn, eT_call, eT_bi, eE_isi, eE_var, eE_op, eE_glo, eE_chn, eE_cst, eE_bi, eE_bif, eE_tup, eE_fre, eE_dic0, eE_neg, eE_no, eE_and, eE_or, eE_ite, eE_call, eE_me, eE_sl, eE_rev, eO_non, eO_som, part_int, eEs_cons, eEs_nil, eF_lst, eF_list, eF_lc, eI_e, eI_f, eI_rng1, eI_enu, eI_z2, eI_z3, src_tup, src_rol, enu_tup, zip_tup, zip_tup3, its_items, List.getElem?_cons_zero, List.getElem?_cons_succ, List.set_cons_zero, List.set_cons_succ, rdVar_some, rb_ok, rb_exn, any_str, any_tup, any_int, any_bl, any_non, tr_bl, pur_at, alloc_at, bnd_at, o_add, o_sub, o_lt, o_le, o_gt, o_ge, o_eqI, o_neI, o_eqS, o_isN, chn_t, chn_f, lf_ok, lf_exn, sq_nx, sq_ret, sq_exn, ctx_glo, ctx_call, ctx_ini, opt_some, o_notinS, o_inS, bi_lenT, bi_intI, bi_intB, bi_abs, bi_max, bi_min, bif_tup, bi_tupT, neg_int', sl_tup, nxO_some, putT_nm, putT_tup, putTs_nil, putTs_cons, Option.bind_some, raiO_1, raiO_2, ix_0, ix_1, beq_self_eq_true, Bool.not_true, Bool.not_false, Bool.false_eq_true, ↓reduceIte, Bool.true_and, Bool.false_and, Bool.and_false, Bool.and_true, decide_true, decide_false, wipe_nil, wipe_cons]
        rfl))
    simp only [b__law_part, eSs_cons, eS_ret, eE_bif, hF, rb_ok, bif_tup, lf_ok, sq_ret]
    rfl
  exact (congrArg (fun r => fin S (endR r)) e0).trans (fin_ok0 bel_dI)
theorem lbelow_ok (hm : m ≤ mx) : callN P fu (n + 1) "_law_is_below" [dI m f, dI m h] S = .ok (.bl (leR m f h)) S := by
  rw [call_eq HP.f__law_is_below rfl]
  have e0 : evSs (ctx P fu (callN P fu n)) b__law_is_below [some (dI m f), some (dI m h), none] S = .ret (.bl (leR m f h)) S := by
    have hl : biD .len [dI m f] S = .ok (.int (m : Int)) S := len_mR
    simp only [b__law_is_below, hl, rng_R hm, eSs_cons, eS_if, eS_asg, eS_sub, eS_exp, eS_ret, eS_for, eS_rais, eS_brk, eS_cont, eS_pass, ss_nil', eT_or, eT_and, eT_no, eT_isi, eT_var, eT_cst, eT_op, eT_chn, eT_call, eT_bi, eE_isi, eE_var, eE_op, eE_glo, eE_chn, eE_cst, eE_bi, eE_bif, eE_tup, eE_fre, eE_dic0, eE_neg, eE_no, eE_and, eE_or, eE_ite, eE_call, eE_me, eE_sl, eE_rev, eO_non, eO_som, part_int, eEs_cons, eEs_nil, eF_lst, eF_list, eF_lc, eI_e, eI_f, eI_rng1, eI_enu, eI_z2, eI_z3, src_tup, src_rol, enu_tup, zip_tup, zip_tup3, its_items, List.getElem?_cons_zero, List.getElem?_cons_succ, List.set_cons_zero, List.set_cons_succ, rdVar_some, rb_ok, rb_exn, any_str, any_tup, any_int, any_bl, any_non, tr_bl, pur_at, alloc_at, bnd_at, o_add, o_sub, o_lt, o_le, o_gt, o_ge, o_eqI, o_neI, o_eqS, o_isN, chn_t, chn_f, lf_ok, lf_exn, sq_nx, sq_ret, sq_exn, ctx_glo, ctx_call, ctx_ini, opt_some, o_notinS, o_inS, bi_lenT, bi_intI, bi_intB, bi_abs, bi_max, bi_min, bif_tup, bi_tupT, neg_int', sl_tup, nxO_some, putT_nm, putT_tup, putTs_nil, putTs_cons, Option.bind_some, raiO_1, raiO_2, ix_0, ix_1, beq_self_eq_true, Bool.not_true, Bool.not_false, Bool.false_eq_true, ↓reduceIte, Bool.true_and, Bool.false_and, Bool.and_false, Bool.and_true, decide_true, decide_false, wipe_nil, wipe_cons]
    have loop : ∀ (src : List D) (F : D → Env → Store → SR) (l : List Nat) (o : Option D), (∀ i ∈ l, ∀ o, F (.int (i : Int)) [some (dI m f), some (dI m h), o] S = if f i ≤ h i then .nx [some (dI m f), some (dI m h), some (.int (i : Int))] S else .ret (.bl false) S) →
        ∃ δ', forL (.its src) F (l.map fun (i : Nat) => D.int (i : Int)) [some (dI m f), some (dI m h), o] S = if (l.all fun i => decide (f i ≤ h i)) = true then .nx δ' S else .ret (.bl false) S := by
      intro src F l
      induction l with
      | nil => intro o _; exact ⟨_, for_nil rfl⟩
      | cons i l ih =>
        intro o hF
        have hi := hF i List.mem_cons_self o
        by_cases hc : f i ≤ h i
        · obtain ⟨δ', h'⟩ := ih (some (.int (i : Int))) fun j hj => hF j (List.mem_cons_of_mem _ hj)
          refine ⟨δ', ?_⟩
          rw [List.all_cons, decide_eq_true hc, Bool.true_and, ← h']
          rw [if_pos hc] at hi
          exact for_nx rfl hi
        · refine ⟨[], ?_⟩
          rw [List.all_cons, decide_eq_false hc, Bool.false_and]
          rw [if_neg hc] at hi
          exact for_ret rfl hi
    obtain ⟨δ', h'⟩ := loop _ (forB (ctx P fu (callN P fu n)) (.nm 2) (.cons (.if_ (.op .gt (.op .ix (.var 0) (.var 2)) (.op .ix (.var 1) (.var 2))) (.cons (.ret (.cst (.bl false))) .nil) .nil) .nil)) (List.range m) none (by
      intro i hi o
      have hi := List.mem_range.mp hi
      have h1 : opD .ix (dI m f) (.int (i : Int)) S = .ok (.int (f i)) S := ix_R hi
      have h2 : opD .ix (dI m h) (.int (i : Int)) S = .ok (.int (h i)) S := ix_R hi
      rw [forB_at rfl]
      by_cases hc : f i ≤ h i
      · have hd : decide (h i < f i) = false := decide_eq_false (by omega)
        rw [if_pos hc]
        simp only [h1, h2, hd, eSs_cons, eS_if, eS_asg, eS_sub, eS_exp, eS_ret, eS_for, eS_rais, eS_brk, eS_cont, eS_pass, ss_nil', eT_or, eT_and, eT_no, eT_isi, eT_var, eT_cst, eT_op, eT_chn, eT_call, eT_bi, eE_isi, eE_var, eE_op, eE_glo, eE_chn, eE_cst, eE_bi, eE_bif, eE_tup, eE_fre, eE_dic0, eE_neg, eE_no, eE_and, eE_or, eE_ite, eE_call, eE_me, eE_sl, eE_rev, eO_non, eO_som, part_int, eEs_cons, eEs_nil, eF_lst, eF_list, eF_lc, eI_e, eI_f, eI_rng1, eI_enu, eI_z2, eI_z3, src_tup, src_rol, enu_tup, zip_tup, zip_tup3, its_items, List.getElem?_cons_zero, List.getElem?_cons_succ, List.set_cons_zero, List.set_cons_succ, rdVar_some, rb_ok, rb_exn, any_str, any_tup, any_int, any_bl, any_non, tr_bl, pur_at, alloc_at, bnd_at, o_add, o_sub, o_lt, o_le, o_gt, o_ge, o_eqI, o_neI, o_eqS, o_isN, chn_t, chn_f, lf_ok, lf_exn, sq_nx, sq_ret, sq_exn, ctx_glo, ctx_call, ctx_ini, opt_some, o_notinS, o_inS, bi_lenT, bi_intI, bi_intB, bi_abs, bi_max, bi_min, bif_tup, bi_tupT, neg_int', sl_tup, nxO_some, putT_nm, putT_tup, putTs_nil, putTs_cons, Option.bind_some, raiO_1, raiO_2, ix_0, ix_1, beq_self_eq_true, Bool.not_true, Bool.not_false, Bool.false_eq_true, ↓reduceIte, Bool.true_and, Bool.false_and, Bool.and_false, Bool.and_true, decide_true, decide_false, wipe_nil, wipe_cons]
      · have hd : decide (h i < f i) = true := decide_eq_true (by omega)
        rw [if_neg hc]
        simp only [h1, h2, hd, eSs_cons, eS_if, eS_asg, eS_sub, eS_exp, eS_ret, eS_for, eS_rais, eS_brk, eS_cont, eS_pass, ss_nil', eT_or, eT_and, eT_no, eT_isi, eT_var, eT_cst, eT_op, eT_chn, eT_call, eT_bi, eE_isi, eE_var, eE_op, eE_glo, eE_chn, eE_cst, eE_bi, eE_bif, eE_tup, eE_fre, eE_dic0, eE_neg, eE_no, eE_and, eE_or, eE_ite, eE_call, eE_me, eE_sl, eE_rev, eO_non, eO_som, part_int, eEs_cons, eEs_nil, eF_lst, eF_list, eF_lc, eI_e, eI_f, eI_rng1, eI_enu, eI_z2, eI_z3, src_tup, src_rol, enu_tup, zip_tup, zip_tup3, its_items, List.getElem?_cons_zero, List.getElem?_cons_succ, List.set_cons_zero, List.set_cons_succ, rdVar_some, rb_ok, rb_exn, any_str, any_tup, any_int, any_bl, any_non, tr_bl, pur_at, alloc_at, bnd_at, o_add, o_sub, o_lt, o_le, o_gt, o_ge, o_eqI, o_neI, o_eqS, o_isN, chn_t, chn_f, lf_ok, lf_exn, sq_nx, sq_ret, sq_exn, ctx_glo, ctx_call, ctx_ini, opt_some, o_notinS, o_inS, bi_lenT, bi_intI, bi_intB, bi_abs, bi_max, bi_min, bif_tup, bi_tupT, neg_int', sl_tup, nxO_some, putT_nm, putT_tup, putTs_nil, putTs_cons, Option.bind_some, raiO_1, raiO_2, ix_0, ix_1, beq_self_eq_true, Bool.not_true, Bool.not_false, Bool.false_eq_true, ↓reduceIte, Bool.true_and, Bool.false_and, Bool.and_false, Bool.and_true, decide_true, decide_false, wipe_nil, wipe_cons])
    rw [h']
    show (if leR m f h = true then SR.nx δ' S else SR.ret (.bl false) S).sq _ = _
    cases leR m f h with
    | true => simp only [eSs_cons, eS_if, eS_asg, eS_sub, eS_exp, eS_ret, eS_for, eS_rais, eS_brk, eS_cont, eS_pass, ss_nil', eT_or, eT_and, eT_no, eT_isi, eT_var, eT_cst, eT_op, eT_chn, eT_call, eT_bi, eE_isi, eE_var, eE_op, eE_glo, eE_chn, eE_cst, eE_bi, eE_bif, eE_tup, eE_fre, eE_dic0, eE_neg, eE_no, eE_and, eE_or, eE_ite, eE_call, eE_me, eE_sl, eE_rev, eO_non, eO_som, part_int, eEs_cons, eEs_nil, eF_lst, eF_list, eF_lc, eI_e, eI_f, eI_rng1, eI_enu, eI_z2, eI_z3, src_tup, src_rol, enu_tup, zip_tup, zip_tup3, its_items, List.getElem?_cons_zero, List.getElem?_cons_succ, List.set_cons_zero, List.set_cons_succ, rdVar_some, rb_ok, rb_exn, any_str, any_tup, any_int, any_bl, any_non, tr_bl, pur_at, alloc_at, bnd_at, o_add, o_sub, o_lt, o_le, o_gt, o_ge, o_eqI, o_neI, o_eqS, o_isN, chn_t, chn_f, lf_ok, lf_exn, sq_nx, sq_ret, sq_exn, ctx_glo, ctx_call, ctx_ini, opt_some, o_notinS, o_inS, bi_lenT, bi_intI, bi_intB, bi_abs, bi_max, bi_min, bif_tup, bi_tupT, neg_int', sl_tup, nxO_some, putT_nm, putT_tup, putTs_nil, putTs_cons, Option.bind_some, raiO_1, raiO_2, ix_0, ix_1, beq_self_eq_true, Bool.not_true, Bool.not_false, Bool.false_eq_true, ↓reduceIte, Bool.true_and, Bool.false_and, Bool.and_false, Bool.and_true, decide_true, decide_false, wipe_nil, wipe_cons]
    | false => simp only [eSs_cons, eS_if, eS_asg, eS_sub, eS_exp, eS_ret, eS_for, eS_rais, eS_brk, eS_cont, eS_pass, ss_nil', eT_or, eT_and, eT_no, eT_isi, eT_var, eT_cst, eT_op, eT_chn, eT_call, eT_bi, eE_isi, eE_var, eE_op, eE_glo, eE_chn, eE_cst, eE_bi, eE_bif, eE_tup, eE_fre, eE_dic0, eE_neg, eE_no, eE_and, eE_or, eE_ite, eE_call, eE_me, eE_sl, eE_rev, eO_non, eO_som, part_int, eEs_cons, eEs_nil, eF_lst, eF_list, eF_lc, eI_e, eI_f, eI_rng1, eI_enu, eI_z2, eI_z3, src_tup, src_rol, enu_tup, zip_tup, zip_tup3, its_items, List.getElem?_cons_zero, List.getElem?_cons_succ, List.set_cons_zero, List.set_cons_succ, rdVar_some, rb_ok, rb_exn, any_str, any_tup, any_int, any_bl, any_non, tr_bl, pur_at, alloc_at, bnd_at, o_add, o_sub, o_lt, o_le, o_gt, o_ge, o_eqI, o_neI, o_eqS, o_isN, chn_t, chn_f, lf_ok, lf_exn, sq_nx, sq_ret, sq_exn, ctx_glo, ctx_call, ctx_ini, opt_some, o_notinS, o_inS, bi_lenT, bi_intI, bi_intB, bi_abs, bi_max, bi_min, bif_tup, bi_tupT, neg_int', sl_tup, nxO_some, putT_nm, putT_tup, putTs_nil, putTs_cons, Option.bind_some, raiO_1, raiO_2, ix_0, ix_1, beq_self_eq_true, Bool.not_true, Bool.not_false, Bool.false_eq_true, ↓reduceIte, Bool.true_and, Bool.false_and, Bool.and_false, Bool.and_true, decide_true, decide_false, wipe_nil, wipe_cons]
  exact (congrArg (fun r => fin S (endR r)) e0).trans (fin_ok0 rfl)
theorem upto_ok (M0 : Mem S t g a bs) {top : Int} (h0 : 0 ≤ top) (h1 : top < 2 ^ 62) : Res t g a S (callN P fu (n + 2) "_law_upto" [.ref t, .int top] S) fun d bs' => bs' = bs ∧ ∃ r, d = .int r ∧ 0 ≤ r ∧ r ≤ top := by
  refine res_of HP.f__law_upto rfl M0 ?_
  show Ret (evSs _ b__law_upto [some (.ref t), some (.int top), none] S) _
  obtain ⟨r, S1, e1, hr, M1, F1⟩ := draw HP (fu := fu) (n := n) M0 (many := 4) (by decide) (by decide)
  by_cases c1 : (r == 0) = true
  · simp only [b__law_upto, e1, c1, eSs_cons, eS_if, eS_asg, eS_sub, eS_exp, eS_ret, eS_for, eS_rais, eS_brk, eS_cont, eS_pass, ss_nil', eT_or, eT_and, eT_no, eT_isi, eT_var, eT_cst, eT_op, eT_chn, eT_call, eT_bi, eE_isi, eE_var, eE_op, eE_glo, eE_chn, eE_cst, eE_bi, eE_bif, eE_tup, eE_fre, eE_dic0, eE_neg, eE_no, eE_and, eE_or, eE_ite, eE_call, eE_me, eE_sl, eE_rev, eO_non, eO_som, part_int, eEs_cons, eEs_nil, eF_lst, eF_list, eF_lc, eI_e, eI_f, eI_rng1, eI_enu, eI_z2, eI_z3, src_tup, src_rol, enu_tup, zip_tup, zip_tup3, its_items, List.getElem?_cons_zero, List.getElem?_cons_succ, List.set_cons_zero, List.set_cons_succ, rdVar_some, rb_ok, rb_exn, any_str, any_tup, any_int, any_bl, any_non, tr_bl, pur_at, alloc_at, bnd_at, o_add, o_sub, o_lt, o_le, o_gt, o_ge, o_eqI, o_neI, o_eqS, o_isN, chn_t, chn_f, lf_ok, lf_exn, sq_nx, sq_ret, sq_exn, ctx_glo, ctx_call, ctx_ini, opt_some, o_notinS, o_inS, bi_lenT, bi_intI, bi_intB, bi_abs, bi_max, bi_min, bif_tup, bi_tupT, neg_int', sl_tup, nxO_some, putT_nm, putT_tup, putTs_nil, putTs_cons, Option.bind_some, raiO_1, raiO_2, ix_0, ix_1, beq_self_eq_true, Bool.not_true, Bool.not_false, Bool.false_eq_true, ↓reduceIte, Bool.true_and, Bool.false_and, Bool.and_false, Bool.and_true, decide_true, decide_false, wipe_nil, wipe_cons]
    exact ⟨_, _, rfl, bs, ⟨rfl, 0, rfl, by omega, by omega⟩, rfl, M1, F1.ext⟩
  · have c1 : (r == 0) = false := by simpa using c1
    by_cases c2 : top ≤ 0
    · simp only [b__law_upto, e1, c1, decide_eq_true c2, eSs_cons, eS_if, eS_asg, eS_sub, eS_exp, eS_ret, eS_for, eS_rais, eS_brk, eS_cont, eS_pass, ss_nil', eT_or, eT_and, eT_no, eT_isi, eT_var, eT_cst, eT_op, eT_chn, eT_call, eT_bi, eE_isi, eE_var, eE_op, eE_glo, eE_chn, eE_cst, eE_bi, eE_bif, eE_tup, eE_fre, eE_dic0, eE_neg, eE_no, eE_and, eE_or, eE_ite, eE_call, eE_me, eE_sl, eE_rev, eO_non, eO_som, part_int, eEs_cons, eEs_nil, eF_lst, eF_list, eF_lc, eI_e, eI_f, eI_rng1, eI_enu, eI_z2, eI_z3, src_tup, src_rol, enu_tup, zip_tup, zip_tup3, its_items, List.getElem?_cons_zero, List.getElem?_cons_succ, List.set_cons_zero, List.set_cons_succ, rdVar_some, rb_ok, rb_exn, any_str, any_tup, any_int, any_bl, any_non, tr_bl, pur_at, alloc_at, bnd_at, o_add, o_sub, o_lt, o_le, o_gt, o_ge, o_eqI, o_neI, o_eqS, o_isN, chn_t, chn_f, lf_ok, lf_exn, sq_nx, sq_ret, sq_exn, ctx_glo, ctx_call, ctx_ini, opt_some, o_notinS, o_inS, bi_lenT, bi_intI, bi_intB, bi_abs, bi_max, bi_min, bif_tup, bi_tupT, neg_int', sl_tup, nxO_some, putT_nm, putT_tup, putTs_nil, putTs_cons, Option.bind_some, raiO_1, raiO_2, ix_0, ix_1, beq_self_eq_true, Bool.not_true, Bool.not_false, Bool.false_eq_true, ↓reduceIte, Bool.true_and, Bool.false_and, Bool.and_false, Bool.and_true, decide_true, decide_false, wipe_nil, wipe_cons]
      exact ⟨_, _, rfl, bs, ⟨rfl, 0, rfl, by omega, by omega⟩, rfl, M1, F1.ext⟩
    · by_cases c3 : (r == 1) = true
      · simp only [b__law_upto, e1, c1, decide_eq_false c2, c3, eSs_cons, eS_if, eS_asg, eS_sub, eS_exp, eS_ret, eS_for, eS_rais, eS_brk, eS_cont, eS_pass, ss_nil', eT_or, eT_and, eT_no, eT_isi, eT_var, eT_cst, eT_op, eT_chn, eT_call, eT_bi, eE_isi, eE_var, eE_op, eE_glo, eE_chn, eE_cst, eE_bi, eE_bif, eE_tup, eE_fre, eE_dic0, eE_neg, eE_no, eE_and, eE_or, eE_ite, eE_call, eE_me, eE_sl, eE_rev, eO_non, eO_som, part_int, eEs_cons, eEs_nil, eF_lst, eF_list, eF_lc, eI_e, eI_f, eI_rng1, eI_enu, eI_z2, eI_z3, src_tup, src_rol, enu_tup, zip_tup, zip_tup3, its_items, List.getElem?_cons_zero, List.getElem?_cons_succ, List.set_cons_zero, List.set_cons_succ, rdVar_some, rb_ok, rb_exn, any_str, any_tup, any_int, any_bl, any_non, tr_bl, pur_at, alloc_at, bnd_at, o_add, o_sub, o_lt, o_le, o_gt, o_ge, o_eqI, o_neI, o_eqS, o_isN, chn_t, chn_f, lf_ok, lf_exn, sq_nx, sq_ret, sq_exn, ctx_glo, ctx_call, ctx_ini, opt_some, o_notinS, o_inS, bi_lenT, bi_intI, bi_intB, bi_abs, bi_max, bi_min, bif_tup, bi_tupT, neg_int', sl_tup, nxO_some, putT_nm, putT_tup, putTs_nil, putTs_cons, Option.bind_some, raiO_1, raiO_2, ix_0, ix_1, beq_self_eq_true, Bool.not_true, Bool.not_false, Bool.false_eq_true, ↓reduceIte, Bool.true_and, Bool.false_and, Bool.and_false, Bool.and_true, decide_true, decide_false, wipe_nil, wipe_cons]
        exact ⟨_, _, rfl, bs, ⟨rfl, top, rfl, by omega, by omega⟩, rfl, M1, F1.ext⟩
      · have c3 : (r == 1) = false := by simpa using c3
        by_cases c4 : (r == 2) = true
        · obtain ⟨q, S2, e2, hq, M2, F2⟩ := draw HP (fu := fu) (n := n) M1 (many := 2) (by decide) (by decide)
          simp only [b__law_upto, e1, c1, decide_eq_false c2, c3, c4, e2, eSs_cons, eS_if, eS_asg, eS_sub, eS_exp, eS_ret, eS_for, eS_rais, eS_brk, eS_cont, eS_pass, ss_nil', eT_or, eT_and, eT_no, eT_isi, eT_var, eT_cst, eT_op, eT_chn, eT_call, eT_bi, eE_isi, eE_var, eE_op, eE_glo, eE_chn, eE_cst, eE_bi, eE_bif, eE_tup, eE_fre, eE_dic0, eE_neg, eE_no, eE_and, eE_or, eE_ite, eE_call, eE_me, eE_sl, eE_rev, eO_non, eO_som, part_int, eEs_cons, eEs_nil, eF_lst, eF_list, eF_lc, eI_e, eI_f, eI_rng1, eI_enu, eI_z2, eI_z3, src_tup, src_rol, enu_tup, zip_tup, zip_tup3, its_items, List.getElem?_cons_zero, List.getElem?_cons_succ, List.set_cons_zero, List.set_cons_succ, rdVar_some, rb_ok, rb_exn, any_str, any_tup, any_int, any_bl, any_non, tr_bl, pur_at, alloc_at, bnd_at, o_add, o_sub, o_lt, o_le, o_gt, o_ge, o_eqI, o_neI, o_eqS, o_isN, chn_t, chn_f, lf_ok, lf_exn, sq_nx, sq_ret, sq_exn, ctx_glo, ctx_call, ctx_ini, opt_some, o_notinS, o_inS, bi_lenT, bi_intI, bi_intB, bi_abs, bi_max, bi_min, bif_tup, bi_tupT, neg_int', sl_tup, nxO_some, putT_nm, putT_tup, putTs_nil, putTs_cons, Option.bind_some, raiO_1, raiO_2, ix_0, ix_1, beq_self_eq_true, Bool.not_true, Bool.not_false, Bool.false_eq_true, ↓reduceIte, Bool.true_and, Bool.false_and, Bool.and_false, Bool.and_true, decide_true, decide_false, wipe_nil, wipe_cons]
          exact ⟨_, _, rfl, bs, ⟨rfl, _, rfl, by split <;> omega, by split <;> omega⟩, rfl, M2, (F1.trans F2).ext⟩
        · have c4 : (r == 2) = false := by simpa using c4
          obtain ⟨q, S2, e2, hq, M2, F2⟩ := draw HP (fu := fu) (n := n) M1 (many := top + 1) (by omega) (by omega)
          simp only [b__law_upto, e1, c1, decide_eq_false c2, c3, c4, e2, eSs_cons, eS_if, eS_asg, eS_sub, eS_exp, eS_ret, eS_for, eS_rais, eS_brk, eS_cont, eS_pass, ss_nil', eT_or, eT_and, eT_no, eT_isi, eT_var, eT_cst, eT_op, eT_chn, eT_call, eT_bi, eE_isi, eE_var, eE_op, eE_glo, eE_chn, eE_cst, eE_bi, eE_bif, eE_tup, eE_fre, eE_dic0, eE_neg, eE_no, eE_and, eE_or, eE_ite, eE_call, eE_me, eE_sl, eE_rev, eO_non, eO_som, part_int, eEs_cons, eEs_nil, eF_lst, eF_list, eF_lc, eI_e, eI_f, eI_rng1, eI_enu, eI_z2, eI_z3, src_tup, src_rol, enu_tup, zip_tup, zip_tup3, its_items, List.getElem?_cons_zero, List.getElem?_cons_succ, List.set_cons_zero, List.set_cons_succ, rdVar_some, rb_ok, rb_exn, any_str, any_tup, any_int, any_bl, any_non, tr_bl, pur_at, alloc_at, bnd_at, o_add, o_sub, o_lt, o_le, o_gt, o_ge, o_eqI, o_neI, o_eqS, o_isN, chn_t, chn_f, lf_ok, lf_exn, sq_nx, sq_ret, sq_exn, ctx_glo, ctx_call, ctx_ini, opt_some, o_notinS, o_inS, bi_lenT, bi_intI, bi_intB, bi_abs, bi_max, bi_min, bif_tup, bi_tupT, neg_int', sl_tup, nxO_some, putT_nm, putT_tup, putTs_nil, putTs_cons, Option.bind_some, raiO_1, raiO_2, ix_0, ix_1, beq_self_eq_true, Bool.not_true, Bool.not_false, Bool.false_eq_true, ↓reduceIte, Bool.true_and, Bool.false_and, Bool.and_false, Bool.and_true, decide_true, decide_false, wipe_nil, wipe_cons]
          exact ⟨_, _, rfl, bs, ⟨rfl, q, rfl, by omega, by omega⟩, rfl, M2, (F1.trans F2).ext⟩
theorem size_ok (M0 : Mem S t g a bs) : Res t g a S (callN P fu (n + 2) "_law_size" [.ref t] S) fun d bs' => bs' = bs ∧ ∃ r, d = .int r ∧ 1 ≤ r ∧ r ≤ 10 ^ 12 := by
  refine res_of HP.f__law_size rfl M0 ?_
  show Ret (evSs _ b__law_size [some (.ref t), none] S) _
  have hp : ∀ S, opD .pow (.int 10) (.int 12) S = .ok (.int (10 ^ 12)) S := fun S => o_pow (by decide)
  obtain ⟨r, S1, e1, hr, M1, F1⟩ := draw HP (fu := fu) (n := n) M0 (many := 6) (by decide) (by decide)
  by_cases c1 : (r == 0) = true
  · simp only [b__law_size, e1, c1, eSs_cons, eS_if, eS_asg, eS_sub, eS_exp, eS_ret, eS_for, eS_rais, eS_brk, eS_cont, eS_pass, ss_nil', eT_or, eT_and, eT_no, eT_isi, eT_var, eT_cst, eT_op, eT_chn, eT_call, eT_bi, eE_isi, eE_var, eE_op, eE_glo, eE_chn, eE_cst, eE_bi, eE_bif, eE_tup, eE_fre, eE_dic0, eE_neg, eE_no, eE_and, eE_or, eE_ite, eE_call, eE_me, eE_sl, eE_rev, eO_non, eO_som, part_int, eEs_cons, eEs_nil, eF_lst, eF_list, eF_lc, eI_e, eI_f, eI_rng1, eI_enu, eI_z2, eI_z3, src_tup, src_rol, enu_tup, zip_tup, zip_tup3, its_items, List.getElem?_cons_zero, List.getElem?_cons_succ, List.set_cons_zero, List.set_cons_succ, rdVar_some, rb_ok, rb_exn, any_str, any_tup, any_int, any_bl, any_non, tr_bl, pur_at, alloc_at, bnd_at, o_add, o_sub, o_lt, o_le, o_gt, o_ge, o_eqI, o_neI, o_eqS, o_isN, chn_t, chn_f, lf_ok, lf_exn, sq_nx, sq_ret, sq_exn, ctx_glo, ctx_call, ctx_ini, opt_some, o_notinS, o_inS, bi_lenT, bi_intI, bi_intB, bi_abs, bi_max, bi_min, bif_tup, bi_tupT, neg_int', sl_tup, nxO_some, putT_nm, putT_tup, putTs_nil, putTs_cons, Option.bind_some, raiO_1, raiO_2, ix_0, ix_1, beq_self_eq_true, Bool.not_true, Bool.not_false, Bool.false_eq_true, ↓reduceIte, Bool.true_and, Bool.false_and, Bool.and_false, Bool.and_true, decide_true, decide_false, wipe_nil, wipe_cons]
    exact ⟨_, _, rfl, bs, ⟨rfl, 1, rfl, by omega, by omega⟩, rfl, M1, F1.ext⟩
  · have c1 : (r == 0) = false := by simpa using c1
    by_cases c2 : r < 4
    · obtain ⟨q, S2, e2, hq, M2, F2⟩ := draw HP (fu := fu) (n := n) M1 (many := 6) (by decide) (by decide)
      simp only [b__law_size, e1, c1, decide_eq_true c2, e2, eSs_cons, eS_if, eS_asg, eS_sub, eS_exp, eS_ret, eS_for, eS_rais, eS_brk, eS_cont, eS_pass, ss_nil', eT_or, eT_and, eT_no, eT_isi, eT_var, eT_cst, eT_op, eT_chn, eT_call, eT_bi, eE_isi, eE_var, eE_op, eE_glo, eE_chn, eE_cst, eE_bi, eE_bif, eE_tup, eE_fre, eE_dic0, eE_neg, eE_no, eE_and, eE_or, eE_ite, eE_call, eE_me, eE_sl, eE_rev, eO_non, eO_som, part_int, eEs_cons, eEs_nil, eF_lst, eF_list, eF_lc, eI_e, eI_f, eI_rng1, eI_enu, eI_z2, eI_z3, src_tup, src_rol, enu_tup, zip_tup, zip_tup3, its_items, List.getElem?_cons_zero, List.getElem?_cons_succ, List.set_cons_zero, List.set_cons_succ, rdVar_some, rb_ok, rb_exn, any_str, any_tup, any_int, any_bl, any_non, tr_bl, pur_at, alloc_at, bnd_at, o_add, o_sub, o_lt, o_le, o_gt, o_ge, o_eqI, o_neI, o_eqS, o_isN, chn_t, chn_f, lf_ok, lf_exn, sq_nx, sq_ret, sq_exn, ctx_glo, ctx_call, ctx_ini, opt_some, o_notinS, o_inS, bi_lenT, bi_intI, bi_intB, bi_abs, bi_max, bi_min, bif_tup, bi_tupT, neg_int', sl_tup, nxO_some, putT_nm, putT_tup, putTs_nil, putTs_cons, Option.bind_some, raiO_1, raiO_2, ix_0, ix_1, beq_self_eq_true, Bool.not_true, Bool.not_false, Bool.false_eq_true, ↓reduceIte, Bool.true_and, Bool.false_and, Bool.and_false, Bool.and_true, decide_true, decide_false, wipe_nil, wipe_cons]
      exact ⟨_, _, rfl, bs, ⟨rfl, _, rfl, by omega, by omega⟩, rfl, M2, (F1.trans F2).ext⟩
    · by_cases c3 : (r == 4) = true
      · obtain ⟨q, S2, e2, hq, M2, F2⟩ := draw HP (fu := fu) (n := n) M1 (many := 3) (by decide) (by decide)
        simp only [b__law_size, e1, c1, decide_eq_false c2, c3, hp, e2, eSs_cons, eS_if, eS_asg, eS_sub, eS_exp, eS_ret, eS_for, eS_rais, eS_brk, eS_cont, eS_pass, ss_nil', eT_or, eT_and, eT_no, eT_isi, eT_var, eT_cst, eT_op, eT_chn, eT_call, eT_bi, eE_isi, eE_var, eE_op, eE_glo, eE_chn, eE_cst, eE_bi, eE_bif, eE_tup, eE_fre, eE_dic0, eE_neg, eE_no, eE_and, eE_or, eE_ite, eE_call, eE_me, eE_sl, eE_rev, eO_non, eO_som, part_int, eEs_cons, eEs_nil, eF_lst, eF_list, eF_lc, eI_e, eI_f, eI_rng1, eI_enu, eI_z2, eI_z3, src_tup, src_rol, enu_tup, zip_tup, zip_tup3, its_items, List.getElem?_cons_zero, List.getElem?_cons_succ, List.set_cons_zero, List.set_cons_succ, rdVar_some, rb_ok, rb_exn, any_str, any_tup, any_int, any_bl, any_non, tr_bl, pur_at, alloc_at, bnd_at, o_add, o_sub, o_lt, o_le, o_gt, o_ge, o_eqI, o_neI, o_eqS, o_isN, chn_t, chn_f, lf_ok, lf_exn, sq_nx, sq_ret, sq_exn, ctx_glo, ctx_call, ctx_ini, opt_some, o_notinS, o_inS, bi_lenT, bi_intI, bi_intB, bi_abs, bi_max, bi_min, bif_tup, bi_tupT, neg_int', sl_tup, nxO_some, putT_nm, putT_tup, putTs_nil, putTs_cons, Option.bind_some, raiO_1, raiO_2, ix_0, ix_1, beq_self_eq_true, Bool.not_true, Bool.not_false, Bool.false_eq_true, ↓reduceIte, Bool.true_and, Bool.false_and, Bool.and_false, Bool.and_true, decide_true, decide_false, wipe_nil, wipe_cons]
        exact ⟨_, _, rfl, bs, ⟨rfl, _, rfl, by omega, by omega⟩, rfl, M2, (F1.trans F2).ext⟩
      · have c3 : (r == 4) = false := by simpa using c3
        obtain ⟨q, S2, e2, hq, M2, F2⟩ := draw HP (fu := fu) (n := n) M1 (many := 10 ^ 12) (by decide) (by decide)
        simp only [b__law_size, e1, c1, decide_eq_false c2, c3, hp, e2, eSs_cons, eS_if, eS_asg, eS_sub, eS_exp, eS_ret, eS_for, eS_rais, eS_brk, eS_cont, eS_pass, ss_nil', eT_or, eT_and, eT_no, eT_isi, eT_var, eT_cst, eT_op, eT_chn, eT_call, eT_bi, eE_isi, eE_var, eE_op, eE_glo, eE_chn, eE_cst, eE_bi, eE_bif, eE_tup, eE_fre, eE_dic0, eE_neg, eE_no, eE_and, eE_or, eE_ite, eE_call, eE_me, eE_sl, eE_rev, eO_non, eO_som, part_int, eEs_cons, eEs_nil, eF_lst, eF_list, eF_lc, eI_e, eI_f, eI_rng1, eI_enu, eI_z2, eI_z3, src_tup, src_rol, enu_tup, zip_tup, zip_tup3, its_items, List.getElem?_cons_zero, List.getElem?_cons_succ, List.set_cons_zero, List.set_cons_succ, rdVar_some, rb_ok, rb_exn, any_str, any_tup, any_int, any_bl, any_non, tr_bl, pur_at, alloc_at, bnd_at, o_add, o_sub, o_lt, o_le, o_gt, o_ge, o_eqI, o_neI, o_eqS, o_isN, chn_t, chn_f, lf_ok, lf_exn, sq_nx, sq_ret, sq_exn, ctx_glo, ctx_call, ctx_ini, opt_some, o_notinS, o_inS, bi_lenT, bi_intI, bi_intB, bi_abs, bi_max, bi_min, bif_tup, bi_tupT, neg_int', sl_tup, nxO_some, putT_nm, putT_tup, putTs_nil, putTs_cons, Option.bind_some, raiO_1, raiO_2, ix_0, ix_1, beq_self_eq_true, Bool.not_true, Bool.not_false, Bool.false_eq_true, ↓reduceIte, Bool.true_and, Bool.false_and, Bool.and_false, Bool.and_true, decide_true, decide_false, wipe_nil, wipe_cons]
        exact ⟨_, _, rfl, bs, ⟨rfl, _, rfl, by omega, by omega⟩, rfl, M2, (F1.trans F2).ext⟩
theorem second_ok (M0 : Mem S t g a bs) {sz fi : Int} (h0 : 0 ≤ fi) (h1 : fi ≤ sz) (h2 : sz < 2 ^ 62) : Res t g a S (callN P fu (n + 3) "_law_second" [.ref t, .int sz, .int fi] S) fun d bs' => bs' = bs ∧ ∃ r, d = .int r ∧ 0 ≤ r ∧ r ≤ sz := by
  refine res_of HP.f__law_second rfl M0 ?_
  show Ret (evSs _ b__law_second [some (.ref t), some (.int sz), some (.int fi), none, none] S) _
  obtain ⟨r, S1, e1, hr, M1, F1⟩ := draw HP (fu := fu) (n := n + 1) M0 (many := 8) (by decide) (by decide)
  by_cases c1 : r < 6
  · obtain ⟨x, hx, _⟩ := ix_ints (S := S1) (xs := [sz - fi, sz - fi + 1, sz - fi - 1, fi, fi + 1, fi - 1]) (i := r) hr.1 c1
    have hx : opD .ix (.tup [.int (sz - fi), .int (sz - fi + 1), .int (sz - fi - 1), .int fi, .int (fi + 1), .int (fi - 1)]) (.int r) S1 = .ok (.int x) S1 := hx
    simp only [b__law_second, e1, decide_eq_true c1, hx, eSs_cons, eS_if, eS_asg, eS_sub, eS_exp, eS_ret, eS_for, eS_rais, eS_brk, eS_cont, eS_pass, ss_nil', eT_or, eT_and, eT_no, eT_isi, eT_var, eT_cst, eT_op, eT_chn, eT_call, eT_bi, eE_isi, eE_var, eE_op, eE_glo, eE_chn, eE_cst, eE_bi, eE_bif, eE_tup, eE_fre, eE_dic0, eE_neg, eE_no, eE_and, eE_or, eE_ite, eE_call, eE_me, eE_sl, eE_rev, eO_non, eO_som, part_int, eEs_cons, eEs_nil, eF_lst, eF_list, eF_lc, eI_e, eI_f, eI_rng1, eI_enu, eI_z2, eI_z3, src_tup, src_rol, enu_tup, zip_tup, zip_tup3, its_items, List.getElem?_cons_zero, List.getElem?_cons_succ, List.set_cons_zero, List.set_cons_succ, rdVar_some, rb_ok, rb_exn, any_str, any_tup, any_int, any_bl, any_non, tr_bl, pur_at, alloc_at, bnd_at, o_add, o_sub, o_lt, o_le, o_gt, o_ge, o_eqI, o_neI, o_eqS, o_isN, chn_t, chn_f, lf_ok, lf_exn, sq_nx, sq_ret, sq_exn, ctx_glo, ctx_call, ctx_ini, opt_some, o_notinS, o_inS, bi_lenT, bi_intI, bi_intB, bi_abs, bi_max, bi_min, bif_tup, bi_tupT, neg_int', sl_tup, nxO_some, putT_nm, putT_tup, putTs_nil, putTs_cons, Option.bind_some, raiO_1, raiO_2, ix_0, ix_1, beq_self_eq_true, Bool.not_true, Bool.not_false, Bool.false_eq_true, ↓reduceIte, Bool.true_and, Bool.false_and, Bool.and_false, Bool.and_true, decide_true, decide_false, wipe_nil, wipe_cons]
    exact ⟨_, _, rfl, bs, ⟨rfl, _, rfl, by split <;> (try split) <;> omega, by split <;> (try split) <;> omega⟩, rfl, M1, F1.ext⟩
  · obtain ⟨d, S2, bs2, e2, ⟨rfl, q, rfl, hq⟩, M2, F2⟩ := upto_ok HP (fu := fu) (n := n) M1 (top := sz) (by omega) h2
    simp only [b__law_second, e1, decide_eq_false c1, e2, eSs_cons, eS_if, eS_asg, eS_sub, eS_exp, eS_ret, eS_for, eS_rais, eS_brk, eS_cont, eS_pass, ss_nil', eT_or, eT_and, eT_no, eT_isi, eT_var, eT_cst, eT_op, eT_chn, eT_call, eT_bi, eE_isi, eE_var, eE_op, eE_glo, eE_chn, eE_cst, eE_bi, eE_bif, eE_tup, eE_fre, eE_dic0, eE_neg, eE_no, eE_and, eE_or, eE_ite, eE_call, eE_me, eE_sl, eE_rev, eO_non, eO_som, part_int, eEs_cons, eEs_nil, eF_lst, eF_list, eF_lc, eI_e, eI_f, eI_rng1, eI_enu, eI_z2, eI_z3, src_tup, src_rol, enu_tup, zip_tup, zip_tup3, its_items, List.getElem?_cons_zero, List.getElem?_cons_succ, List.set_cons_zero, List.set_cons_succ, rdVar_some, rb_ok, rb_exn, any_str, any_tup, any_int, any_bl, any_non, tr_bl, pur_at, alloc_at, bnd_at, o_add, o_sub, o_lt, o_le, o_gt, o_ge, o_eqI, o_neI, o_eqS, o_isN, chn_t, chn_f, lf_ok, lf_exn, sq_nx, sq_ret, sq_exn, ctx_glo, ctx_call, ctx_ini, opt_some, o_notinS, o_inS, bi_lenT, bi_intI, bi_intB, bi_abs, bi_max, bi_min, bif_tup, bi_tupT, neg_int', sl_tup, nxO_some, putT_nm, putT_tup, putTs_nil, putTs_cons, Option.bind_some, raiO_1, raiO_2, ix_0, ix_1, beq_self_eq_true, Bool.not_true, Bool.not_false, Bool.false_eq_true, ↓reduceIte, Bool.true_and, Bool.false_and, Bool.and_false, Bool.and_true, decide_true, decide_false, wipe_nil, wipe_cons]
    exact ⟨_, _, rfl, _, ⟨rfl, q, rfl, hq.1, hq.2⟩, rfl, M2, (F1.trans F2).ext⟩
end
end K03

set_option Elab.async false
set_option linter.all false
set_option maxRecDepth 100000
set_option maxHeartbeats 4000000
/-! k03: what is asked of two counts. -/
namespace Mi
section
variable {c : Ctx} {δ δ' : Env} {S S' : Store} {s : St} {ss : Ss} {Q : D → Store → Prop} {T : Env → Store → Prop}
theorem Ret.step (h : evS c s δ S = .nx δ' S') (hk : Ret (evSs c ss δ' S') Q) : Ret (evSs c (.cons s ss) δ S) Q := by
  rw [ss_nx h]
  exact hk
theorem Nx.step (h : evS c s δ S = .nx δ' S') (hk : Nx (evSs c ss δ' S') T) : Nx (evSs c (.cons s ss) δ S) T := by
  rw [ss_nx h]
  exact hk
theorem Ret.forL {t : Tg} {it : It} {b : Ss} {src : Src} (hi : evI c δ it S = .ok src S') (I : List D → Env → Store → Prop) (hok : ∀ l δ S, I l δ S → src.ok S = true) (step : ∀ d r δ S, I (d :: r) δ S → Nx (forB c t b d δ S) (I r)) (h0 : I src.items δ S') (hk : ∀ δ S, I [] δ S → Ret (evSs c ss δ S) Q) : Ret (evSs c (.cons (.for_ t it b) ss) δ S) Q := by
  rw [eSs_cons, eS_for, hi, lf_ok]
  exact ret_L I hok step h0 hk
theorem Nx.forL {t : Tg} {it : It} {b : Ss} {src : Src} (hi : evI c δ it S = .ok src S') (I : List D → Env → Store → Prop) (hok : ∀ l δ S, I l δ S → src.ok S = true) (step : ∀ d r δ S, I (d :: r) δ S → Nx (forB c t b d δ S) (I r)) (h0 : I src.items δ S') (hk : ∀ δ S, I [] δ S → Nx (evSs c ss δ S) T) : Nx (evSs c (.cons (.for_ t it b) ss) δ S) T := by
  rw [eSs_cons, eS_for, hi, lf_ok]
  exact nx_L I hok step h0 hk
theorem Ret.forR {t : Tg} {it : It} {b : Ss} {m : Nat} {em : Nat → D} (hi : evI c δ it S = .ok (.its ((List.range m).map em)) S') (I : Nat → Env → Store → Prop) (step : ∀ i δ S, i < m → I i δ S → Nx (forB c t b (em i) δ S) (I (i + 1))) (h0 : I 0 δ S') (hk : ∀ δ S, I m δ S → Ret (evSs c ss δ S) Q) : Ret (evSs c (.cons (.for_ t it b) ss) δ S) Q := by
  rw [eSs_cons, eS_for, hi, lf_ok]
  exact ret_R I (fun _ _ _ _ => rfl) step h0 hk
theorem Nx.forR {t : Tg} {it : It} {b : Ss} {m : Nat} {em : Nat → D} (hi : evI c δ it S = .ok (.its ((List.range m).map em)) S') (I : Nat → Env → Store → Prop) (step : ∀ i δ S, i < m → I i δ S → Nx (forB c t b (em i) δ S) (I (i + 1))) (h0 : I 0 δ S') (hk : ∀ δ S, I m δ S → Nx (evSs c ss δ S) T) : Nx (evSs c (.cons (.for_ t it b) ss) δ S) T := by
  rw [eSs_cons, eS_for, hi, lf_ok]
  exact nx_R I (fun _ _ _ _ => rfl) step h0 hk
theorem asg_row {own : List Nat} {elt : E} {k : Nat} {tg : Tg} {it : It} {m : Nat} {em gg : Nat → D} (hm : m ≤ mx) (hi : evI c δ it S = .ok (.its ((List.range m).map em)) S) (h : ∀ i, i < m → lcF c δ own elt tg .nil (em i) S = .ok (some (gg i)) S) :
    evS c (.asg (.nm k) (.bif .tuple (.lc own elt tg it .nil))) δ S = .nx (δ.set k (some (mR m gg))) S := by
  rw [eS_asg, eE_bif, evF_R hm hi h]
  rfl
end
end Mi
namespace K03
open Mi
/-- what has been asked, at least so often -/
def As (p0 p1 p2 p3 : Int) (bs : List Int) : Prop := ∃ b0 b1 b2 b3, bs = [b0, b1, b2, b3] ∧ p0 ≤ b0 ∧ p1 ≤ b1 ∧ p2 ≤ b2 ∧ p3 ≤ b3
theorem As.mono {p0 p1 p2 p3 q0 q1 q2 q3 : Int} {bs : List Int} (h : As p0 p1 p2 p3 bs) (h0 : q0 ≤ p0) (h1 : q1 ≤ p1) (h2 : q2 ≤ p2) (h3 : q3 ≤ p3) : As q0 q1 q2 q3 bs := by
  obtain ⟨a, b, c, d, e, i, j, k, l⟩ := h
  exact ⟨a, b, c, d, e, by omega, by omega, by omega, by omega⟩
theorem As.bump1 {p0 p1 p2 p3 b0 b1 b2 b3 : Int} (h : As p0 p1 p2 p3 [b0, b1, b2, b3]) : As p0 (p1 + 1) p2 p3 [b0, b1 + 1, b2, b3] := by
  obtain ⟨a, b, c, d, e, i, j, k, l⟩ := h
  injection e with e1 e
  injection e with e2 e
  injection e with e3 e
  injection e with e4 e
  exact ⟨_, _, _, _, rfl, by omega, by omega, by omega, by omega⟩
theorem As.bump0 {p0 p1 p2 p3 b0 b1 b2 b3 : Int} (h : As p0 p1 p2 p3 [b0, b1, b2, b3]) : As (p0 + 1) p1 p2 p3 [b0 + 1, b1, b2, b3] := by
  obtain ⟨a, b, c, d, e, i, j, k, l⟩ := h
  injection e with e1 e
  injection e with e2 e
  injection e with e3 e
  injection e with e4 e
  exact ⟨_, _, _, _, rfl, by omega, by omega, by omega, by omega⟩
theorem As.join {p0 p1 p2 p3 q0 q1 q2 q3 : Int} {bs : List Int} (h : As p0 p1 p2 p3 bs) (h' : As q0 q1 q2 q3 bs) : As p0 q1 p2 p3 bs := by
  obtain ⟨a, b, c, d, rfl, i, j, k, l⟩ := h
  obtain ⟨a', b', c', d', e, i', j', k', l'⟩ := h'
  injection e with e1 e
  injection e with e2 e
  exact ⟨_, _, _, _, rfl, by omega, by omega, by omega, by omega⟩
theorem fit_part {m : Nat} {z f h : Nat → Int} (hf : FitC m z f) (hh : FitC m z h) : FitC m z (lcF2 z f h) := fun i hi => by
  have := hf i hi
  have := hh i hi
  unfold lcF2 mx0
  split <;> constructor <;> omega
theorem lcF2_comm (z f h : Nat → Int) : lcF2 z f h = lcF2 z h f := by
  funext i
  unfold lcF2
  rw [Int.add_comm (f i)]
def PairOK (m : Nat) (z : Nat → Int) (d : D) : Prop := ∃ f h, FitC m z f ∧ FitC m z h ∧ d = .tup [dI m f, dI m h]
section
variable {P : Prog} (HP : HasL P) {fu n : Nat} {S : Store} {t g a : Nat} {bs : List Int} {m : Nat} {w : Nat → List Nat} {z f h : Nat → Int}
include HP
theorem told_below (G : GL m w z) (hf : FitC m z f) (hh : FitC m z h) : callN P fu (n + 5) "_law_told" [.str [98, 101, 108, 111, 119], dL m w z, dI m f, dI m h] S = .ok (.tup [sTold, .bl (leR m f h)]) S := told_ok HP (k := .below) (below_good HP.toHas G hf hh) rfl
theorem told_least (G : GL m w z) (hf : FitC m z f) (hh : FitC m z h) : callN P fu (n + 5) "_law_told" [.str [108, 101, 97, 115, 116], dL m w z, dI m f, dI m h] S = .ok (.tup [sTold, dI m (lcF2 z f h)]) S := told_ok HP (k := .least) (least_good HP.toHas G hf hh) bel_dI
theorem told_outside (G : GL m w z) (hf : FitC m z f) {x : D} : callN P fu (n + 5) "_law_told" [.str [111, 117, 116, 115, 105, 100, 101], dL m w z, dI m f, x] S = .ok (.tup [sTold, dI m fun i => z i - f i]) S := told_ok HP (k := .outside) (outside_good HP.toHas G hf) bel_dI
theorem told_first (G : GL m w z) (hf : FitC m z f) {x : D} : callN P fu (n + 5) "_law_told" [.str [102, 105, 114, 115, 116], dL m w z, dI m f, x] S = .ok (.tup [sTold, mR m fun i => fstD (f i)]) S := told_ok HP (k := .first) (first_good HP.toHas G hf) (bels_R fun i _ => by unfold fstD; split <;> rfl)
theorem told_every (G : GL m w z) {x y : D} : callN P fu (n + 5) "_law_told" [.str [101, 118, 101, 114, 121, 111, 110, 101], dL m w z, x, y] S = .ok (.tup [sTold, dI m z]) S := told_ok HP (k := .every) (everyone_good HP.toHas (n := n + 1) G) bel_dI
theorem told_nobody (G : GL m w z) {x y : D} : callN P fu (n + 5) "_law_told" [.str [110, 111, 98, 111, 100, 121], dL m w z, x, y] S = .ok (.tup [sTold, dI m fun _ => 0]) S := told_ok HP (k := .nobody) (nobody_good HP.toHas (n := n + 1) G) bel_dI
theorem same5 {d : D} (h : Pl 4 d) : callN P fu (n + 5) "_law_same" [d, d] S = .ok (.bl true) S := same_ok HP h n
theorem pl_I (hm : m ≤ mx) {k : Nat} : Pl (k + 1) (dI m f) := Pl.row hm fun _ _ => .int
theorem same_I (hm : m ≤ mx) : callN P fu (n + 5) "_law_same" [.tup [sTold, dI m f], .tup [sTold, dI m f]] S = .ok (.bl true) S := same5 HP (Pl.pair .str (Pl.row hm fun _ _ => .int))
theorem ask_below_ok (G : GL m w z) (hf : FitC m z f) (hh : FitC m z h) (M0 : Mem S t g a bs) {p0 p1 p2 p3 : Int} (A : As p0 p1 p2 p3 bs) :
    Res t g a S (callN P fu (n + 6) "_law_ask_below" [.ref a, dL m w z, dI m f, dI m h] S) fun d bs' => d = .bl true ∧ ∀ p0 p1 p2 p3, As p0 p1 p2 p3 bs → (leR m f h = true → As p0 (p1 + 1) p2 p3 bs') ∧ (leR m f h = false → As (p0 + 1) p1 p2 p3 bs') := by
  refine res_of HP.f__law_ask_below rfl M0 ?_
  show Ret (evSs _ b__law_ask_below [some (.ref a), some (dL m w z), some (dI m f), some (dI m h), none] S) _
  obtain ⟨b0, b1, b2, b3, rfl, q0, q1, q2, q3⟩ := A
  have hi := lbelow_ok HP (fu := fu) (n := n + 4) (S := S) (f := f) (h := h) G.top
  cases hc : leR m f h with
  | true =>
    have M1 := M0.setA [b0, b1 + 1, b2, b3]
    have ix : opD .ix (.ref a) (.int 1) S = .ok (.int b1) S := o_ixL M0.ha rfl
    have pt := put_L (S := S) (v := .int (b1 + 1)) (k := 1) (j := 1) M0.ha rfl
    have pt : setItem (.ref a) (.int 1) (.int (b1 + 1)) S = .ok () (S.set a (.lst ([b0, b1 + 1, b2, b3].map D.int))) := pt
    have ht := told_below HP (fu := fu) (n := n) (S := S.set a (.lst ([b0, b1 + 1, b2, b3].map D.int))) G hf hh
    have hs := same5 HP (fu := fu) (n := n) (S := S.set a (.lst ([b0, b1 + 1, b2, b3].map D.int))) (d := .tup [sTold, .bl true]) (Pl.pair .str .bl)
    rw [hc] at hi ht
    simp only [b__law_ask_below, hi, ix, pt, ht, eSs_cons, eS_if, eS_asg, eS_sub, eS_exp, eS_ret, eS_for, eS_rais, eS_brk, eS_cont, eS_pass, ss_nil', eT_or, eT_and, eT_no, eT_isi, eT_var, eT_cst, eT_op, eT_chn, eT_call, eT_bi, eE_isi, eE_var, eE_op, eE_glo, eE_chn, eE_cst, eE_bi, eE_bif, eE_tup, eE_fre, eE_dic0, eE_neg, eE_no, eE_and, eE_or, eE_ite, eE_call, eE_me, eE_sl, eE_rev, eO_non, eO_som, part_int, eEs_cons, eEs_nil, eF_lst, eF_list, eF_lc, eI_e, eI_f, eI_rng1, eI_enu, eI_z2, eI_z3, src_tup, src_rol, enu_tup, zip_tup, zip_tup3, its_items, List.getElem?_cons_zero, List.getElem?_cons_succ, List.set_cons_zero, List.set_cons_succ, rdVar_some, rb_ok, rb_exn, any_str, any_tup, any_int, any_bl, any_non, tr_bl, pur_at, alloc_at, bnd_at, o_add, o_sub, o_lt, o_le, o_gt, o_ge, o_eqI, o_neI, o_eqS, o_isN, chn_t, chn_f, lf_ok, lf_exn, sq_nx, sq_ret, sq_exn, ctx_glo, ctx_call, ctx_ini, opt_some, o_notinS, o_inS, bi_lenT, bi_intI, bi_intB, bi_abs, bi_max, bi_min, bif_tup, bi_tupT, neg_int', sl_tup, nxO_some, putT_nm, putT_tup, putTs_nil, putTs_cons, Option.bind_some, raiO_1, raiO_2, ix_0, ix_1, beq_self_eq_true, Bool.not_true, Bool.not_false, Bool.false_eq_true, ↓reduceIte, Bool.true_and, Bool.false_and, Bool.and_false, Bool.and_true, decide_true, decide_false, wipe_nil, wipe_cons]
    refine ⟨_, _, (by rw [show D.str [116, 111, 108, 100] = sTold from rfl, hs]; rfl), [b0, b1 + 1, b2, b3], ⟨rfl, fun _ _ _ _ A => ⟨fun _ => A.bump1, fun e => nomatch e⟩⟩, rfl, M1, (Fr.setA _).ext⟩
  | false =>
    have M1 := M0.setA [b0 + 1, b1, b2, b3]
    have ix : opD .ix (.ref a) (.int 0) S = .ok (.int b0) S := o_ixL M0.ha rfl
    have pt := put_L (S := S) (v := .int (b0 + 1)) (k := 0) (j := 0) M0.ha rfl
    have pt : setItem (.ref a) (.int 0) (.int (b0 + 1)) S = .ok () (S.set a (.lst ([b0 + 1, b1, b2, b3].map D.int))) := pt
    have ht := told_below HP (fu := fu) (n := n) (S := S.set a (.lst ([b0 + 1, b1, b2, b3].map D.int))) G hf hh
    have hs := same5 HP (fu := fu) (n := n) (S := S.set a (.lst ([b0 + 1, b1, b2, b3].map D.int))) (d := .tup [sTold, .bl false]) (Pl.pair .str .bl)
    rw [hc] at hi ht
    simp only [b__law_ask_below, hi, ix, pt, ht, eSs_cons, eS_if, eS_asg, eS_sub, eS_exp, eS_ret, eS_for, eS_rais, eS_brk, eS_cont, eS_pass, ss_nil', eT_or, eT_and, eT_no, eT_isi, eT_var, eT_cst, eT_op, eT_chn, eT_call, eT_bi, eE_isi, eE_var, eE_op, eE_glo, eE_chn, eE_cst, eE_bi, eE_bif, eE_tup, eE_fre, eE_dic0, eE_neg, eE_no, eE_and, eE_or, eE_ite, eE_call, eE_me, eE_sl, eE_rev, eO_non, eO_som, part_int, eEs_cons, eEs_nil, eF_lst, eF_list, eF_lc, eI_e, eI_f, eI_rng1, eI_enu, eI_z2, eI_z3, src_tup, src_rol, enu_tup, zip_tup, zip_tup3, its_items, List.getElem?_cons_zero, List.getElem?_cons_succ, List.set_cons_zero, List.set_cons_succ, rdVar_some, rb_ok, rb_exn, any_str, any_tup, any_int, any_bl, any_non, tr_bl, pur_at, alloc_at, bnd_at, o_add, o_sub, o_lt, o_le, o_gt, o_ge, o_eqI, o_neI, o_eqS, o_isN, chn_t, chn_f, lf_ok, lf_exn, sq_nx, sq_ret, sq_exn, ctx_glo, ctx_call, ctx_ini, opt_some, o_notinS, o_inS, bi_lenT, bi_intI, bi_intB, bi_abs, bi_max, bi_min, bif_tup, bi_tupT, neg_int', sl_tup, nxO_some, putT_nm, putT_tup, putTs_nil, putTs_cons, Option.bind_some, raiO_1, raiO_2, ix_0, ix_1, beq_self_eq_true, Bool.not_true, Bool.not_false, Bool.false_eq_true, ↓reduceIte, Bool.true_and, Bool.false_and, Bool.and_false, Bool.and_true, decide_true, decide_false, wipe_nil, wipe_cons]
    refine ⟨_, _, (by rw [show D.str [116, 111, 108, 100] = sTold from rfl, hs]; rfl), [b0 + 1, b1, b2, b3], ⟨rfl, fun _ _ _ _ A => ⟨fun e => (nomatch e), fun _ => A.bump0⟩⟩, rfl, M1, (Fr.setA _).ext⟩
theorem ask_least_ok (G : GL m w z) (hf : FitC m z f) (hh : FitC m z h) : callN P fu (n + 6) "_law_ask_least" [dL m w z, dI m f, dI m h] S = .ok (.bl true) S := by
  rw [call_eq HP.f__law_ask_least rfl]
  have e0 : evSs (ctx P fu (callN P fu (n + 5))) b__law_ask_least [some (dL m w z), some (dI m f), some (dI m h), none] S = .ret (.bl true) S := by
    have h2 := told_least HP (fu := fu) (n := n) (S := S) G hh hf
    rw [lcF2_comm z h f] at h2
    simp only [b__law_ask_least, show D.str [116, 111, 108, 100] = sTold from rfl, part_ok HP (n := n + 4) G.top, told_least HP G hf hh, h2, same_I HP G.top, eSs_cons, eS_if, eS_asg, eS_sub, eS_exp, eS_ret, eS_for, eS_rais, eS_brk, eS_cont, eS_pass, ss_nil', eT_or, eT_and, eT_no, eT_isi, eT_var, eT_cst, eT_op, eT_chn, eT_call, eT_bi, eE_isi, eE_var, eE_op, eE_glo, eE_chn, eE_cst, eE_bi, eE_bif, eE_tup, eE_fre, eE_dic0, eE_neg, eE_no, eE_and, eE_or, eE_ite, eE_call, eE_me, eE_sl, eE_rev, eO_non, eO_som, part_int, eEs_cons, eEs_nil, eF_lst, eF_list, eF_lc, eI_e, eI_f, eI_rng1, eI_enu, eI_z2, eI_z3, src_tup, src_rol, enu_tup, zip_tup, zip_tup3, its_items, List.getElem?_cons_zero, List.getElem?_cons_succ, List.set_cons_zero, List.set_cons_succ, rdVar_some, rb_ok, rb_exn, any_str, any_tup, any_int, any_bl, any_non, tr_bl, pur_at, alloc_at, bnd_at, o_add, o_sub, o_lt, o_le, o_gt, o_ge, o_eqI, o_neI, o_eqS, o_isN, chn_t, chn_f, lf_ok, lf_exn, sq_nx, sq_ret, sq_exn, ctx_glo, ctx_call, ctx_ini, opt_some, o_notinS, o_inS, bi_lenT, bi_intI, bi_intB, bi_abs, bi_max, bi_min, bif_tup, bi_tupT, neg_int', sl_tup, nxO_some, putT_nm, putT_tup, putTs_nil, putTs_cons, Option.bind_some, raiO_1, raiO_2, ix_0, ix_1, beq_self_eq_true, Bool.not_true, Bool.not_false, Bool.false_eq_true, ↓reduceIte, Bool.true_and, Bool.false_and, Bool.and_false, Bool.and_true, decide_true, decide_false, wipe_nil, wipe_cons]
  exact (congrArg (fun r => fin S (endR r)) e0).trans (fin_ok0 rfl)
end
end K03

set_option Elab.async false
set_option linter.all false
set_option maxRecDepth 100000
set_option maxHeartbeats 4000000
/-! k03: the first houses and the last ones; everything of two counts. -/
namespace Mi
/-- one turn's end -/
def SR.fr (r : SR) (k : Env → Store → SR) : SR := match r with
  | .nx δ S => k δ S
  | .cont δ S => k δ S
  | .brk δ S => .nx δ S
  | .ret d S => .ret d S
  | .exn x δ S => .exn x δ S
  | .bad => .bad
section
variable {c : Ctx} {δ δ' : Env} {S S' : Store}
@[simp] theorem fr_nx {k : Env → Store → SR} : (SR.nx δ S).fr k = k δ S := rfl
@[simp] theorem fr_ret {k : Env → Store → SR} {d : D} : (SR.ret d S).fr k = .ret d S := rfl
@[simp] theorem fr_cont {k : Env → Store → SR} : (SR.cont δ S).fr k = k δ S := rfl
@[simp] theorem fr_brk {k : Env → Store → SR} : (SR.brk δ S).fr k = .nx δ S := rfl
theorem forL_nil {l : List D} {F : D → Env → Store → SR} : forL (.its l) F [] δ S = .nx δ S := rfl
theorem forL_cons {l r : List D} {d : D} {F : D → Env → Store → SR} : forL (.its l) F (d :: r) δ S = (F d δ S).fr (forL (.its l) F r) := by
  show (if (Src.its l).ok S then (match F d δ S with
    | .nx δ' S' => forL (.its l) F r δ' S'
    | .cont δ' S' => forL (.its l) F r δ' S'
    | .brk δ' S' => .nx δ' S'
    | .ret d S' => .ret d S'
    | .exn x δ' S' => .exn x δ' S'
    | .bad => .bad) else .bad) = _
  rw [if_pos (show (Src.its l).ok S = true from rfl)]
  cases F d δ S <;> rfl
def optB (o : Option Env) (k : Env → SR) : SR := match o with
  | some δ => k δ
  | none => .bad
@[simp] theorem optB_some {k : Env → SR} : optB (some δ) k = k δ := rfl
theorem forB_def {t : Tg} {b : Ss} {d : D} : forB c t b d δ S = optB (putT t d δ) fun δ' => evSs c b δ' S := by
  unfold forB
  cases putT t d δ <;> rfl
theorem get_app {T : Store} {o : O} : (T ++ [o])[T.length]? = some o := by simp
theorem set_app {T : Store} {o o' : O} : (T ++ [o]).set T.length o' = T ++ [o'] := by
  rw [List.set_append_right _ _ (Nat.le_refl _)]
  simp
theorem range_app {α : Type} {f : Nat → α} {i : Nat} : (List.range i).map f ++ [f i] = (List.range (i + 1)).map f := by rw [List.range_succ, List.map_append]; rfl
end
end Mi
namespace K03
open Mi
theorem cut_fst {x : Int} (h : 0 ≤ x) : D.tup (cut [D.tup [.int 0, .int x]] none (some x)) = fstD x := by
  unfold cut sIx fstD
  have h1 : ¬ x < 0 := by omega
  simp only [if_neg h1, List.length_singleton, List.drop_zero, Nat.sub_zero]
  by_cases h2 : 0 < x
  · rw [if_pos h2, Nat.min_eq_right (by omega)]
    rfl
  · rw [if_neg h2, show x.toNat = 0 by omega]
    rfl
theorem pl_fst {x : Int} {k : Nat} : Pl (k + 2) (fstD x) := by
  unfold fstD
  split
  · exact .tup (show 1 ≤ mx by decide) fun d hd => by
      rw [List.mem_singleton.mp hd]
      exact Pl.pair .int .int
  · exact .tup (Nat.zero_le _) fun d hd => nomatch hd
section
variable {P : Prog} (HP : HasL P) {fu n : Nat} {S : Store} {t g a : Nat} {bs : List Int} {m : Nat} {w : Nat → List Nat} {z f h : Nat → Int}
include HP
theorem first_last_ok (G : GL m w z) (hf : FitC m z f) (hh : FitC m z h) : callN P fu (n + 6) "_law_first_last" [dL m w z, dI m f, dI m h] S = .ok (.bl true) S := by
  rw [call_eq HP.f__law_first_last rfl]
  have e0 : Ret (evSs (ctx P fu (callN P fu (n + 5))) b__law_first_last [some (dL m w z), some (dI m f), some (dI m h), none, none, none, none, none, none, none, none] S) fun d S' => d = .bl true ∧ ∃ o, S' = S ++ [o] := by
    unfold b__law_first_last
    refine Ret.step (by simp only [told_first HP G hf, eSs_cons, eS_if, eS_asg, eS_sub, eS_exp, eS_ret, eS_for, eS_rais, eS_brk, eS_cont, eS_pass, ss_nil', eT_or, eT_and, eT_no, eT_isi, eT_var, eT_cst, eT_op, eT_chn, eT_call, eT_bi, eE_isi, eE_var, eE_op, eE_glo, eE_chn, eE_cst, eE_bi, eE_bif, eE_tup, eE_fre, eE_dic0, eE_neg, eE_no, eE_and, eE_or, eE_ite, eE_call, eE_me, eE_sl, eE_rev, eO_non, eO_som, part_int, eEs_cons, eEs_nil, eF_lst, eF_list, eF_lc, eI_e, eI_f, eI_rng1, eI_enu, eI_z2, eI_z3, src_tup, src_rol, enu_tup, zip_tup, zip_tup3, its_items, List.getElem?_cons_zero, List.getElem?_cons_succ, List.set_cons_zero, List.set_cons_succ, rdVar_some, rb_ok, rb_exn, any_str, any_tup, any_int, any_bl, any_non, tr_bl, pur_at, alloc_at, bnd_at, o_add, o_sub, o_lt, o_le, o_gt, o_ge, o_eqI, o_neI, o_eqS, o_isN, chn_t, chn_f, lf_ok, lf_exn, sq_nx, sq_ret, sq_exn, ctx_glo, ctx_call, ctx_ini, opt_some, o_notinS, o_inS, bi_lenT, bi_intI, bi_intB, bi_abs, bi_max, bi_min, bif_tup, bi_tupT, neg_int', sl_tup, nxO_some, putT_nm, putT_tup, putTs_nil, putTs_cons, Option.bind_some, raiO_1, raiO_2, ix_0, ix_1, beq_self_eq_true, Bool.not_true, Bool.not_false, Bool.false_eq_true, ↓reduceIte, Bool.true_and, Bool.false_and, Bool.and_false, Bool.and_true, decide_true, decide_false, wipe_nil, wipe_cons]; rfl) ?_
    refine Ret.step (asg_row (m := m) (em := fun i => .int (f i)) (gg := fun i => fstD (f i)) G.top (by simp only [show srcD (dI m f) S = .ok (.its ((List.range m).map fun i => D.int (f i))) S from src_tup, eSs_cons, eS_if, eS_asg, eS_sub, eS_exp, eS_ret, eS_for, eS_rais, eS_brk, eS_cont, eS_pass, ss_nil', eT_or, eT_and, eT_no, eT_isi, eT_var, eT_cst, eT_op, eT_chn, eT_call, eT_bi, eE_isi, eE_var, eE_op, eE_glo, eE_chn, eE_cst, eE_bi, eE_bif, eE_tup, eE_fre, eE_dic0, eE_neg, eE_no, eE_and, eE_or, eE_ite, eE_call, eE_me, eE_sl, eE_rev, eO_non, eO_som, part_int, eEs_cons, eEs_nil, eF_lst, eF_list, eF_lc, eI_e, eI_f, eI_rng1, eI_enu, eI_z2, eI_z3, src_tup, src_rol, enu_tup, zip_tup, zip_tup3, its_items, List.getElem?_cons_zero, List.getElem?_cons_succ, List.set_cons_zero, List.set_cons_succ, rdVar_some, rb_ok, rb_exn, any_str, any_tup, any_int, any_bl, any_non, tr_bl, pur_at, alloc_at, bnd_at, o_add, o_sub, o_lt, o_le, o_gt, o_ge, o_eqI, o_neI, o_eqS, o_isN, chn_t, chn_f, lf_ok, lf_exn, sq_nx, sq_ret, sq_exn, ctx_glo, ctx_call, ctx_ini, opt_some, o_notinS, o_inS, bi_lenT, bi_intI, bi_intB, bi_abs, bi_max, bi_min, bif_tup, bi_tupT, neg_int', sl_tup, nxO_some, putT_nm, putT_tup, putTs_nil, putTs_cons, Option.bind_some, raiO_1, raiO_2, ix_0, ix_1, beq_self_eq_true, Bool.not_true, Bool.not_false, Bool.false_eq_true, ↓reduceIte, Bool.true_and, Bool.false_and, Bool.and_false, Bool.and_true, decide_true, decide_false, wipe_nil, wipe_cons]) fun i hi => lcF_at rfl (by simp only [cut_fst (hf i hi).1, eSs_cons, eS_if, eS_asg, eS_sub, eS_exp, eS_ret, eS_for, eS_rais, eS_brk, eS_cont, eS_pass, ss_nil', eT_or, eT_and, eT_no, eT_isi, eT_var, eT_cst, eT_op, eT_chn, eT_call, eT_bi, eE_isi, eE_var, eE_op, eE_glo, eE_chn, eE_cst, eE_bi, eE_bif, eE_tup, eE_fre, eE_dic0, eE_neg, eE_no, eE_and, eE_or, eE_ite, eE_call, eE_me, eE_sl, eE_rev, eO_non, eO_som, part_int, eEs_cons, eEs_nil, eF_lst, eF_list, eF_lc, eI_e, eI_f, eI_rng1, eI_enu, eI_z2, eI_z3, src_tup, src_rol, enu_tup, zip_tup, zip_tup3, its_items, List.getElem?_cons_zero, List.getElem?_cons_succ, List.set_cons_zero, List.set_cons_succ, rdVar_some, rb_ok, rb_exn, any_str, any_tup, any_int, any_bl, any_non, tr_bl, pur_at, alloc_at, bnd_at, o_add, o_sub, o_lt, o_le, o_gt, o_ge, o_eqI, o_neI, o_eqS, o_isN, chn_t, chn_f, lf_ok, lf_exn, sq_nx, sq_ret, sq_exn, ctx_glo, ctx_call, ctx_ini, opt_some, o_notinS, o_inS, bi_lenT, bi_intI, bi_intB, bi_abs, bi_max, bi_min, bif_tup, bi_tupT, neg_int', sl_tup, nxO_some, putT_nm, putT_tup, putTs_nil, putTs_cons, Option.bind_some, raiO_1, raiO_2, ix_0, ix_1, beq_self_eq_true, Bool.not_true, Bool.not_false, Bool.false_eq_true, ↓reduceIte, Bool.true_and, Bool.false_and, Bool.and_false, Bool.and_true, decide_true, decide_false, wipe_nil, wipe_cons])) ?_
    have hs := same5 HP (fu := fu) (n := n) (S := S) (d := .tup [sTold, mR m fun i => fstD (f i)]) (Pl.pair .str (Pl.row G.top fun i hi => pl_fst))
    refine Ret.step (by simp only [show D.str [116, 111, 108, 100] = sTold from rfl, hs, eSs_cons, eS_if, eS_asg, eS_sub, eS_exp, eS_ret, eS_for, eS_rais, eS_brk, eS_cont, eS_pass, ss_nil', eT_or, eT_and, eT_no, eT_isi, eT_var, eT_cst, eT_op, eT_chn, eT_call, eT_bi, eE_isi, eE_var, eE_op, eE_glo, eE_chn, eE_cst, eE_bi, eE_bif, eE_tup, eE_fre, eE_dic0, eE_neg, eE_no, eE_and, eE_or, eE_ite, eE_call, eE_me, eE_sl, eE_rev, eO_non, eO_som, part_int, eEs_cons, eEs_nil, eF_lst, eF_list, eF_lc, eI_e, eI_f, eI_rng1, eI_enu, eI_z2, eI_z3, src_tup, src_rol, enu_tup, zip_tup, zip_tup3, its_items, List.getElem?_cons_zero, List.getElem?_cons_succ, List.set_cons_zero, List.set_cons_succ, rdVar_some, rb_ok, rb_exn, any_str, any_tup, any_int, any_bl, any_non, tr_bl, pur_at, alloc_at, bnd_at, o_add, o_sub, o_lt, o_le, o_gt, o_ge, o_eqI, o_neI, o_eqS, o_isN, chn_t, chn_f, lf_ok, lf_exn, sq_nx, sq_ret, sq_exn, ctx_glo, ctx_call, ctx_ini, opt_some, o_notinS, o_inS, bi_lenT, bi_intI, bi_intB, bi_abs, bi_max, bi_min, bif_tup, bi_tupT, neg_int', sl_tup, nxO_some, putT_nm, putT_tup, putTs_nil, putTs_cons, Option.bind_some, raiO_1, raiO_2, ix_0, ix_1, beq_self_eq_true, Bool.not_true, Bool.not_false, Bool.false_eq_true, ↓reduceIte, Bool.true_and, Bool.false_and, Bool.and_false, Bool.and_true, decide_true, decide_false, wipe_nil, wipe_cons]; rfl) ?_
    refine Ret.step (by simp only [eSs_cons, eS_if, eS_asg, eS_sub, eS_exp, eS_ret, eS_for, eS_rais, eS_brk, eS_cont, eS_pass, ss_nil', eT_or, eT_and, eT_no, eT_isi, eT_var, eT_cst, eT_op, eT_chn, eT_call, eT_bi, eE_isi, eE_var, eE_op, eE_glo, eE_chn, eE_cst, eE_bi, eE_bif, eE_tup, eE_fre, eE_dic0, eE_neg, eE_no, eE_and, eE_or, eE_ite, eE_call, eE_me, eE_sl, eE_rev, eO_non, eO_som, part_int, eEs_cons, eEs_nil, eF_lst, eF_list, eF_lc, eI_e, eI_f, eI_rng1, eI_enu, eI_z2, eI_z3, src_tup, src_rol, enu_tup, zip_tup, zip_tup3, its_items, List.getElem?_cons_zero, List.getElem?_cons_succ, List.set_cons_zero, List.set_cons_succ, rdVar_some, rb_ok, rb_exn, any_str, any_tup, any_int, any_bl, any_non, tr_bl, pur_at, alloc_at, bnd_at, o_add, o_sub, o_lt, o_le, o_gt, o_ge, o_eqI, o_neI, o_eqS, o_isN, chn_t, chn_f, lf_ok, lf_exn, sq_nx, sq_ret, sq_exn, ctx_glo, ctx_call, ctx_ini, opt_some, o_notinS, o_inS, bi_lenT, bi_intI, bi_intB, bi_abs, bi_max, bi_min, bif_tup, bi_tupT, neg_int', sl_tup, nxO_some, putT_nm, putT_tup, putTs_nil, putTs_cons, Option.bind_some, raiO_1, raiO_2, ix_0, ix_1, beq_self_eq_true, Bool.not_true, Bool.not_false, Bool.false_eq_true, ↓reduceIte, Bool.true_and, Bool.false_and, Bool.and_false, Bool.and_true, decide_true, decide_false, wipe_nil, wipe_cons]; rfl) ?_
    refine Ret.forR (m := m) (em := fun (i : Nat) => .int (i : Int)) (S' := S ++ [.lst []]) (by simp only [show ∀ S, biD .len [dL m w z] S = .ok (.int (m : Int)) S from fun S => len_mR, rng_R G.top, eSs_cons, eS_if, eS_asg, eS_sub, eS_exp, eS_ret, eS_for, eS_rais, eS_brk, eS_cont, eS_pass, ss_nil', eT_or, eT_and, eT_no, eT_isi, eT_var, eT_cst, eT_op, eT_chn, eT_call, eT_bi, eE_isi, eE_var, eE_op, eE_glo, eE_chn, eE_cst, eE_bi, eE_bif, eE_tup, eE_fre, eE_dic0, eE_neg, eE_no, eE_and, eE_or, eE_ite, eE_call, eE_me, eE_sl, eE_rev, eO_non, eO_som, part_int, eEs_cons, eEs_nil, eF_lst, eF_list, eF_lc, eI_e, eI_f, eI_rng1, eI_enu, eI_z2, eI_z3, src_tup, src_rol, enu_tup, zip_tup, zip_tup3, its_items, List.getElem?_cons_zero, List.getElem?_cons_succ, List.set_cons_zero, List.set_cons_succ, rdVar_some, rb_ok, rb_exn, any_str, any_tup, any_int, any_bl, any_non, tr_bl, pur_at, alloc_at, bnd_at, o_add, o_sub, o_lt, o_le, o_gt, o_ge, o_eqI, o_neI, o_eqS, o_isN, chn_t, chn_f, lf_ok, lf_exn, sq_nx, sq_ret, sq_exn, ctx_glo, ctx_call, ctx_ini, opt_some, o_notinS, o_inS, bi_lenT, bi_intI, bi_intB, bi_abs, bi_max, bi_min, bif_tup, bi_tupT, neg_int', sl_tup, nxO_some, putT_nm, putT_tup, putTs_nil, putTs_cons, Option.bind_some, raiO_1, raiO_2, ix_0, ix_1, beq_self_eq_true, Bool.not_true, Bool.not_false, Bool.false_eq_true, ↓reduceIte, Bool.true_and, Bool.false_and, Bool.and_false, Bool.and_true, decide_true, decide_false, wipe_nil, wipe_cons])
      (fun i δ S' => (∃ x6 x7 x8 x9, δ = [some (dL m w z), some (dI m f), some (dI m h), some (.tup [sTold, mR m fun i => fstD (f i)]), some (mR m fun i => fstD (f i)), some (.ref S.length), x6, x7, x8, x9, none]) ∧ S' = S ++ [.lst ((List.range i).map fun j => .int (lcF2 z f h j))]) ?_ ⟨⟨none, none, none, none, rfl⟩, rfl⟩ ?_
    · rintro i δ S' hi ⟨⟨x6, x7, x8, x9, rfl⟩, rfl⟩
      have h0 := hf i hi
      have h1 := hh i hi
      have iL : ∀ S, opD .ix (dL m w z) (.int (i : Int)) S = .ok (.tup [.str (w i), .int (z i)]) S := fun S => ix_R hi
      have iH : ∀ S, opD .ix (dI m h) (.int (i : Int)) S = .ok (.int (h i)) S := fun S => ix_R hi
      have iF : ∀ S, opD .ix (mR m fun i => fstD (f i)) (.int (i : Int)) S = .ok (fstD (f i)) S := fun S => ix_R hi
      have hap : ∀ x, meD .append (.ref S.length) [x] (S ++ [.lst ((List.range i).map fun j => .int (lcF2 z f h j))]) = .ok .non (S ++ [.lst ((List.range i).map (fun j => D.int (lcF2 z f h j)) ++ [x])]) := fun x => by
        rw [app_L get_app (by rw [len_R]; exact Nat.lt_of_lt_of_le hi G.top), set_app]
      by_cases hp : 0 < f i
      · have iF : ∀ S, opD .ix (mR m fun i => fstD (f i)) (.int (i : Int)) S = .ok (.tup [.tup [.int 0, .int (f i)]]) S := fun S => by
          rw [iF]
          unfold fstD
          rw [if_pos hp]
        rw [forB_at rfl]
        have e1 : (if f i - (if z i - h i > 0 then z i - h i else 0) > 0 then f i - (if z i - h i > 0 then z i - h i else 0) else 0) = lcF2 z f h i := by
          unfold lcF2 mx0
          split <;> split <;> split <;> omega
        simp only [iL, iH, iF, forL_cons, forL_nil, forB_def, optB_some, fr_nx, isL_L get_app, hap, e1, Int.zero_add, eE_me, eSs_cons, eS_if, eS_asg, eS_sub, eS_exp, eS_ret, eS_for, eS_rais, eS_brk, eS_cont, eS_pass, ss_nil', eT_or, eT_and, eT_no, eT_isi, eT_var, eT_cst, eT_op, eT_chn, eT_call, eT_bi, eE_isi, eE_var, eE_op, eE_glo, eE_chn, eE_cst, eE_bi, eE_bif, eE_tup, eE_fre, eE_dic0, eE_neg, eE_no, eE_and, eE_or, eE_ite, eE_call, eE_me, eE_sl, eE_rev, eO_non, eO_som, part_int, eEs_cons, eEs_nil, eF_lst, eF_list, eF_lc, eI_e, eI_f, eI_rng1, eI_enu, eI_z2, eI_z3, src_tup, src_rol, enu_tup, zip_tup, zip_tup3, its_items, List.getElem?_cons_zero, List.getElem?_cons_succ, List.set_cons_zero, List.set_cons_succ, rdVar_some, rb_ok, rb_exn, any_str, any_tup, any_int, any_bl, any_non, tr_bl, pur_at, alloc_at, bnd_at, o_add, o_sub, o_lt, o_le, o_gt, o_ge, o_eqI, o_neI, o_eqS, o_isN, chn_t, chn_f, lf_ok, lf_exn, sq_nx, sq_ret, sq_exn, ctx_glo, ctx_call, ctx_ini, opt_some, o_notinS, o_inS, bi_lenT, bi_intI, bi_intB, bi_abs, bi_max, bi_min, bif_tup, bi_tupT, neg_int', sl_tup, nxO_some, putT_nm, putT_tup, putTs_nil, putTs_cons, Option.bind_some, raiO_1, raiO_2, ix_0, ix_1, beq_self_eq_true, Bool.not_true, Bool.not_false, Bool.false_eq_true, ↓reduceIte, Bool.true_and, Bool.false_and, Bool.and_false, Bool.and_true, decide_true, decide_false, wipe_nil, wipe_cons]
        exact ⟨_, _, rfl, ⟨_, _, _, _, rfl⟩, by rw [range_app]⟩
      · have iF : ∀ S, opD .ix (mR m fun i => fstD (f i)) (.int (i : Int)) S = .ok (.tup []) S := fun S => by
          rw [iF]
          unfold fstD
          rw [if_neg hp]
        rw [forB_at rfl]
        have e1 : (0 : Int) = lcF2 z f h i := by
          unfold lcF2 mx0
          split <;> omega
        simp only [iL, iH, iF, forL_cons, forL_nil, forB_def, optB_some, fr_nx, isL_L get_app, hap, Int.zero_add, eE_me, eSs_cons, eS_if, eS_asg, eS_sub, eS_exp, eS_ret, eS_for, eS_rais, eS_brk, eS_cont, eS_pass, ss_nil', eT_or, eT_and, eT_no, eT_isi, eT_var, eT_cst, eT_op, eT_chn, eT_call, eT_bi, eE_isi, eE_var, eE_op, eE_glo, eE_chn, eE_cst, eE_bi, eE_bif, eE_tup, eE_fre, eE_dic0, eE_neg, eE_no, eE_and, eE_or, eE_ite, eE_call, eE_me, eE_sl, eE_rev, eO_non, eO_som, part_int, eEs_cons, eEs_nil, eF_lst, eF_list, eF_lc, eI_e, eI_f, eI_rng1, eI_enu, eI_z2, eI_z3, src_tup, src_rol, enu_tup, zip_tup, zip_tup3, its_items, List.getElem?_cons_zero, List.getElem?_cons_succ, List.set_cons_zero, List.set_cons_succ, rdVar_some, rb_ok, rb_exn, any_str, any_tup, any_int, any_bl, any_non, tr_bl, pur_at, alloc_at, bnd_at, o_add, o_sub, o_lt, o_le, o_gt, o_ge, o_eqI, o_neI, o_eqS, o_isN, chn_t, chn_f, lf_ok, lf_exn, sq_nx, sq_ret, sq_exn, ctx_glo, ctx_call, ctx_ini, opt_some, o_notinS, o_inS, bi_lenT, bi_intI, bi_intB, bi_abs, bi_max, bi_min, bif_tup, bi_tupT, neg_int', sl_tup, nxO_some, putT_nm, putT_tup, putTs_nil, putTs_cons, Option.bind_some, raiO_1, raiO_2, ix_0, ix_1, beq_self_eq_true, Bool.not_true, Bool.not_false, Bool.false_eq_true, ↓reduceIte, Bool.true_and, Bool.false_and, Bool.and_false, Bool.and_true, decide_true, decide_false, wipe_nil, wipe_cons]
        exact ⟨_, _, rfl, ⟨_, _, _, _, rfl⟩, by rw [show (D.int 0) = D.int (lcF2 z f h i) from congrArg D.int e1, range_app (f := fun j => D.int (lcF2 z f h j))]⟩
    · rintro δ S' ⟨⟨x6, x7, x8, x9, rfl⟩, rfl⟩
      have ht : biD .tuple [.ref S.length] (S ++ [.lst ((List.range m).map fun j => .int (lcF2 z f h j))]) = .ok (dI m (lcF2 z f h)) _ := bi_tupL get_app
      simp only [told_least HP G hf hh, ht, show D.str [116, 111, 108, 100] = sTold from rfl, same_I HP G.top, eSs_cons, eS_if, eS_asg, eS_sub, eS_exp, eS_ret, eS_for, eS_rais, eS_brk, eS_cont, eS_pass, ss_nil', eT_or, eT_and, eT_no, eT_isi, eT_var, eT_cst, eT_op, eT_chn, eT_call, eT_bi, eE_isi, eE_var, eE_op, eE_glo, eE_chn, eE_cst, eE_bi, eE_bif, eE_tup, eE_fre, eE_dic0, eE_neg, eE_no, eE_and, eE_or, eE_ite, eE_call, eE_me, eE_sl, eE_rev, eO_non, eO_som, part_int, eEs_cons, eEs_nil, eF_lst, eF_list, eF_lc, eI_e, eI_f, eI_rng1, eI_enu, eI_z2, eI_z3, src_tup, src_rol, enu_tup, zip_tup, zip_tup3, its_items, List.getElem?_cons_zero, List.getElem?_cons_succ, List.set_cons_zero, List.set_cons_succ, rdVar_some, rb_ok, rb_exn, any_str, any_tup, any_int, any_bl, any_non, tr_bl, pur_at, alloc_at, bnd_at, o_add, o_sub, o_lt, o_le, o_gt, o_ge, o_eqI, o_neI, o_eqS, o_isN, chn_t, chn_f, lf_ok, lf_exn, sq_nx, sq_ret, sq_exn, ctx_glo, ctx_call, ctx_ini, opt_some, o_notinS, o_inS, bi_lenT, bi_intI, bi_intB, bi_abs, bi_max, bi_min, bif_tup, bi_tupT, neg_int', sl_tup, nxO_some, putT_nm, putT_tup, putTs_nil, putTs_cons, Option.bind_some, raiO_1, raiO_2, ix_0, ix_1, beq_self_eq_true, Bool.not_true, Bool.not_false, Bool.false_eq_true, ↓reduceIte, Bool.true_and, Bool.false_and, Bool.and_false, Bool.and_true, decide_true, decide_false, wipe_nil, wipe_cons]
      exact ⟨_, _, rfl, rfl, _, rfl⟩
  obtain ⟨_, _, e1, rfl, o, rfl⟩ := e0
  exact (congrArg (fun r => fin _ (endR r)) e1).trans (fin_ok rfl)
end
end K03

set_option Elab.async false
set_option linter.all false
set_option maxRecDepth 100000
set_option maxHeartbeats 4000000
/-! k03: everything of two counts. -/
namespace K03
open Mi
theorem dI_inj {m : Nat} {f f' : Nat → Int} (h : dI m f = dI m f') : ∀ i, i < m → f i = f' i := fun i hi =>
  D.int.inj (List.map_inj_left.mp (D.tup.inj h) i (List.mem_range.mpr hi))
theorem leR_iff {m : Nat} {f h : Nat → Int} : leR m f h = true ↔ ∀ i, i < m → f i ≤ h i := by
  unfold leR
  rw [List.all_eq_true]
  exact ⟨fun k i hi => of_decide_eq_true (k i (List.mem_range.mpr hi)), fun k i hi => decide_eq_true (k i (List.mem_range.mp hi))⟩
theorem leR_pair {m : Nat} {f h f' h' : Nat → Int} (e : D.tup [dI m f, dI m h] = D.tup [dI m f', dI m h']) : leR m f h = leR m f' h' := by
  injection D.tup.inj e with e1 e2
  injection e2 with e2
  have i1 := dI_inj e1
  have i2 := dI_inj e2
  rw [Bool.eq_iff_iff, leR_iff, leR_iff]
  exact ⟨fun k i hi => by rw [← i1 i hi, ← i2 i hi]; exact k i hi, fun k i hi => by rw [i1 i hi, i2 i hi]; exact k i hi⟩
def OutOK (m : Nat) (z : Nat → Int) (d : D) : Prop := ∃ f, FitC m z f ∧ d = .tup [dI m f, dI m fun i => z i - f i]
section
variable {P : Prog} (HP : HasL P) {fu n : Nat} {S : Store} {t g a : Nat} {bs : List Int} {m : Nat} {w : Nat → List Nat} {z f h : Nat → Int}
include HP
theorem pair_ok (G : GL m w z) (hm : m < mx) (hf : FitC m z f) (hh : FitC m z h) (M0 : Mem S t g a bs) {p0 p1 p2 p3 : Int} (A : As p0 p1 p2 p3 bs) :
    Res t g a S (callN P fu (n + 7) "_law_pair" [.ref t, .ref a, dL m w z, dI m f, dI m h] S) fun d bs' => d = .bl true ∧ As (p0 + 1) (p1 + 1) p2 p3 bs' := by
  refine res_of HP.f__law_pair rfl M0 ?_
  show Ret (evSs _ b__law_pair [some (.ref t), some (.ref a), some (dL m w z), some (dI m f), some (dI m h), none, none, none, none, none, none, none, none] S) _
  have hlen : ∀ S, biD .len [dL m w z] S = .ok (.int (m : Int)) S := fun S => len_mR
  unfold b__law_pair
  refine Ret.step (by simp only [sizes_ok HP (n := n + 5) G.top, eSs_cons, eS_if, eS_asg, eS_sub, eS_exp, eS_ret, eS_for, eS_rais, eS_brk, eS_cont, eS_pass, ss_nil', eT_or, eT_and, eT_no, eT_isi, eT_var, eT_cst, eT_op, eT_chn, eT_call, eT_bi, eE_isi, eE_var, eE_op, eE_glo, eE_chn, eE_cst, eE_bi, eE_bif, eE_tup, eE_fre, eE_dic0, eE_neg, eE_no, eE_and, eE_or, eE_ite, eE_call, eE_me, eE_sl, eE_rev, eO_non, eO_som, part_int, eEs_cons, eEs_nil, eF_lst, eF_list, eF_lc, eI_e, eI_f, eI_rng1, eI_enu, eI_z2, eI_z3, src_tup, src_rol, enu_tup, zip_tup, zip_tup3, its_items, List.getElem?_cons_zero, List.getElem?_cons_succ, List.set_cons_zero, List.set_cons_succ, rdVar_some, rb_ok, rb_exn, any_str, any_tup, any_int, any_bl, any_non, tr_bl, pur_at, alloc_at, bnd_at, o_add, o_sub, o_lt, o_le, o_gt, o_ge, o_eqI, o_neI, o_eqS, o_isN, chn_t, chn_f, lf_ok, lf_exn, sq_nx, sq_ret, sq_exn, ctx_glo, ctx_call, ctx_ini, opt_some, o_notinS, o_inS, bi_lenT, bi_intI, bi_intB, bi_abs, bi_max, bi_min, bif_tup, bi_tupT, neg_int', sl_tup, nxO_some, putT_nm, putT_tup, putTs_nil, putTs_cons, Option.bind_some, raiO_1, raiO_2, ix_0, ix_1, beq_self_eq_true, Bool.not_true, Bool.not_false, Bool.false_eq_true, ↓reduceIte, Bool.true_and, Bool.false_and, Bool.and_false, Bool.and_true, decide_true, decide_false, wipe_nil, wipe_cons]; rfl) ?_
  refine Ret.step (asg_row (m := m) (em := fun i => .tup [.str (w i), .int (z i)]) (gg := fun i => .int 0) G.top (by simp only [show srcD (dL m w z) S = .ok (.its ((List.range m).map fun i => D.tup [.str (w i), .int (z i)])) S from src_tup, eSs_cons, eS_if, eS_asg, eS_sub, eS_exp, eS_ret, eS_for, eS_rais, eS_brk, eS_cont, eS_pass, ss_nil', eT_or, eT_and, eT_no, eT_isi, eT_var, eT_cst, eT_op, eT_chn, eT_call, eT_bi, eE_isi, eE_var, eE_op, eE_glo, eE_chn, eE_cst, eE_bi, eE_bif, eE_tup, eE_fre, eE_dic0, eE_neg, eE_no, eE_and, eE_or, eE_ite, eE_call, eE_me, eE_sl, eE_rev, eO_non, eO_som, part_int, eEs_cons, eEs_nil, eF_lst, eF_list, eF_lc, eI_e, eI_f, eI_rng1, eI_enu, eI_z2, eI_z3, src_tup, src_rol, enu_tup, zip_tup, zip_tup3, its_items, List.getElem?_cons_zero, List.getElem?_cons_succ, List.set_cons_zero, List.set_cons_succ, rdVar_some, rb_ok, rb_exn, any_str, any_tup, any_int, any_bl, any_non, tr_bl, pur_at, alloc_at, bnd_at, o_add, o_sub, o_lt, o_le, o_gt, o_ge, o_eqI, o_neI, o_eqS, o_isN, chn_t, chn_f, lf_ok, lf_exn, sq_nx, sq_ret, sq_exn, ctx_glo, ctx_call, ctx_ini, opt_some, o_notinS, o_inS, bi_lenT, bi_intI, bi_intB, bi_abs, bi_max, bi_min, bif_tup, bi_tupT, neg_int', sl_tup, nxO_some, putT_nm, putT_tup, putTs_nil, putTs_cons, Option.bind_some, raiO_1, raiO_2, ix_0, ix_1, beq_self_eq_true, Bool.not_true, Bool.not_false, Bool.false_eq_true, ↓reduceIte, Bool.true_and, Bool.false_and, Bool.and_false, Bool.and_true, decide_true, decide_false, wipe_nil, wipe_cons]) fun i hi => lcF_at rfl (by simp only [eSs_cons, eS_if, eS_asg, eS_sub, eS_exp, eS_ret, eS_for, eS_rais, eS_brk, eS_cont, eS_pass, ss_nil', eT_or, eT_and, eT_no, eT_isi, eT_var, eT_cst, eT_op, eT_chn, eT_call, eT_bi, eE_isi, eE_var, eE_op, eE_glo, eE_chn, eE_cst, eE_bi, eE_bif, eE_tup, eE_fre, eE_dic0, eE_neg, eE_no, eE_and, eE_or, eE_ite, eE_call, eE_me, eE_sl, eE_rev, eO_non, eO_som, part_int, eEs_cons, eEs_nil, eF_lst, eF_list, eF_lc, eI_e, eI_f, eI_rng1, eI_enu, eI_z2, eI_z3, src_tup, src_rol, enu_tup, zip_tup, zip_tup3, its_items, List.getElem?_cons_zero, List.getElem?_cons_succ, List.set_cons_zero, List.set_cons_succ, rdVar_some, rb_ok, rb_exn, any_str, any_tup, any_int, any_bl, any_non, tr_bl, pur_at, alloc_at, bnd_at, o_add, o_sub, o_lt, o_le, o_gt, o_ge, o_eqI, o_neI, o_eqS, o_isN, chn_t, chn_f, lf_ok, lf_exn, sq_nx, sq_ret, sq_exn, ctx_glo, ctx_call, ctx_ini, opt_some, o_notinS, o_inS, bi_lenT, bi_intI, bi_intB, bi_abs, bi_max, bi_min, bif_tup, bi_tupT, neg_int', sl_tup, nxO_some, putT_nm, putT_tup, putTs_nil, putTs_cons, Option.bind_some, raiO_1, raiO_2, ix_0, ix_1, beq_self_eq_true, Bool.not_true, Bool.not_false, Bool.false_eq_true, ↓reduceIte, Bool.true_and, Bool.false_and, Bool.and_false, Bool.and_true, decide_true, decide_false, wipe_nil, wipe_cons])) ?_
  refine Ret.step (asg_row (m := m) (em := fun (i : Nat) => .int (i : Int)) (gg := fun i => .int (z i - f i)) G.top (by simp only [hlen, rng_R G.top, eSs_cons, eS_if, eS_asg, eS_sub, eS_exp, eS_ret, eS_for, eS_rais, eS_brk, eS_cont, eS_pass, ss_nil', eT_or, eT_and, eT_no, eT_isi, eT_var, eT_cst, eT_op, eT_chn, eT_call, eT_bi, eE_isi, eE_var, eE_op, eE_glo, eE_chn, eE_cst, eE_bi, eE_bif, eE_tup, eE_fre, eE_dic0, eE_neg, eE_no, eE_and, eE_or, eE_ite, eE_call, eE_me, eE_sl, eE_rev, eO_non, eO_som, part_int, eEs_cons, eEs_nil, eF_lst, eF_list, eF_lc, eI_e, eI_f, eI_rng1, eI_enu, eI_z2, eI_z3, src_tup, src_rol, enu_tup, zip_tup, zip_tup3, its_items, List.getElem?_cons_zero, List.getElem?_cons_succ, List.set_cons_zero, List.set_cons_succ, rdVar_some, rb_ok, rb_exn, any_str, any_tup, any_int, any_bl, any_non, tr_bl, pur_at, alloc_at, bnd_at, o_add, o_sub, o_lt, o_le, o_gt, o_ge, o_eqI, o_neI, o_eqS, o_isN, chn_t, chn_f, lf_ok, lf_exn, sq_nx, sq_ret, sq_exn, ctx_glo, ctx_call, ctx_ini, opt_some, o_notinS, o_inS, bi_lenT, bi_intI, bi_intB, bi_abs, bi_max, bi_min, bif_tup, bi_tupT, neg_int', sl_tup, nxO_some, putT_nm, putT_tup, putTs_nil, putTs_cons, Option.bind_some, raiO_1, raiO_2, ix_0, ix_1, beq_self_eq_true, Bool.not_true, Bool.not_false, Bool.false_eq_true, ↓reduceIte, Bool.true_and, Bool.false_and, Bool.and_false, Bool.and_true, decide_true, decide_false, wipe_nil, wipe_cons]) fun i hi => lcF_at rfl (by
    have h1 : opD .ix (dI m f) (.int (i : Int)) S = .ok (.int (f i)) S := ix_R hi
    have h2 : opD .ix (dI m z) (.int (i : Int)) S = .ok (.int (z i)) S := ix_R hi
    simp only [h1, h2, eSs_cons, eS_if, eS_asg, eS_sub, eS_exp, eS_ret, eS_for, eS_rais, eS_brk, eS_cont, eS_pass, ss_nil', eT_or, eT_and, eT_no, eT_isi, eT_var, eT_cst, eT_op, eT_chn, eT_call, eT_bi, eE_isi, eE_var, eE_op, eE_glo, eE_chn, eE_cst, eE_bi, eE_bif, eE_tup, eE_fre, eE_dic0, eE_neg, eE_no, eE_and, eE_or, eE_ite, eE_call, eE_me, eE_sl, eE_rev, eO_non, eO_som, part_int, eEs_cons, eEs_nil, eF_lst, eF_list, eF_lc, eI_e, eI_f, eI_rng1, eI_enu, eI_z2, eI_z3, src_tup, src_rol, enu_tup, zip_tup, zip_tup3, its_items, List.getElem?_cons_zero, List.getElem?_cons_succ, List.set_cons_zero, List.set_cons_succ, rdVar_some, rb_ok, rb_exn, any_str, any_tup, any_int, any_bl, any_non, tr_bl, pur_at, alloc_at, bnd_at, o_add, o_sub, o_lt, o_le, o_gt, o_ge, o_eqI, o_neI, o_eqS, o_isN, chn_t, chn_f, lf_ok, lf_exn, sq_nx, sq_ret, sq_exn, ctx_glo, ctx_call, ctx_ini, opt_some, o_notinS, o_inS, bi_lenT, bi_intI, bi_intB, bi_abs, bi_max, bi_min, bif_tup, bi_tupT, neg_int', sl_tup, nxO_some, putT_nm, putT_tup, putTs_nil, putTs_cons, Option.bind_some, raiO_1, raiO_2, ix_0, ix_1, beq_self_eq_true, Bool.not_true, Bool.not_false, Bool.false_eq_true, ↓reduceIte, Bool.true_and, Bool.false_and, Bool.and_false, Bool.and_true, decide_true, decide_false, wipe_nil, wipe_cons])) ?_
  obtain ⟨r, S1, e1, hr, M1, F1⟩ := draw HP (fu := fu) (n := n + 5) M0 (many := (m : Int)) (by have := G.pos; omega) (by have := G.top; unfold mx at this; omega)
  obtain ⟨k, rfl⟩ : ∃ k : Nat, r = (k : Int) := ⟨r.toNat, by omega⟩
  have hk : k < m := by omega
  have kf : opD .ix (dI m f) (.int (k : Int)) S1 = .ok (.int (f k)) S1 := ix_R hk
  have kz : opD .ix (dI m z) (.int (k : Int)) S1 = .ok (.int (z k)) S1 := ix_R hk
  refine Ret.step (by simp only [hlen, e1, eSs_cons, eS_if, eS_asg, eS_sub, eS_exp, eS_ret, eS_for, eS_rais, eS_brk, eS_cont, eS_pass, ss_nil', eT_or, eT_and, eT_no, eT_isi, eT_var, eT_cst, eT_op, eT_chn, eT_call, eT_bi, eE_isi, eE_var, eE_op, eE_glo, eE_chn, eE_cst, eE_bi, eE_bif, eE_tup, eE_fre, eE_dic0, eE_neg, eE_no, eE_and, eE_or, eE_ite, eE_call, eE_me, eE_sl, eE_rev, eO_non, eO_som, part_int, eEs_cons, eEs_nil, eF_lst, eF_list, eF_lc, eI_e, eI_f, eI_rng1, eI_enu, eI_z2, eI_z3, src_tup, src_rol, enu_tup, zip_tup, zip_tup3, its_items, List.getElem?_cons_zero, List.getElem?_cons_succ, List.set_cons_zero, List.set_cons_succ, rdVar_some, rb_ok, rb_exn, any_str, any_tup, any_int, any_bl, any_non, tr_bl, pur_at, alloc_at, bnd_at, o_add, o_sub, o_lt, o_le, o_gt, o_ge, o_eqI, o_neI, o_eqS, o_isN, chn_t, chn_f, lf_ok, lf_exn, sq_nx, sq_ret, sq_exn, ctx_glo, ctx_call, ctx_ini, opt_some, o_notinS, o_inS, bi_lenT, bi_intI, bi_intB, bi_abs, bi_max, bi_min, bif_tup, bi_tupT, neg_int', sl_tup, nxO_some, putT_nm, putT_tup, putTs_nil, putTs_cons, Option.bind_some, raiO_1, raiO_2, ix_0, ix_1, beq_self_eq_true, Bool.not_true, Bool.not_false, Bool.false_eq_true, ↓reduceIte, Bool.true_and, Bool.false_and, Bool.and_false, Bool.and_true, decide_true, decide_false, wipe_nil, wipe_cons]; rfl) ?_
  refine Ret.step (by simp only [kf, kz, with_int HP (n := n + 5) hk hm, eSs_cons, eS_if, eS_asg, eS_sub, eS_exp, eS_ret, eS_for, eS_rais, eS_brk, eS_cont, eS_pass, ss_nil', eT_or, eT_and, eT_no, eT_isi, eT_var, eT_cst, eT_op, eT_chn, eT_call, eT_bi, eE_isi, eE_var, eE_op, eE_glo, eE_chn, eE_cst, eE_bi, eE_bif, eE_tup, eE_fre, eE_dic0, eE_neg, eE_no, eE_and, eE_or, eE_ite, eE_call, eE_me, eE_sl, eE_rev, eO_non, eO_som, part_int, eEs_cons, eEs_nil, eF_lst, eF_list, eF_lc, eI_e, eI_f, eI_rng1, eI_enu, eI_z2, eI_z3, src_tup, src_rol, enu_tup, zip_tup, zip_tup3, its_items, List.getElem?_cons_zero, List.getElem?_cons_succ, List.set_cons_zero, List.set_cons_succ, rdVar_some, rb_ok, rb_exn, any_str, any_tup, any_int, any_bl, any_non, tr_bl, pur_at, alloc_at, bnd_at, o_add, o_sub, o_lt, o_le, o_gt, o_ge, o_eqI, o_neI, o_eqS, o_isN, chn_t, chn_f, lf_ok, lf_exn, sq_nx, sq_ret, sq_exn, ctx_glo, ctx_call, ctx_ini, opt_some, o_notinS, o_inS, bi_lenT, bi_intI, bi_intB, bi_abs, bi_max, bi_min, bif_tup, bi_tupT, neg_int', sl_tup, nxO_some, putT_nm, putT_tup, putTs_nil, putTs_cons, Option.bind_some, raiO_1, raiO_2, ix_0, ix_1, beq_self_eq_true, Bool.not_true, Bool.not_false, Bool.false_eq_true, ↓reduceIte, Bool.true_and, Bool.false_and, Bool.and_false, Bool.and_true, decide_true, decide_false, wipe_nil, wipe_cons]; rfl) ?_
  refine Ret.step (by simp only [kf, with_int HP (n := n + 5) hk hm, eSs_cons, eS_if, eS_asg, eS_sub, eS_exp, eS_ret, eS_for, eS_rais, eS_brk, eS_cont, eS_pass, ss_nil', eT_or, eT_and, eT_no, eT_isi, eT_var, eT_cst, eT_op, eT_chn, eT_call, eT_bi, eE_isi, eE_var, eE_op, eE_glo, eE_chn, eE_cst, eE_bi, eE_bif, eE_tup, eE_fre, eE_dic0, eE_neg, eE_no, eE_and, eE_or, eE_ite, eE_call, eE_me, eE_sl, eE_rev, eO_non, eO_som, part_int, eEs_cons, eEs_nil, eF_lst, eF_list, eF_lc, eI_e, eI_f, eI_rng1, eI_enu, eI_z2, eI_z3, src_tup, src_rol, enu_tup, zip_tup, zip_tup3, its_items, List.getElem?_cons_zero, List.getElem?_cons_succ, List.set_cons_zero, List.set_cons_succ, rdVar_some, rb_ok, rb_exn, any_str, any_tup, any_int, any_bl, any_non, tr_bl, pur_at, alloc_at, bnd_at, o_add, o_sub, o_lt, o_le, o_gt, o_ge, o_eqI, o_neI, o_eqS, o_isN, chn_t, chn_f, lf_ok, lf_exn, sq_nx, sq_ret, sq_exn, ctx_glo, ctx_call, ctx_ini, opt_some, o_notinS, o_inS, bi_lenT, bi_intI, bi_intB, bi_abs, bi_max, bi_min, bif_tup, bi_tupT, neg_int', sl_tup, nxO_some, putT_nm, putT_tup, putTs_nil, putTs_cons, Option.bind_some, raiO_1, raiO_2, ix_0, ix_1, beq_self_eq_true, Bool.not_true, Bool.not_false, Bool.false_eq_true, ↓reduceIte, Bool.true_and, Bool.false_and, Bool.and_false, Bool.and_true, decide_true, decide_false, wipe_nil, wipe_cons]; rfl) ?_
  have fk := hf k hk
  have sk := G.size k hk
  have fZ : FitC m z z := fun i hi => ⟨by have := G.size i hi; omega, Int.le_refl _⟩
  have fE : FitC m z fun _ => 0 := fun i hi => ⟨Int.le_refl _, show (0 : Int) ≤ z i by have := G.size i hi; omega⟩
  have fR : FitC m z fun i => z i - f i := fun i hi => by have := hf i hi; exact ⟨show 0 ≤ z i - f i by omega, show z i - f i ≤ z i by omega⟩
  have fM : FitC m z fun i => if i = k then (if f k + 1 < z k then f k + 1 else z k) else f i := fun i hi => by
    by_cases e : i = k
    · subst e
      simp only [if_true]
      split <;> constructor <;> omega
    · simp only [if_neg e]
      exact hf i hi
  have fL : FitC m z fun i => if i = k then (if f k - 1 > 0 then f k - 1 else 0) else f i := fun i hi => by
    by_cases e : i = k
    · subst e
      simp only [if_true]
      split <;> constructor <;> omega
    · simp only [if_neg e]
      exact hf i hi
  have fP := fit_part hf hh
  refine Ret.forL (by simp only [eSs_cons, eS_if, eS_asg, eS_sub, eS_exp, eS_ret, eS_for, eS_rais, eS_brk, eS_cont, eS_pass, ss_nil', eT_or, eT_and, eT_no, eT_isi, eT_var, eT_cst, eT_op, eT_chn, eT_call, eT_bi, eE_isi, eE_var, eE_op, eE_glo, eE_chn, eE_cst, eE_bi, eE_bif, eE_tup, eE_fre, eE_dic0, eE_neg, eE_no, eE_and, eE_or, eE_ite, eE_call, eE_me, eE_sl, eE_rev, eO_non, eO_som, part_int, eEs_cons, eEs_nil, eF_lst, eF_list, eF_lc, eI_e, eI_f, eI_rng1, eI_enu, eI_z2, eI_z3, src_tup, src_rol, enu_tup, zip_tup, zip_tup3, its_items, List.getElem?_cons_zero, List.getElem?_cons_succ, List.set_cons_zero, List.set_cons_succ, rdVar_some, rb_ok, rb_exn, any_str, any_tup, any_int, any_bl, any_non, tr_bl, pur_at, alloc_at, bnd_at, o_add, o_sub, o_lt, o_le, o_gt, o_ge, o_eqI, o_neI, o_eqS, o_isN, chn_t, chn_f, lf_ok, lf_exn, sq_nx, sq_ret, sq_exn, ctx_glo, ctx_call, ctx_ini, opt_some, o_notinS, o_inS, bi_lenT, bi_intI, bi_intB, bi_abs, bi_max, bi_min, bif_tup, bi_tupT, neg_int', sl_tup, nxO_some, putT_nm, putT_tup, putTs_nil, putTs_cons, Option.bind_some, raiO_1, raiO_2, ix_0, ix_1, beq_self_eq_true, Bool.not_true, Bool.not_false, Bool.false_eq_true, ↓reduceIte, Bool.true_and, Bool.false_and, Bool.and_false, Bool.and_true, decide_true, decide_false, wipe_nil, wipe_cons]; rfl) (fun l δ S' => (∃ x, δ = [some (.ref t), some (.ref a), some (dL m w z), some (dI m f), some (dI m h), some (dI m z), some (dI m fun _ => 0), some (dI m fun i => z i - f i), some (.int (k : Int)), some (dI m fun i => if i = k then (if f k + 1 < z k then f k + 1 else z k) else f i), some (dI m fun i => if i = k then (if f k - 1 > 0 then f k - 1 else 0) else f i), x, none]) ∧ S' = S1 ∧ ∀ d ∈ l, PairOK m z d) (fun _ _ _ _ => rfl) ?_ ⟨⟨none, rfl⟩, rfl, ?_⟩ ?_
  · rintro d r δ S' ⟨⟨x, rfl⟩, rfl, hl⟩
    obtain ⟨f', h', i1, i2, rfl⟩ := hl d List.mem_cons_self
    rw [forB_at rfl]
    simp only [ask_least_ok HP G i1 i2, eSs_cons, eS_if, eS_asg, eS_sub, eS_exp, eS_ret, eS_for, eS_rais, eS_brk, eS_cont, eS_pass, ss_nil', eT_or, eT_and, eT_no, eT_isi, eT_var, eT_cst, eT_op, eT_chn, eT_call, eT_bi, eE_isi, eE_var, eE_op, eE_glo, eE_chn, eE_cst, eE_bi, eE_bif, eE_tup, eE_fre, eE_dic0, eE_neg, eE_no, eE_and, eE_or, eE_ite, eE_call, eE_me, eE_sl, eE_rev, eO_non, eO_som, part_int, eEs_cons, eEs_nil, eF_lst, eF_list, eF_lc, eI_e, eI_f, eI_rng1, eI_enu, eI_z2, eI_z3, src_tup, src_rol, enu_tup, zip_tup, zip_tup3, its_items, List.getElem?_cons_zero, List.getElem?_cons_succ, List.set_cons_zero, List.set_cons_succ, rdVar_some, rb_ok, rb_exn, any_str, any_tup, any_int, any_bl, any_non, tr_bl, pur_at, alloc_at, bnd_at, o_add, o_sub, o_lt, o_le, o_gt, o_ge, o_eqI, o_neI, o_eqS, o_isN, chn_t, chn_f, lf_ok, lf_exn, sq_nx, sq_ret, sq_exn, ctx_glo, ctx_call, ctx_ini, opt_some, o_notinS, o_inS, bi_lenT, bi_intI, bi_intB, bi_abs, bi_max, bi_min, bif_tup, bi_tupT, neg_int', sl_tup, nxO_some, putT_nm, putT_tup, putTs_nil, putTs_cons, Option.bind_some, raiO_1, raiO_2, ix_0, ix_1, beq_self_eq_true, Bool.not_true, Bool.not_false, Bool.false_eq_true, ↓reduceIte, Bool.true_and, Bool.false_and, Bool.and_false, Bool.and_true, decide_true, decide_false, wipe_nil, wipe_cons]
    exact ⟨_, _, rfl, ⟨_, rfl⟩, rfl, fun d hd => hl d (List.mem_cons_of_mem _ hd)⟩
  · intro d hd
    simp only [Src.items, List.mem_cons, List.not_mem_nil, or_false] at hd
    rcases hd with rfl | rfl | rfl | rfl | rfl | rfl | rfl | rfl <;> refine ⟨_, _, ?_, ?_, rfl⟩ <;> assumption
  rintro δ S' ⟨⟨x, rfl⟩, rfl, -⟩
  refine Ret.forL (by simp only [part_ok HP (n := n + 5) G.top, eSs_cons, eS_if, eS_asg, eS_sub, eS_exp, eS_ret, eS_for, eS_rais, eS_brk, eS_cont, eS_pass, ss_nil', eT_or, eT_and, eT_no, eT_isi, eT_var, eT_cst, eT_op, eT_chn, eT_call, eT_bi, eE_isi, eE_var, eE_op, eE_glo, eE_chn, eE_cst, eE_bi, eE_bif, eE_tup, eE_fre, eE_dic0, eE_neg, eE_no, eE_and, eE_or, eE_ite, eE_call, eE_me, eE_sl, eE_rev, eO_non, eO_som, part_int, eEs_cons, eEs_nil, eF_lst, eF_list, eF_lc, eI_e, eI_f, eI_rng1, eI_enu, eI_z2, eI_z3, src_tup, src_rol, enu_tup, zip_tup, zip_tup3, its_items, List.getElem?_cons_zero, List.getElem?_cons_succ, List.set_cons_zero, List.set_cons_succ, rdVar_some, rb_ok, rb_exn, any_str, any_tup, any_int, any_bl, any_non, tr_bl, pur_at, alloc_at, bnd_at, o_add, o_sub, o_lt, o_le, o_gt, o_ge, o_eqI, o_neI, o_eqS, o_isN, chn_t, chn_f, lf_ok, lf_exn, sq_nx, sq_ret, sq_exn, ctx_glo, ctx_call, ctx_ini, opt_some, o_notinS, o_inS, bi_lenT, bi_intI, bi_intB, bi_abs, bi_max, bi_min, bif_tup, bi_tupT, neg_int', sl_tup, nxO_some, putT_nm, putT_tup, putTs_nil, putTs_cons, Option.bind_some, raiO_1, raiO_2, ix_0, ix_1, beq_self_eq_true, Bool.not_true, Bool.not_false, Bool.false_eq_true, ↓reduceIte, Bool.true_and, Bool.false_and, Bool.and_false, Bool.and_true, decide_true, decide_false, wipe_nil, wipe_cons]; rfl) (fun l δ S2 => (∃ x, δ = [some (.ref t), some (.ref a), some (dL m w z), some (dI m f), some (dI m h), some (dI m z), some (dI m fun _ => 0), some (dI m fun i => z i - f i), some (.int (k : Int)), some (dI m fun i => if i = k then (if f k + 1 < z k then f k + 1 else z k) else f i), some (dI m fun i => if i = k then (if f k - 1 > 0 then f k - 1 else 0) else f i), x, none]) ∧ (∀ d ∈ l, PairOK m z d) ∧ Fr t g a S S2 ∧ ∃ bs', Mem S2 t g a bs' ∧ As p0 p1 p2 p3 bs' ∧ (D.tup [dI m f, dI m z] ∉ l → As p0 (p1 + 1) p2 p3 bs') ∧ (D.tup [dI m z, dI m fun _ => 0] ∉ l → As (p0 + 1) p1 p2 p3 bs')) (fun _ _ _ _ => rfl) ?_ ⟨⟨x, rfl⟩, ?_, F1, bs, M1, A, ?_, ?_⟩ ?_
  · rintro d r δ S2 ⟨⟨x, rfl⟩, hl, F2, bs2, M2, A2, hT, hF⟩
    obtain ⟨f', h', i1, i2, hd⟩ := hl d List.mem_cons_self
    obtain ⟨_, S3, bs3, e3, ⟨rfl, hA⟩, M3, F3⟩ := ask_below_ok HP (fu := fu) (n := n) G i1 i2 M2 A2
    have eT : d = D.tup [dI m f, dI m z] → leR m f' h' = true := fun e => (leR_pair (hd.symm.trans e)).trans (leR_iff.mpr fun i hi => (hf i hi).2)
    have eF : d = D.tup [dI m z, dI m fun _ => 0] → leR m f' h' = false := fun e => (leR_pair (hd.symm.trans e)).trans (by
      rw [← Bool.not_eq_true, leR_iff]
      intro c
      have c := c k hk
      have c : z k ≤ 0 := c
      omega)
    have up : ∀ {q0 q1 q2 q3}, As q0 q1 q2 q3 bs2 → As q0 q1 q2 q3 bs3 := fun A => by
      cases c : leR m f' h' with
      | true => exact ((hA _ _ _ _ A).1 c).mono (by omega) (by omega) (by omega) (by omega)
      | false => exact ((hA _ _ _ _ A).2 c).mono (by omega) (by omega) (by omega) (by omega)
    rw [forB_at rfl]
    simp only [hd, e3, eSs_cons, eS_if, eS_asg, eS_sub, eS_exp, eS_ret, eS_for, eS_rais, eS_brk, eS_cont, eS_pass, ss_nil', eT_or, eT_and, eT_no, eT_isi, eT_var, eT_cst, eT_op, eT_chn, eT_call, eT_bi, eE_isi, eE_var, eE_op, eE_glo, eE_chn, eE_cst, eE_bi, eE_bif, eE_tup, eE_fre, eE_dic0, eE_neg, eE_no, eE_and, eE_or, eE_ite, eE_call, eE_me, eE_sl, eE_rev, eO_non, eO_som, part_int, eEs_cons, eEs_nil, eF_lst, eF_list, eF_lc, eI_e, eI_f, eI_rng1, eI_enu, eI_z2, eI_z3, src_tup, src_rol, enu_tup, zip_tup, zip_tup3, its_items, List.getElem?_cons_zero, List.getElem?_cons_succ, List.set_cons_zero, List.set_cons_succ, rdVar_some, rb_ok, rb_exn, any_str, any_tup, any_int, any_bl, any_non, tr_bl, pur_at, alloc_at, bnd_at, o_add, o_sub, o_lt, o_le, o_gt, o_ge, o_eqI, o_neI, o_eqS, o_isN, chn_t, chn_f, lf_ok, lf_exn, sq_nx, sq_ret, sq_exn, ctx_glo, ctx_call, ctx_ini, opt_some, o_notinS, o_inS, bi_lenT, bi_intI, bi_intB, bi_abs, bi_max, bi_min, bif_tup, bi_tupT, neg_int', sl_tup, nxO_some, putT_nm, putT_tup, putTs_nil, putTs_cons, Option.bind_some, raiO_1, raiO_2, ix_0, ix_1, beq_self_eq_true, Bool.not_true, Bool.not_false, Bool.false_eq_true, ↓reduceIte, Bool.true_and, Bool.false_and, Bool.and_false, Bool.and_true, decide_true, decide_false, wipe_nil, wipe_cons]
    refine ⟨_, _, rfl, ⟨_, rfl⟩, fun d hd => hl d (List.mem_cons_of_mem _ hd), F2.trans F3, bs3, M3, up A2, fun hr => ?_, fun hr => ?_⟩
    · by_cases c : d = D.tup [dI m f, dI m z]
      · exact (hA _ _ _ _ A2).1 (eT c)
      · exact up (hT fun hm => (List.mem_cons.mp hm).elim (fun e => c e.symm) hr)
    · by_cases c : d = D.tup [dI m z, dI m fun _ => 0]
      · exact (hA _ _ _ _ A2).2 (eF c)
      · exact up (hF fun hm => (List.mem_cons.mp hm).elim (fun e => c e.symm) hr)
  · intro d hd
    simp only [Src.items, List.mem_cons, List.not_mem_nil, or_false] at hd
    rcases hd with rfl | rfl | rfl | rfl | rfl | rfl | rfl | rfl | rfl | rfl | rfl | rfl | rfl <;> refine ⟨_, _, ?_, ?_, rfl⟩ <;> assumption
  · intro c
    exact absurd (by simp [Src.items]) c
  · intro c
    exact absurd (by simp [Src.items]) c
  rintro δ S2 ⟨⟨x, rfl⟩, -, F2, bs2, M2, A2, hT, hF⟩
  have AT := (hF (by simp)).join (hT (by simp))
  refine Ret.forL (by simp only [eSs_cons, eS_if, eS_asg, eS_sub, eS_exp, eS_ret, eS_for, eS_rais, eS_brk, eS_cont, eS_pass, ss_nil', eT_or, eT_and, eT_no, eT_isi, eT_var, eT_cst, eT_op, eT_chn, eT_call, eT_bi, eE_isi, eE_var, eE_op, eE_glo, eE_chn, eE_cst, eE_bi, eE_bif, eE_tup, eE_fre, eE_dic0, eE_neg, eE_no, eE_and, eE_or, eE_ite, eE_call, eE_me, eE_sl, eE_rev, eO_non, eO_som, part_int, eEs_cons, eEs_nil, eF_lst, eF_list, eF_lc, eI_e, eI_f, eI_rng1, eI_enu, eI_z2, eI_z3, src_tup, src_rol, enu_tup, zip_tup, zip_tup3, its_items, List.getElem?_cons_zero, List.getElem?_cons_succ, List.set_cons_zero, List.set_cons_succ, rdVar_some, rb_ok, rb_exn, any_str, any_tup, any_int, any_bl, any_non, tr_bl, pur_at, alloc_at, bnd_at, o_add, o_sub, o_lt, o_le, o_gt, o_ge, o_eqI, o_neI, o_eqS, o_isN, chn_t, chn_f, lf_ok, lf_exn, sq_nx, sq_ret, sq_exn, ctx_glo, ctx_call, ctx_ini, opt_some, o_notinS, o_inS, bi_lenT, bi_intI, bi_intB, bi_abs, bi_max, bi_min, bif_tup, bi_tupT, neg_int', sl_tup, nxO_some, putT_nm, putT_tup, putTs_nil, putTs_cons, Option.bind_some, raiO_1, raiO_2, ix_0, ix_1, beq_self_eq_true, Bool.not_true, Bool.not_false, Bool.false_eq_true, ↓reduceIte, Bool.true_and, Bool.false_and, Bool.and_false, Bool.and_true, decide_true, decide_false, wipe_nil, wipe_cons]; rfl) (fun l δ S' => (∃ x, δ = [some (.ref t), some (.ref a), some (dL m w z), some (dI m f), some (dI m h), some (dI m z), some (dI m fun _ => 0), some (dI m fun i => z i - f i), some (.int (k : Int)), some (dI m fun i => if i = k then (if f k + 1 < z k then f k + 1 else z k) else f i), some (dI m fun i => if i = k then (if f k - 1 > 0 then f k - 1 else 0) else f i), x, none]) ∧ S' = S2 ∧ ∀ d ∈ l, OutOK m z d) (fun _ _ _ _ => rfl) ?_ ⟨⟨x, rfl⟩, rfl, ?_⟩ ?_
  · rintro d r δ S' ⟨⟨x, rfl⟩, rfl, hl⟩
    obtain ⟨f', i1, rfl⟩ := hl d List.mem_cons_self
    rw [forB_at rfl]
    simp only [told_outside HP (n := n + 1) G i1, show D.str [116, 111, 108, 100] = sTold from rfl, same_I HP (n := n + 1) G.top, eSs_cons, eS_if, eS_asg, eS_sub, eS_exp, eS_ret, eS_for, eS_rais, eS_brk, eS_cont, eS_pass, ss_nil', eT_or, eT_and, eT_no, eT_isi, eT_var, eT_cst, eT_op, eT_chn, eT_call, eT_bi, eE_isi, eE_var, eE_op, eE_glo, eE_chn, eE_cst, eE_bi, eE_bif, eE_tup, eE_fre, eE_dic0, eE_neg, eE_no, eE_and, eE_or, eE_ite, eE_call, eE_me, eE_sl, eE_rev, eO_non, eO_som, part_int, eEs_cons, eEs_nil, eF_lst, eF_list, eF_lc, eI_e, eI_f, eI_rng1, eI_enu, eI_z2, eI_z3, src_tup, src_rol, enu_tup, zip_tup, zip_tup3, its_items, List.getElem?_cons_zero, List.getElem?_cons_succ, List.set_cons_zero, List.set_cons_succ, rdVar_some, rb_ok, rb_exn, any_str, any_tup, any_int, any_bl, any_non, tr_bl, pur_at, alloc_at, bnd_at, o_add, o_sub, o_lt, o_le, o_gt, o_ge, o_eqI, o_neI, o_eqS, o_isN, chn_t, chn_f, lf_ok, lf_exn, sq_nx, sq_ret, sq_exn, ctx_glo, ctx_call, ctx_ini, opt_some, o_notinS, o_inS, bi_lenT, bi_intI, bi_intB, bi_abs, bi_max, bi_min, bif_tup, bi_tupT, neg_int', sl_tup, nxO_some, putT_nm, putT_tup, putTs_nil, putTs_cons, Option.bind_some, raiO_1, raiO_2, ix_0, ix_1, beq_self_eq_true, Bool.not_true, Bool.not_false, Bool.false_eq_true, ↓reduceIte, Bool.true_and, Bool.false_and, Bool.and_false, Bool.and_true, decide_true, decide_false, wipe_nil, wipe_cons]
    exact ⟨_, _, rfl, ⟨_, rfl⟩, rfl, fun d hd => hl d (List.mem_cons_of_mem _ hd)⟩
  · have q1 : (fun i => z i - (z i - f i)) = f := funext fun i => by omega
    have q2 : (fun i => z i - z i) = fun _ => (0 : Int) := funext fun i => by omega
    have q3 : (fun i => z i - 0) = z := funext fun i => by omega
    intro d hd
    simp only [Src.items, List.mem_cons, List.not_mem_nil, or_false] at hd
    rcases hd with rfl | rfl | rfl | rfl
    · exact ⟨_, hf, rfl⟩
    · exact ⟨_, fR, by rw [q1]⟩
    · exact ⟨_, fZ, by rw [q2]⟩
    · exact ⟨_, fE, by rw [q3]⟩
  rintro δ S' ⟨⟨x, rfl⟩, rfl, -⟩
  simp only [told_every HP (n := n + 1) G, told_nobody HP (n := n + 1) G, show D.str [116, 111, 108, 100] = sTold from rfl, same_I HP (n := n + 1) G.top, eSs_cons, eS_if, eS_asg, eS_sub, eS_exp, eS_ret, eS_for, eS_rais, eS_brk, eS_cont, eS_pass, ss_nil', eT_or, eT_and, eT_no, eT_isi, eT_var, eT_cst, eT_op, eT_chn, eT_call, eT_bi, eE_isi, eE_var, eE_op, eE_glo, eE_chn, eE_cst, eE_bi, eE_bif, eE_tup, eE_fre, eE_dic0, eE_neg, eE_no, eE_and, eE_or, eE_ite, eE_call, eE_me, eE_sl, eE_rev, eO_non, eO_som, part_int, eEs_cons, eEs_nil, eF_lst, eF_list, eF_lc, eI_e, eI_f, eI_rng1, eI_enu, eI_z2, eI_z3, src_tup, src_rol, enu_tup, zip_tup, zip_tup3, its_items, List.getElem?_cons_zero, List.getElem?_cons_succ, List.set_cons_zero, List.set_cons_succ, rdVar_some, rb_ok, rb_exn, any_str, any_tup, any_int, any_bl, any_non, tr_bl, pur_at, alloc_at, bnd_at, o_add, o_sub, o_lt, o_le, o_gt, o_ge, o_eqI, o_neI, o_eqS, o_isN, chn_t, chn_f, lf_ok, lf_exn, sq_nx, sq_ret, sq_exn, ctx_glo, ctx_call, ctx_ini, opt_some, o_notinS, o_inS, bi_lenT, bi_intI, bi_intB, bi_abs, bi_max, bi_min, bif_tup, bi_tupT, neg_int', sl_tup, nxO_some, putT_nm, putT_tup, putTs_nil, putTs_cons, Option.bind_some, raiO_1, raiO_2, ix_0, ix_1, beq_self_eq_true, Bool.not_true, Bool.not_false, Bool.false_eq_true, ↓reduceIte, Bool.true_and, Bool.false_and, Bool.and_false, Bool.and_true, decide_true, decide_false, wipe_nil, wipe_cons]
  exact ⟨_, _, rfl, bs2, ⟨rfl, AT⟩, rfl, M2, F2.ext⟩
end
end K03

set_option Elab.async false
set_option linter.all false
set_option maxRecDepth 100000
set_option maxHeartbeats 4000000
/-! k03: subsets. -/
namespace Mi
theorem evC_nil {c : Ctx} {δ : Env} {S : Store} : evC c δ .nil S = .ok true S := rfl
theorem evC_cons {c : Ctx} {δ : Env} {S : Store} {e : E} {es : Es} : evC c δ (.cons e es) S = (evT c δ e S).bind fun t S => if t then evC c δ es S else .ok false S := by
  show (evT c δ e S).bind _ = _
  cases evT c δ e S with
  | ok t S1 => cases t <;> rfl
  | _ => rfl
theorem lcF_if {c : Ctx} {δ δ' : Env} {S : Store} {own : List Nat} {elt : E} {tg : Tg} {ifs : Es} {x y : D} {b : Bool} (hp : putT tg x (wipe δ own) = some δ') (ht : evC c δ' ifs S = .ok b S) (h : evE c δ' elt S = .ok y S) : lcF c δ own elt tg ifs x S = .ok (if b then some y else none) S := by
  unfold lcF
  rw [hp]
  show noX (bnd (evC c δ' ifs) _) S = _
  rw [noX_of, bnd_ok ht]
  cases b with
  | true => rw [if_pos rfl, bnd_ok h]; rfl
  | false => rfl
theorem lc_filter {src : Src} {F : D → M (Option D)} {S : Store} {α : Type} {em gg : α → D} {p : α → Bool} (hok : src.ok S = true) : ∀ (l : List α), (∀ x ∈ l, F (em x) S = .ok (if p x then some (gg x) else none) S) → lcL src F (l.map em) S = .ok ((l.filter p).map gg) S
  | [], _ => by
    show (if src.ok S then _ else _) = _
    rw [if_pos hok]
    rfl
  | x :: l, h => by
    show (if src.ok S then ((F (em x) S).bind fun o => bnd (lcL src F (l.map em)) fun ds => pur (match o with
      | some x => x :: ds
      | none => ds)) else .bad) = _
    rw [if_pos hok, h x List.mem_cons_self]
    show bnd (lcL src F (l.map em)) _ S = _
    rw [bnd_ok (lc_filter hok l fun y hy => h y (List.mem_cons_of_mem _ hy)), List.filter_cons]
    cases p x <;> rfl
theorem for_any {src : Src} {F : D → Env → Store → SR} {α : Type} {em : α → D} {p : α → Bool} {X : D} (I : Env → Store → Prop) (R : Store → Prop) (hok : ∀ δ S, I δ S → src.ok S = true) : ∀ (l : List α), (∀ x ∈ l, ∀ δ S, I δ S → (p x = true → ∃ S', F (em x) δ S = .ret X S' ∧ R S') ∧ (p x = false → Nx (F (em x) δ S) I)) → ∀ {δ S}, I δ S → (l.any p = true → ∃ S', forL src F (l.map em) δ S = .ret X S' ∧ R S') ∧ (l.any p = false → Nx (forL src F (l.map em) δ S) I)
  | [], _, δ, S, hI => ⟨fun h => (nomatch h), fun _ => ⟨δ, S, for_nil (hok _ _ hI), hI⟩⟩
  | x :: l, h, δ, S, hI => by
    have hx := h x List.mem_cons_self δ S hI
    cases hp : p x with
    | true =>
      obtain ⟨S', e, r⟩ := hx.1 hp
      refine ⟨fun _ => ⟨S', for_ret (hok _ _ hI) e, r⟩, fun k => ?_⟩
      rw [List.any_cons, hp] at k
      cases k
    | false =>
      obtain ⟨δ', S', e, i⟩ := hx.2 hp
      have ih := for_any I R hok l (fun y hy => h y (List.mem_cons_of_mem _ hy)) i
      rw [List.any_cons, hp, Bool.false_or]
      exact ⟨fun k => by obtain ⟨S2, e2, r⟩ := ih.1 k; exact ⟨S2, (for_nx (hok _ _ hI) e).trans e2, r⟩, fun k => by obtain ⟨δ2, S2, e2, r⟩ := ih.2 k; exact ⟨δ2, S2, (for_nx (hok _ _ hI) e).trans e2, r⟩⟩
/-- a loop that reckons -/
theorem for_fold {src : Src} {F : D → Env → Store → SR} {α β : Type} {em : α → D} {s : β → α → β} (I : β → Env → Store → Prop) (hok : ∀ b δ S, I b δ S → src.ok S = true) : ∀ (l : List α) (b : β), (∀ x ∈ l, ∀ b δ S, I b δ S → Nx (F (em x) δ S) (I (s b x))) → ∀ {δ S}, I b δ S → Nx (forL src F (l.map em) δ S) (I (l.foldl s b))
  | [], b, _, δ, S, hI => ⟨δ, S, for_nil (hok _ _ _ hI), hI⟩
  | x :: l, b, h, δ, S, hI => by
    obtain ⟨δ', S', e, i⟩ := h x List.mem_cons_self b δ S hI
    obtain ⟨δ2, S2, e2, r⟩ := for_fold I hok l (s b x) (fun y hy => h y (List.mem_cons_of_mem _ hy)) i
    exact ⟨δ2, S2, (for_nx (hok _ _ _ hI) e).trans e2, r⟩
theorem band_nat {a b : Nat} {S : Store} : opD .band (.int (a : Int)) (.int (b : Int)) S = .ok (.int ((a &&& b : Nat) : Int)) S := by
  show Mi.R.ok (D.int (PySem.Builtin.bitAnd (a : Int) (b : Int))) S = _
  unfold PySem.Builtin.bitAnd
  rw [decide_eq_true (show (0 : Int) ≤ (a : Int) by omega), decide_eq_true (show (0 : Int) ≤ (b : Int) by omega)]
  rfl
end Mi
namespace K03
open Mi
def bit1 (k b : Nat) : Nat := if 0 < k &&& b then 1 else 0
def popN (k : Nat) : Nat := bit1 k 1 + bit1 k 2 + bit1 k 4 + bit1 k 8 + bit1 k 16 + bit1 k 32
def subsN (s f : Nat) : List Nat := (List.range (2 ^ s)).filter fun k => popN k == f
def mnN (i j : Nat) : Nat := if j < i then j else i
def fewN (s f h : Nat) : Nat := (subsN s f).foldl (fun t a => (subsN s h).foldl (fun t b => mnN t (popN (a &&& b))) t) s
def fitsN (s f h fall : Nat) : Bool := (subsN s f).any fun a => (subsN s h).any fun b => (a &&& b &&& (31 - fall)) == 0
theorem few_all : ((List.range 6).all fun s => (List.range (s + 1)).all fun f => (List.range (s + 1)).all fun h => fewN s f h == f + h - s) = true := by decide +kernel
theorem fits_all : ((List.range 6).all fun s => (List.range (s + 1)).all fun f => (List.range (s + 1)).all fun h => (List.range (2 ^ s)).all fun fall => fitsN s f h fall == decide (f + h - s ≤ popN fall)) = true := by decide +kernel
theorem few_eq {s f h : Nat} (hs : s ≤ 5) (hf : f ≤ s) (hh : h ≤ s) : fewN s f h = f + h - s := by
  have := List.all_eq_true.mp few_all s (List.mem_range.mpr (by omega))
  have := List.all_eq_true.mp this f (List.mem_range.mpr (by omega))
  have := List.all_eq_true.mp this h (List.mem_range.mpr (by omega))
  exact beq_iff_eq.mp this
theorem fits_eq {s f h fall : Nat} (hs : s ≤ 5) (hf : f ≤ s) (hh : h ≤ s) (hl : fall < 2 ^ s) : fitsN s f h fall = decide (f + h - s ≤ popN fall) := by
  have := List.all_eq_true.mp fits_all s (List.mem_range.mpr (by omega))
  have := List.all_eq_true.mp this f (List.mem_range.mpr (by omega))
  have := List.all_eq_true.mp this h (List.mem_range.mpr (by omega))
  have := List.all_eq_true.mp this fall (List.mem_range.mpr hl)
  exact beq_iff_eq.mp this
section
variable {P : Prog} (HP : HasL P) {fu n : Nat} {S : Store}
include HP
theorem bits_ok {k : Nat} : callN P fu (n + 1) "_law_bits" [.int (k : Int)] S = .ok (.int (popN k : Int)) S := by
  rw [call_eq HP.f__law_bits rfl]
  have one : ∀ (b acc : Nat) (x : Option D) (tl : Store), forB (ctx P fu (callN P fu n)) (.nm 2) (.cons (.if_ (.op .gt (.op .band (.var 0) (.var 2)) (.cst (.int 0))) (.cons (.asg (.nm 1) (.op .add (.var 1) (.cst (.int 1)))) .nil) .nil) .nil) (.int (b : Int)) [some (.int (k : Int)), some (.int (acc : Int)), x] tl = .nx [some (.int (k : Int)), some (.int ((acc + bit1 k b : Nat) : Int)), some (.int (b : Int))] tl := by
    intro b acc x tl
    rw [forB_at rfl]
    unfold bit1
    by_cases h : 0 < k &&& b
    · have h1 : decide ((0 : Int) < ((k &&& b : Nat) : Int)) = true := decide_eq_true (by omega)
      simp only [band_nat, h1, if_pos h, eSs_cons, eS_if, eS_asg, eS_sub, eS_exp, eS_ret, eS_for, eS_rais, eS_brk, eS_cont, eS_pass, ss_nil', eT_or, eT_and, eT_no, eT_isi, eT_var, eT_cst, eT_op, eT_chn, eT_call, eT_bi, eE_isi, eE_var, eE_op, eE_glo, eE_chn, eE_cst, eE_bi, eE_bif, eE_tup, eE_fre, eE_dic0, eE_neg, eE_no, eE_and, eE_or, eE_ite, eE_call, eE_me, eE_sl, eE_rev, eO_non, eO_som, part_int, eEs_cons, eEs_nil, eF_lst, eF_list, eF_lc, eI_e, eI_f, eI_rng1, eI_enu, eI_z2, eI_z3, src_tup, src_rol, enu_tup, zip_tup, zip_tup3, its_items, List.getElem?_cons_zero, List.getElem?_cons_succ, List.set_cons_zero, List.set_cons_succ, rdVar_some, rb_ok, rb_exn, any_str, any_tup, any_int, any_bl, any_non, tr_bl, pur_at, alloc_at, bnd_at, o_add, o_sub, o_lt, o_le, o_gt, o_ge, o_eqI, o_neI, o_eqS, o_isN, chn_t, chn_f, lf_ok, lf_exn, sq_nx, sq_ret, sq_exn, ctx_glo, ctx_call, ctx_ini, opt_some, o_notinS, o_inS, bi_lenT, bi_intI, bi_intB, bi_abs, bi_max, bi_min, bif_tup, bi_tupT, neg_int', sl_tup, nxO_some, putT_nm, putT_tup, putTs_nil, putTs_cons, Option.bind_some, raiO_1, raiO_2, ix_0, ix_1, beq_self_eq_true, Bool.not_true, Bool.not_false, Bool.false_eq_true, ↓reduceIte, Bool.true_and, Bool.false_and, Bool.and_false, Bool.and_true, decide_true, decide_false, wipe_nil, wipe_cons]
      rfl
    · have h1 : decide ((0 : Int) < ((k &&& b : Nat) : Int)) = false := decide_eq_false (by omega)
      simp only [band_nat, h1, if_neg h, eSs_cons, eS_if, eS_asg, eS_sub, eS_exp, eS_ret, eS_for, eS_rais, eS_brk, eS_cont, eS_pass, ss_nil', eT_or, eT_and, eT_no, eT_isi, eT_var, eT_cst, eT_op, eT_chn, eT_call, eT_bi, eE_isi, eE_var, eE_op, eE_glo, eE_chn, eE_cst, eE_bi, eE_bif, eE_tup, eE_fre, eE_dic0, eE_neg, eE_no, eE_and, eE_or, eE_ite, eE_call, eE_me, eE_sl, eE_rev, eO_non, eO_som, part_int, eEs_cons, eEs_nil, eF_lst, eF_list, eF_lc, eI_e, eI_f, eI_rng1, eI_enu, eI_z2, eI_z3, src_tup, src_rol, enu_tup, zip_tup, zip_tup3, its_items, List.getElem?_cons_zero, List.getElem?_cons_succ, List.set_cons_zero, List.set_cons_succ, rdVar_some, rb_ok, rb_exn, any_str, any_tup, any_int, any_bl, any_non, tr_bl, pur_at, alloc_at, bnd_at, o_add, o_sub, o_lt, o_le, o_gt, o_ge, o_eqI, o_neI, o_eqS, o_isN, chn_t, chn_f, lf_ok, lf_exn, sq_nx, sq_ret, sq_exn, ctx_glo, ctx_call, ctx_ini, opt_some, o_notinS, o_inS, bi_lenT, bi_intI, bi_intB, bi_abs, bi_max, bi_min, bif_tup, bi_tupT, neg_int', sl_tup, nxO_some, putT_nm, putT_tup, putTs_nil, putTs_cons, Option.bind_some, raiO_1, raiO_2, ix_0, ix_1, beq_self_eq_true, Bool.not_true, Bool.not_false, Bool.false_eq_true, ↓reduceIte, Bool.true_and, Bool.false_and, Bool.and_false, Bool.and_true, decide_true, decide_false, wipe_nil, wipe_cons]
      rfl
  have e0 : evSs (ctx P fu (callN P fu n)) b__law_bits [some (.int (k : Int)), none, none] S = .ret (.int (popN k : Int)) S := by
    simp only [b__law_bits, eSs_cons, eS_if, eS_asg, eS_sub, eS_exp, eS_ret, eS_for, eS_rais, eS_brk, eS_cont, eS_pass, ss_nil', eT_or, eT_and, eT_no, eT_isi, eT_var, eT_cst, eT_op, eT_chn, eT_call, eT_bi, eE_isi, eE_var, eE_op, eE_glo, eE_chn, eE_cst, eE_bi, eE_bif, eE_tup, eE_fre, eE_dic0, eE_neg, eE_no, eE_and, eE_or, eE_ite, eE_call, eE_me, eE_sl, eE_rev, eO_non, eO_som, part_int, eEs_cons, eEs_nil, eF_lst, eF_list, eF_lc, eI_e, eI_f, eI_rng1, eI_enu, eI_z2, eI_z3, src_tup, src_rol, enu_tup, zip_tup, zip_tup3, its_items, List.getElem?_cons_zero, List.getElem?_cons_succ, List.set_cons_zero, List.set_cons_succ, rdVar_some, rb_ok, rb_exn, any_str, any_tup, any_int, any_bl, any_non, tr_bl, pur_at, alloc_at, bnd_at, o_add, o_sub, o_lt, o_le, o_gt, o_ge, o_eqI, o_neI, o_eqS, o_isN, chn_t, chn_f, lf_ok, lf_exn, sq_nx, sq_ret, sq_exn, ctx_glo, ctx_call, ctx_ini, opt_some, o_notinS, o_inS, bi_lenT, bi_intI, bi_intB, bi_abs, bi_max, bi_min, bif_tup, bi_tupT, neg_int', sl_tup, nxO_some, putT_nm, putT_tup, putTs_nil, putTs_cons, Option.bind_some, raiO_1, raiO_2, ix_0, ix_1, beq_self_eq_true, Bool.not_true, Bool.not_false, Bool.false_eq_true, ↓reduceIte, Bool.true_and, Bool.false_and, Bool.and_false, Bool.and_true, decide_true, decide_false, wipe_nil, wipe_cons]
    have h : forL (.its [.int 1, .int 2, .int 4, .int 8, .int 16, .int 32]) (forB (ctx P fu (callN P fu n)) (.nm 2) (.cons (.if_ (.op .gt (.op .band (.var 0) (.var 2)) (.cst (.int 0))) (.cons (.asg (.nm 1) (.op .add (.var 1) (.cst (.int 1)))) .nil) .nil) .nil)) [.int 1, .int 2, .int 4, .int 8, .int 16, .int 32] [some (.int (k : Int)), some (.int 0), none] S = .nx [some (.int (k : Int)), some (.int ((0 + bit1 k 1 + bit1 k 2 + bit1 k 4 + bit1 k 8 + bit1 k 16 + bit1 k 32 : Nat) : Int)), some (.int 32)] S := by
      refine (for_nx rfl (one 1 0 _ S)).trans ?_
      refine (for_nx rfl (one 2 _ _ S)).trans ?_
      refine (for_nx rfl (one 4 _ _ S)).trans ?_
      refine (for_nx rfl (one 8 _ _ S)).trans ?_
      refine (for_nx rfl (one 16 _ _ S)).trans ?_
      refine (for_nx rfl (one 32 _ _ S)).trans ?_
      exact for_nil rfl
    rw [h]
    simp only [eSs_cons, eS_if, eS_asg, eS_sub, eS_exp, eS_ret, eS_for, eS_rais, eS_brk, eS_cont, eS_pass, ss_nil', eT_or, eT_and, eT_no, eT_isi, eT_var, eT_cst, eT_op, eT_chn, eT_call, eT_bi, eE_isi, eE_var, eE_op, eE_glo, eE_chn, eE_cst, eE_bi, eE_bif, eE_tup, eE_fre, eE_dic0, eE_neg, eE_no, eE_and, eE_or, eE_ite, eE_call, eE_me, eE_sl, eE_rev, eO_non, eO_som, part_int, eEs_cons, eEs_nil, eF_lst, eF_list, eF_lc, eI_e, eI_f, eI_rng1, eI_enu, eI_z2, eI_z3, src_tup, src_rol, enu_tup, zip_tup, zip_tup3, its_items, List.getElem?_cons_zero, List.getElem?_cons_succ, List.set_cons_zero, List.set_cons_succ, rdVar_some, rb_ok, rb_exn, any_str, any_tup, any_int, any_bl, any_non, tr_bl, pur_at, alloc_at, bnd_at, o_add, o_sub, o_lt, o_le, o_gt, o_ge, o_eqI, o_neI, o_eqS, o_isN, chn_t, chn_f, lf_ok, lf_exn, sq_nx, sq_ret, sq_exn, ctx_glo, ctx_call, ctx_ini, opt_some, o_notinS, o_inS, bi_lenT, bi_intI, bi_intB, bi_abs, bi_max, bi_min, bif_tup, bi_tupT, neg_int', sl_tup, nxO_some, putT_nm, putT_tup, putTs_nil, putTs_cons, Option.bind_some, raiO_1, raiO_2, ix_0, ix_1, beq_self_eq_true, Bool.not_true, Bool.not_false, Bool.false_eq_true, ↓reduceIte, Bool.true_and, Bool.false_and, Bool.and_false, Bool.and_true, decide_true, decide_false, wipe_nil, wipe_cons]
    unfold popN
    rw [Nat.zero_add]
  exact (congrArg (fun r => fin S (endR r)) e0).trans (fin_ok0 rfl)
theorem subsets_ok {s f : Nat} (hs : s ≤ 5) : callN P fu (n + 2) "_law_subsets" [.int (s : Int), .int (f : Int)] S = .ok (.ref S.length) (S ++ [.lst ((subsN s f).map fun (k : Nat) => D.int (k : Int))]) := by
  rw [call_eq HP.f__law_subsets rfl]
  have hp : opD .ix (.tup [.int 1, .int 2, .int 4, .int 8, .int 16, .int 32]) (.int (s : Int)) S = .ok (.int ((2 ^ s : Nat) : Int)) S := by
    refine o_ixT (atI_nat ?_)
    have : s = 0 ∨ s = 1 ∨ s = 2 ∨ s = 3 ∨ s = 4 ∨ s = 5 := by omega
    rcases this with rfl | rfl | rfl | rfl | rfl | rfl <;> rfl
  have h2 : 2 ^ s ≤ mx := Nat.le_trans (Nat.pow_le_pow_right (by decide) hs) (by decide)
  have e0 : evSs (ctx P fu (callN P fu (n + 1))) b__law_subsets [some (.int (s : Int)), some (.int (f : Int)), none] S = .ret (.ref S.length) (S ++ [.lst ((subsN s f).map fun (k : Nat) => D.int (k : Int))]) := by
    have hl : lcL (.its ((List.range (2 ^ s)).map fun (k : Nat) => D.int (k : Int))) (lcF (ctx P fu (callN P fu (n + 1))) [some (.int (s : Int)), some (.int (f : Int)), none] [2] (.var 2) (.nm 2) (.cons (.op .eq (.call "_law_bits" (.cons (.var 2) .nil)) (.var 1)) .nil)) ((List.range (2 ^ s)).map fun (k : Nat) => D.int (k : Int)) S = .ok ((subsN s f).map fun (k : Nat) => D.int (k : Int)) S := by
      refine lc_filter (p := fun k => popN k == f) (gg := fun (k : Nat) => D.int (k : Int)) rfl _ fun k hk => lcF_if rfl ?_ (by simp only [eSs_cons, eS_if, eS_asg, eS_sub, eS_exp, eS_ret, eS_for, eS_rais, eS_brk, eS_cont, eS_pass, ss_nil', eT_or, eT_and, eT_no, eT_isi, eT_var, eT_cst, eT_op, eT_chn, eT_call, eT_bi, eE_isi, eE_var, eE_op, eE_glo, eE_chn, eE_cst, eE_bi, eE_bif, eE_tup, eE_fre, eE_dic0, eE_neg, eE_no, eE_and, eE_or, eE_ite, eE_call, eE_me, eE_sl, eE_rev, eO_non, eO_som, part_int, eEs_cons, eEs_nil, eF_lst, eF_list, eF_lc, eI_e, eI_f, eI_rng1, eI_enu, eI_z2, eI_z3, src_tup, src_rol, enu_tup, zip_tup, zip_tup3, its_items, List.getElem?_cons_zero, List.getElem?_cons_succ, List.set_cons_zero, List.set_cons_succ, rdVar_some, rb_ok, rb_exn, any_str, any_tup, any_int, any_bl, any_non, tr_bl, pur_at, alloc_at, bnd_at, o_add, o_sub, o_lt, o_le, o_gt, o_ge, o_eqI, o_neI, o_eqS, o_isN, chn_t, chn_f, lf_ok, lf_exn, sq_nx, sq_ret, sq_exn, ctx_glo, ctx_call, ctx_ini, opt_some, o_notinS, o_inS, bi_lenT, bi_intI, bi_intB, bi_abs, bi_max, bi_min, bif_tup, bi_tupT, neg_int', sl_tup, nxO_some, putT_nm, putT_tup, putTs_nil, putTs_cons, Option.bind_some, raiO_1, raiO_2, ix_0, ix_1, beq_self_eq_true, Bool.not_true, Bool.not_false, Bool.false_eq_true, ↓reduceIte, Bool.true_and, Bool.false_and, Bool.and_false, Bool.and_true, decide_true, decide_false, wipe_nil, wipe_cons])
      have hb : ((popN k : Int) == (f : Int)) = (popN k == f) := by
        rw [Bool.eq_iff_iff, beq_iff_eq, beq_iff_eq]
        omega
      simp only [evC_cons, evC_nil, bits_ok HP, hb, eSs_cons, eS_if, eS_asg, eS_sub, eS_exp, eS_ret, eS_for, eS_rais, eS_brk, eS_cont, eS_pass, ss_nil', eT_or, eT_and, eT_no, eT_isi, eT_var, eT_cst, eT_op, eT_chn, eT_call, eT_bi, eE_isi, eE_var, eE_op, eE_glo, eE_chn, eE_cst, eE_bi, eE_bif, eE_tup, eE_fre, eE_dic0, eE_neg, eE_no, eE_and, eE_or, eE_ite, eE_call, eE_me, eE_sl, eE_rev, eO_non, eO_som, part_int, eEs_cons, eEs_nil, eF_lst, eF_list, eF_lc, eI_e, eI_f, eI_rng1, eI_enu, eI_z2, eI_z3, src_tup, src_rol, enu_tup, zip_tup, zip_tup3, its_items, List.getElem?_cons_zero, List.getElem?_cons_succ, List.set_cons_zero, List.set_cons_succ, rdVar_some, rb_ok, rb_exn, any_str, any_tup, any_int, any_bl, any_non, tr_bl, pur_at, alloc_at, bnd_at, o_add, o_sub, o_lt, o_le, o_gt, o_ge, o_eqI, o_neI, o_eqS, o_isN, chn_t, chn_f, lf_ok, lf_exn, sq_nx, sq_ret, sq_exn, ctx_glo, ctx_call, ctx_ini, opt_some, o_notinS, o_inS, bi_lenT, bi_intI, bi_intB, bi_abs, bi_max, bi_min, bif_tup, bi_tupT, neg_int', sl_tup, nxO_some, putT_nm, putT_tup, putTs_nil, putTs_cons, Option.bind_some, raiO_1, raiO_2, ix_0, ix_1, beq_self_eq_true, Bool.not_true, Bool.not_false, Bool.false_eq_true, ↓reduceIte, Bool.true_and, Bool.false_and, Bool.and_false, Bool.and_true, decide_true, decide_false, wipe_nil, wipe_cons]
      cases popN k == f <;> rfl
    simp only [b__law_subsets, hp, rng_R h2, len_R, if_pos h2, hl, eSs_cons, eS_if, eS_asg, eS_sub, eS_exp, eS_ret, eS_for, eS_rais, eS_brk, eS_cont, eS_pass, ss_nil', eT_or, eT_and, eT_no, eT_isi, eT_var, eT_cst, eT_op, eT_chn, eT_call, eT_bi, eE_isi, eE_var, eE_op, eE_glo, eE_chn, eE_cst, eE_bi, eE_bif, eE_tup, eE_fre, eE_dic0, eE_neg, eE_no, eE_and, eE_or, eE_ite, eE_call, eE_me, eE_sl, eE_rev, eO_non, eO_som, part_int, eEs_cons, eEs_nil, eF_lst, eF_list, eF_lc, eI_e, eI_f, eI_rng1, eI_enu, eI_z2, eI_z3, src_tup, src_rol, enu_tup, zip_tup, zip_tup3, its_items, List.getElem?_cons_zero, List.getElem?_cons_succ, List.set_cons_zero, List.set_cons_succ, rdVar_some, rb_ok, rb_exn, any_str, any_tup, any_int, any_bl, any_non, tr_bl, pur_at, alloc_at, bnd_at, o_add, o_sub, o_lt, o_le, o_gt, o_ge, o_eqI, o_neI, o_eqS, o_isN, chn_t, chn_f, lf_ok, lf_exn, sq_nx, sq_ret, sq_exn, ctx_glo, ctx_call, ctx_ini, opt_some, o_notinS, o_inS, bi_lenT, bi_intI, bi_intB, bi_abs, bi_max, bi_min, bif_tup, bi_tupT, neg_int', sl_tup, nxO_some, putT_nm, putT_tup, putTs_nil, putTs_cons, Option.bind_some, raiO_1, raiO_2, ix_0, ix_1, beq_self_eq_true, Bool.not_true, Bool.not_false, Bool.false_eq_true, ↓reduceIte, Bool.true_and, Bool.false_and, Bool.and_false, Bool.and_true, decide_true, decide_false, wipe_nil, wipe_cons]
  rw [show ([D.int (s : Int), D.int (f : Int)].map some ++ List.replicate (({ pars := 2, slots := 3, body := b__law_subsets } : Fn).slots - ({ pars := 2, slots := 3, body := b__law_subsets } : Fn).pars) none) = [some (.int (s : Int)), some (.int (f : Int)), none] from rfl, e0]
  show (if D.bel S.length (.ref S.length) && oldOk S (S ++ _) then _ else Mi.R.ok (D.ref S.length) (S ++ _)) = _
  rw [if_neg]
  show ¬ (decide (S.length < S.length) && _) = true
  rw [decide_eq_false (Nat.lt_irrefl _)]
  exact Bool.false_ne_true
end
end K03

set_option Elab.async false
set_option linter.all false
set_option maxRecDepth 100000
set_option maxHeartbeats 4000000
/-! k03: the fewest, what fits; rows that are drawn. -/
namespace Mi
/-- a comprehension over a row that draws: some row of numbers -/
theorem lc_fun {src : Src} {F : D → M (Option D)} {em : Nat → D} {em2 : Nat → Int → D} {m : Nat} (Pr : Nat → Int → Prop) (J : Store → Prop) (hok : ∀ S, src.ok S = true) (step : ∀ i, i < m → ∀ S, J S → ∃ r S', F (em i) S = .ok (some (em2 i r)) S' ∧ Pr i r ∧ J S') {S : Store} (h0 : J S) :
    ∃ (f : Nat → Int) (S' : Store), lcL src F ((List.range m).map em) S = .ok ((List.range m).map fun i => em2 i (f i)) S' ∧ (∀ i, i < m → Pr i (f i)) ∧ J S' := by
  have gen : ∀ (n a : Nat) (S : Store), a + n = m → J S → ∃ (f : Nat → Int) (S' : Store), lcL src F ((List.range' a n).map em) S = .ok ((List.range' a n).map fun i => em2 i (f i)) S' ∧ (∀ i, a ≤ i → i < m → Pr i (f i)) ∧ J S' := by
    intro n
    induction n with
    | zero =>
      intro a S ha hJ
      exact ⟨fun _ => 0, S, by
        show (if src.ok S then _ else _) = _
        rw [if_pos (hok S)]
        rfl, fun i h1 h2 => by omega, hJ⟩
    | succ n ih =>
      intro a S ha hJ
      obtain ⟨r, S1, e1, pr, j1⟩ := step a (by omega) S hJ
      obtain ⟨f, S2, e2, pf, j2⟩ := ih (a + 1) S1 (by omega) j1
      refine ⟨fun i => if i = a then r else f i, S2, ?_, ?_, j2⟩
      · show (if src.ok S then ((F (em a) S).bind fun o => bnd (lcL src F ((List.range' (a + 1) n).map em)) fun ds => pur (match o with
          | some x => x :: ds
          | none => ds)) else .bad) = _
        rw [if_pos (hok S), e1]
        show bnd (lcL src F _) _ S1 = _
        rw [bnd_ok e2]
        show Mi.R.ok (em2 a r :: (List.range' (a + 1) n).map fun i => em2 i (f i)) S2 = Mi.R.ok (em2 a (if a = a then r else f a) :: (List.range' (a + 1) n).map fun i => em2 i (if i = a then r else f i)) S2
        rw [if_pos rfl]
        congr 2
        refine List.map_congr_left fun i hi => ?_
        have := (List.mem_range'_1.mp hi).1
        rw [if_neg (by omega)]
      · intro i h1 h2
        by_cases h : i = a
        · simp only [if_pos h]
          rw [h]
          exact pr
        · simp only [if_neg h]
          exact pf i (by omega) h2
  rw [List.range_eq_range']
  obtain ⟨f, S', e, p, j⟩ := gen m 0 S (Nat.zero_add m) h0
  exact ⟨f, S', e, fun i hi => p i (Nat.zero_le _) hi, j⟩
theorem evF_fun {c : Ctx} {δ : Env} {own : List Nat} {elt : E} {tg : Tg} {it : It} {em : Nat → D} {em2 : Nat → Int → D} {m : Nat} {S S0 : Store} (Pr : Nat → Int → Prop) (J : Store → Prop) (hm : m ≤ mx) (hi : evI c δ it S0 = .ok (.its ((List.range m).map em)) S) (h0 : J S) (step : ∀ i, i < m → ∀ S, J S → ∃ r S', lcF c δ own elt tg .nil (em i) S = .ok (some (em2 i r)) S' ∧ Pr i r ∧ J S') :
    ∃ (f : Nat → Int) (S' : Store), evF c δ (.lc own elt tg it .nil) S0 = .ok ((List.range m).map fun i => em2 i (f i)) S' ∧ (∀ i, i < m → Pr i (f i)) ∧ J S' := by
  obtain ⟨f, S', e, p, j⟩ := lc_fun (src := .its ((List.range m).map em)) Pr J (fun _ => rfl) step h0
  refine ⟨f, S', ?_, p, j⟩
  rw [eF_lc, hi, rb_ok, its_items, len_R, if_pos hm]
  exact e
theorem asg_fun {c : Ctx} {δ : Env} {k : Nat} {fx : F} {S0 S' : Store} {ds : List D} (h : evF c δ fx S0 = .ok ds S') : evS c (.asg (.nm k) (.bif .tuple fx)) δ S0 = .nx (δ.set k (some (.tup ds))) S' := by
  rw [eS_asg, eE_bif, h]
  rfl
theorem asg_fre {c : Ctx} {δ : Env} {k : Nat} {fx : F} {S0 S' : Store} {ds : List D} (h : evF c δ fx S0 = .ok ds S') : evS c (.asg (.nm k) (.fre fx)) δ S0 = .nx (δ.set k (some (.ref S'.length))) (S' ++ [.lst ds]) := by
  rw [eS_asg, eE_fre, h]
  rfl
theorem src_ref {n : Nat} {ds : List D} {S : Store} (h : S[n]? = some (.lst ds)) : srcD (.ref n) S = .ok (.loc n ds) S := by
  show (getL n S).bind _ = _
  unfold getL
  rw [h]
  rfl
theorem loc_ok {n : Nat} {ds : List D} {S : Store} (h : S[n]? = some (.lst ds)) : (Src.loc n ds).ok S = true := decide_eq_true h
end Mi
namespace K03
open Mi
section
variable {P : Prog} (HP : HasL P) {fu n : Nat} {S : Store}
include HP
theorem fewest_ok {s f h : Nat} (hs : s ≤ 5) : callN P fu (n + 3) "_law_fewest" [.int (s : Int), .int (f : Int), .int (h : Int)] S = .ok (.int (fewN s f h : Int)) S := by
  rw [call_eq HP.f__law_fewest rfl]
  have e0 : Ret (evSs (ctx P fu (callN P fu (n + 2))) b__law_fewest [some (.int (s : Int)), some (.int (f : Int)), some (.int (h : Int)), none, none, none] S) fun d S' => d = .int (fewN s f h : Int) ∧ ∃ o, S' = S ++ o := by
    unfold b__law_fewest
    refine Ret.step (by simp only [eSs_cons, eS_if, eS_asg, eS_sub, eS_exp, eS_ret, eS_for, eS_rais, eS_brk, eS_cont, eS_pass, ss_nil', eT_or, eT_and, eT_no, eT_isi, eT_var, eT_cst, eT_op, eT_chn, eT_call, eT_bi, eE_isi, eE_var, eE_op, eE_glo, eE_chn, eE_cst, eE_bi, eE_bif, eE_tup, eE_fre, eE_dic0, eE_neg, eE_no, eE_and, eE_or, eE_ite, eE_call, eE_me, eE_sl, eE_rev, eO_non, eO_som, part_int, eEs_cons, eEs_nil, eF_lst, eF_list, eF_lc, eI_e, eI_f, eI_rng1, eI_enu, eI_z2, eI_z3, src_tup, src_rol, enu_tup, zip_tup, zip_tup3, its_items, List.getElem?_cons_zero, List.getElem?_cons_succ, List.set_cons_zero, List.set_cons_succ, rdVar_some, rb_ok, rb_exn, any_str, any_tup, any_int, any_bl, any_non, tr_bl, pur_at, alloc_at, bnd_at, o_add, o_sub, o_lt, o_le, o_gt, o_ge, o_eqI, o_neI, o_eqS, o_isN, chn_t, chn_f, lf_ok, lf_exn, sq_nx, sq_ret, sq_exn, ctx_glo, ctx_call, ctx_ini, opt_some, o_notinS, o_inS, bi_lenT, bi_intI, bi_intB, bi_abs, bi_max, bi_min, bif_tup, bi_tupT, neg_int', sl_tup, nxO_some, putT_nm, putT_tup, putTs_nil, putTs_cons, Option.bind_some, raiO_1, raiO_2, ix_0, ix_1, beq_self_eq_true, Bool.not_true, Bool.not_false, Bool.false_eq_true, ↓reduceIte, Bool.true_and, Bool.false_and, Bool.and_false, Bool.and_true, decide_true, decide_false, wipe_nil, wipe_cons]; rfl) ?_
    have g0 : (S ++ [O.lst ((subsN s f).map fun (k : Nat) => D.int (k : Int))])[S.length]? = some (.lst ((subsN s f).map fun (k : Nat) => D.int (k : Int))) := get_app
    rw [eSs_cons, eS_for]
    have hi : evI (ctx P fu (callN P fu (n + 2))) [some (.int (s : Int)), some (.int (f : Int)), some (.int (h : Int)), some (.int (s : Int)), none, none] (.e (.call "_law_subsets" (.cons (.var 0) (.cons (.var 1) .nil)))) S = .ok (.loc S.length ((subsN s f).map fun (k : Nat) => D.int (k : Int))) (S ++ [.lst ((subsN s f).map fun (k : Nat) => D.int (k : Int))]) := by
      simp only [subsets_ok HP hs, src_ref g0, eSs_cons, eS_if, eS_asg, eS_sub, eS_exp, eS_ret, eS_for, eS_rais, eS_brk, eS_cont, eS_pass, ss_nil', eT_or, eT_and, eT_no, eT_isi, eT_var, eT_cst, eT_op, eT_chn, eT_call, eT_bi, eE_isi, eE_var, eE_op, eE_glo, eE_chn, eE_cst, eE_bi, eE_bif, eE_tup, eE_fre, eE_dic0, eE_neg, eE_no, eE_and, eE_or, eE_ite, eE_call, eE_me, eE_sl, eE_rev, eO_non, eO_som, part_int, eEs_cons, eEs_nil, eF_lst, eF_list, eF_lc, eI_e, eI_f, eI_rng1, eI_enu, eI_z2, eI_z3, src_tup, src_rol, enu_tup, zip_tup, zip_tup3, its_items, List.getElem?_cons_zero, List.getElem?_cons_succ, List.set_cons_zero, List.set_cons_succ, rdVar_some, rb_ok, rb_exn, any_str, any_tup, any_int, any_bl, any_non, tr_bl, pur_at, alloc_at, bnd_at, o_add, o_sub, o_lt, o_le, o_gt, o_ge, o_eqI, o_neI, o_eqS, o_isN, chn_t, chn_f, lf_ok, lf_exn, sq_nx, sq_ret, sq_exn, ctx_glo, ctx_call, ctx_ini, opt_some, o_notinS, o_inS, bi_lenT, bi_intI, bi_intB, bi_abs, bi_max, bi_min, bif_tup, bi_tupT, neg_int', sl_tup, nxO_some, putT_nm, putT_tup, putTs_nil, putTs_cons, Option.bind_some, raiO_1, raiO_2, ix_0, ix_1, beq_self_eq_true, Bool.not_true, Bool.not_false, Bool.false_eq_true, ↓reduceIte, Bool.true_and, Bool.false_and, Bool.and_false, Bool.and_true, decide_true, decide_false, wipe_nil, wipe_cons]
    rw [hi, lf_ok]
    show Ret (SR.sq (forL (.loc S.length _) _ ((subsN s f).map fun (k : Nat) => D.int (k : Int)) _ _) _) _
    have inv := for_fold (src := .loc S.length ((subsN s f).map fun (k : Nat) => D.int (k : Int))) (F := forB (ctx P fu (callN P fu (n + 2))) (.nm 4) (.cons (.for_ (.nm 5) (.e (.call "_law_subsets" (.cons (.var 0) (.cons (.var 2) .nil)))) (.cons (.asg (.nm 3) (.bi .min2 (.cons (.var 3) (.cons (.call "_law_bits" (.cons (.op .band (.var 4) (.var 5)) .nil)) .nil)))) .nil)) .nil)) (em := fun (k : Nat) => D.int (k : Int)) (s := fun t a => (subsN s h).foldl (fun t b => mnN t (popN (a &&& b))) t)
      (fun b δ S' => (∃ x y, δ = [some (.int (s : Int)), some (.int (f : Int)), some (.int (h : Int)), some (.int (b : Int)), x, y]) ∧ ∃ o, S' = S ++ [.lst ((subsN s f).map fun (k : Nat) => D.int (k : Int))] ++ o)
      (fun b δ S' hh => by
        obtain ⟨-, o, rfl⟩ := hh
        exact loc_ok (by rw [List.getElem?_append_left (by simp)]; exact g0)) (subsN s f) s (by
        rintro a - b δ S' ⟨⟨x, y, rfl⟩, o, rfl⟩
        rw [forB_at (δ' := [some (.int (s : Int)), some (.int (f : Int)), some (.int (h : Int)), some (.int (b : Int)), some (.int (a : Int)), y]) rfl]
        rw [eSs_cons, eS_for]
        have g1 : (S ++ [O.lst ((subsN s f).map fun (k : Nat) => D.int (k : Int))] ++ o ++ [O.lst ((subsN s h).map fun (k : Nat) => D.int (k : Int))])[(S ++ [O.lst ((subsN s f).map fun (k : Nat) => D.int (k : Int))] ++ o).length]? = some (.lst ((subsN s h).map fun (k : Nat) => D.int (k : Int))) := get_app
        have hi2 : evI (ctx P fu (callN P fu (n + 2))) [some (.int (s : Int)), some (.int (f : Int)), some (.int (h : Int)), some (.int (b : Int)), some (.int (a : Int)), y] (.e (.call "_law_subsets" (.cons (.var 0) (.cons (.var 2) .nil)))) (S ++ [.lst ((subsN s f).map fun (k : Nat) => D.int (k : Int))] ++ o) = .ok (.loc (S ++ [O.lst ((subsN s f).map fun (k : Nat) => D.int (k : Int))] ++ o).length ((subsN s h).map fun (k : Nat) => D.int (k : Int))) (S ++ [.lst ((subsN s f).map fun (k : Nat) => D.int (k : Int))] ++ o ++ [.lst ((subsN s h).map fun (k : Nat) => D.int (k : Int))]) := by
          simp only [subsets_ok HP hs, src_ref g1, eSs_cons, eS_if, eS_asg, eS_sub, eS_exp, eS_ret, eS_for, eS_rais, eS_brk, eS_cont, eS_pass, ss_nil', eT_or, eT_and, eT_no, eT_isi, eT_var, eT_cst, eT_op, eT_chn, eT_call, eT_bi, eE_isi, eE_var, eE_op, eE_glo, eE_chn, eE_cst, eE_bi, eE_bif, eE_tup, eE_fre, eE_dic0, eE_neg, eE_no, eE_and, eE_or, eE_ite, eE_call, eE_me, eE_sl, eE_rev, eO_non, eO_som, part_int, eEs_cons, eEs_nil, eF_lst, eF_list, eF_lc, eI_e, eI_f, eI_rng1, eI_enu, eI_z2, eI_z3, src_tup, src_rol, enu_tup, zip_tup, zip_tup3, its_items, List.getElem?_cons_zero, List.getElem?_cons_succ, List.set_cons_zero, List.set_cons_succ, rdVar_some, rb_ok, rb_exn, any_str, any_tup, any_int, any_bl, any_non, tr_bl, pur_at, alloc_at, bnd_at, o_add, o_sub, o_lt, o_le, o_gt, o_ge, o_eqI, o_neI, o_eqS, o_isN, chn_t, chn_f, lf_ok, lf_exn, sq_nx, sq_ret, sq_exn, ctx_glo, ctx_call, ctx_ini, opt_some, o_notinS, o_inS, bi_lenT, bi_intI, bi_intB, bi_abs, bi_max, bi_min, bif_tup, bi_tupT, neg_int', sl_tup, nxO_some, putT_nm, putT_tup, putTs_nil, putTs_cons, Option.bind_some, raiO_1, raiO_2, ix_0, ix_1, beq_self_eq_true, Bool.not_true, Bool.not_false, Bool.false_eq_true, ↓reduceIte, Bool.true_and, Bool.false_and, Bool.and_false, Bool.and_true, decide_true, decide_false, wipe_nil, wipe_cons]
        rw [hi2, lf_ok]
        show Nx (SR.sq (forL (.loc _ _) _ ((subsN s h).map fun (k : Nat) => D.int (k : Int)) _ _) _) _
        obtain ⟨δ2, S2, e2, ⟨y2, rfl⟩, rfl⟩ := for_fold (src := .loc (S ++ [O.lst ((subsN s f).map fun (k : Nat) => D.int (k : Int))] ++ o).length ((subsN s h).map fun (k : Nat) => D.int (k : Int))) (F := forB (ctx P fu (callN P fu (n + 2))) (.nm 5) (.cons (.asg (.nm 3) (.bi .min2 (.cons (.var 3) (.cons (.call "_law_bits" (.cons (.op .band (.var 4) (.var 5)) .nil)) .nil)))) .nil)) (em := fun (k : Nat) => D.int (k : Int)) (s := fun t b => mnN t (popN (a &&& b)))
          (fun b δ S' => (∃ y, δ = [some (.int (s : Int)), some (.int (f : Int)), some (.int (h : Int)), some (.int (b : Int)), some (.int (a : Int)), y]) ∧ S' = S ++ [.lst ((subsN s f).map fun (k : Nat) => D.int (k : Int))] ++ o ++ [.lst ((subsN s h).map fun (k : Nat) => D.int (k : Int))])
          (fun b δ S' hh => by
            obtain ⟨-, rfl⟩ := hh
            exact loc_ok g1) (subsN s h) b (by
            rintro q - t δ S' ⟨⟨y, rfl⟩, rfl⟩
            rw [forB_at rfl]
            have e3 : (if (popN (a &&& q) : Int) < (t : Int) then (popN (a &&& q) : Int) else (t : Int)) = ((mnN t (popN (a &&& q)) : Nat) : Int) := by
              unfold mnN
              split <;> split <;> omega
            simp only [band_nat, bits_ok HP (n := n + 1), e3, eSs_cons, eS_if, eS_asg, eS_sub, eS_exp, eS_ret, eS_for, eS_rais, eS_brk, eS_cont, eS_pass, ss_nil', eT_or, eT_and, eT_no, eT_isi, eT_var, eT_cst, eT_op, eT_chn, eT_call, eT_bi, eE_isi, eE_var, eE_op, eE_glo, eE_chn, eE_cst, eE_bi, eE_bif, eE_tup, eE_fre, eE_dic0, eE_neg, eE_no, eE_and, eE_or, eE_ite, eE_call, eE_me, eE_sl, eE_rev, eO_non, eO_som, part_int, eEs_cons, eEs_nil, eF_lst, eF_list, eF_lc, eI_e, eI_f, eI_rng1, eI_enu, eI_z2, eI_z3, src_tup, src_rol, enu_tup, zip_tup, zip_tup3, its_items, List.getElem?_cons_zero, List.getElem?_cons_succ, List.set_cons_zero, List.set_cons_succ, rdVar_some, rb_ok, rb_exn, any_str, any_tup, any_int, any_bl, any_non, tr_bl, pur_at, alloc_at, bnd_at, o_add, o_sub, o_lt, o_le, o_gt, o_ge, o_eqI, o_neI, o_eqS, o_isN, chn_t, chn_f, lf_ok, lf_exn, sq_nx, sq_ret, sq_exn, ctx_glo, ctx_call, ctx_ini, opt_some, o_notinS, o_inS, bi_lenT, bi_intI, bi_intB, bi_abs, bi_max, bi_min, bif_tup, bi_tupT, neg_int', sl_tup, nxO_some, putT_nm, putT_tup, putTs_nil, putTs_cons, Option.bind_some, raiO_1, raiO_2, ix_0, ix_1, beq_self_eq_true, Bool.not_true, Bool.not_false, Bool.false_eq_true, ↓reduceIte, Bool.true_and, Bool.false_and, Bool.and_false, Bool.and_true, decide_true, decide_false, wipe_nil, wipe_cons]
            exact ⟨_, _, rfl, ⟨_, rfl⟩, rfl⟩) ⟨⟨y, rfl⟩, rfl⟩
        rw [e2]
        exact ⟨_, _, rfl, ⟨_, _, rfl⟩, _, by rw [List.append_assoc (S ++ _) o]⟩) ⟨⟨none, none, rfl⟩, [], by rw [List.append_nil]⟩
    obtain ⟨δ2, S2, e2, ⟨x2, y2, rfl⟩, o, rfl⟩ := inv
    rw [e2]
    simp only [eSs_cons, eS_if, eS_asg, eS_sub, eS_exp, eS_ret, eS_for, eS_rais, eS_brk, eS_cont, eS_pass, ss_nil', eT_or, eT_and, eT_no, eT_isi, eT_var, eT_cst, eT_op, eT_chn, eT_call, eT_bi, eE_isi, eE_var, eE_op, eE_glo, eE_chn, eE_cst, eE_bi, eE_bif, eE_tup, eE_fre, eE_dic0, eE_neg, eE_no, eE_and, eE_or, eE_ite, eE_call, eE_me, eE_sl, eE_rev, eO_non, eO_som, part_int, eEs_cons, eEs_nil, eF_lst, eF_list, eF_lc, eI_e, eI_f, eI_rng1, eI_enu, eI_z2, eI_z3, src_tup, src_rol, enu_tup, zip_tup, zip_tup3, its_items, List.getElem?_cons_zero, List.getElem?_cons_succ, List.set_cons_zero, List.set_cons_succ, rdVar_some, rb_ok, rb_exn, any_str, any_tup, any_int, any_bl, any_non, tr_bl, pur_at, alloc_at, bnd_at, o_add, o_sub, o_lt, o_le, o_gt, o_ge, o_eqI, o_neI, o_eqS, o_isN, chn_t, chn_f, lf_ok, lf_exn, sq_nx, sq_ret, sq_exn, ctx_glo, ctx_call, ctx_ini, opt_some, o_notinS, o_inS, bi_lenT, bi_intI, bi_intB, bi_abs, bi_max, bi_min, bif_tup, bi_tupT, neg_int', sl_tup, nxO_some, putT_nm, putT_tup, putTs_nil, putTs_cons, Option.bind_some, raiO_1, raiO_2, ix_0, ix_1, beq_self_eq_true, Bool.not_true, Bool.not_false, Bool.false_eq_true, ↓reduceIte, Bool.true_and, Bool.false_and, Bool.and_false, Bool.and_true, decide_true, decide_false, wipe_nil, wipe_cons]
    exact ⟨_, _, rfl, rfl, _, by rw [List.append_assoc]⟩
  obtain ⟨_, _, e1, rfl, o, rfl⟩ := e0
  exact (congrArg (fun r => fin _ (endR r)) e1).trans (fin_ok rfl)
theorem fits_ok {s f h fall : Nat} (hs : s ≤ 5) (hl : fall ≤ 31) : callN P fu (n + 3) "_law_fits" [.int (s : Int), .int (f : Int), .int (h : Int), .int (fall : Int)] S = .ok (.bl (fitsN s f h fall)) S := by
  rw [call_eq HP.f__law_fits rfl]
  have e0 : Ret (evSs (ctx P fu (callN P fu (n + 2))) b__law_fits [some (.int (s : Int)), some (.int (f : Int)), some (.int (h : Int)), some (.int (fall : Int)), none, none] S) fun d S' => d = .bl (fitsN s f h fall) ∧ ∃ o, S' = S ++ o := by
    unfold b__law_fits
    have g0 : (S ++ [O.lst ((subsN s f).map fun (k : Nat) => D.int (k : Int))])[S.length]? = some (.lst ((subsN s f).map fun (k : Nat) => D.int (k : Int))) := get_app
    rw [eSs_cons, eS_for]
    have hi : evI (ctx P fu (callN P fu (n + 2))) [some (.int (s : Int)), some (.int (f : Int)), some (.int (h : Int)), some (.int (fall : Int)), none, none] (.e (.call "_law_subsets" (.cons (.var 0) (.cons (.var 1) .nil)))) S = .ok (.loc S.length ((subsN s f).map fun (k : Nat) => D.int (k : Int))) (S ++ [.lst ((subsN s f).map fun (k : Nat) => D.int (k : Int))]) := by
      simp only [subsets_ok HP hs, src_ref g0, eSs_cons, eS_if, eS_asg, eS_sub, eS_exp, eS_ret, eS_for, eS_rais, eS_brk, eS_cont, eS_pass, ss_nil', eT_or, eT_and, eT_no, eT_isi, eT_var, eT_cst, eT_op, eT_chn, eT_call, eT_bi, eE_isi, eE_var, eE_op, eE_glo, eE_chn, eE_cst, eE_bi, eE_bif, eE_tup, eE_fre, eE_dic0, eE_neg, eE_no, eE_and, eE_or, eE_ite, eE_call, eE_me, eE_sl, eE_rev, eO_non, eO_som, part_int, eEs_cons, eEs_nil, eF_lst, eF_list, eF_lc, eI_e, eI_f, eI_rng1, eI_enu, eI_z2, eI_z3, src_tup, src_rol, enu_tup, zip_tup, zip_tup3, its_items, List.getElem?_cons_zero, List.getElem?_cons_succ, List.set_cons_zero, List.set_cons_succ, rdVar_some, rb_ok, rb_exn, any_str, any_tup, any_int, any_bl, any_non, tr_bl, pur_at, alloc_at, bnd_at, o_add, o_sub, o_lt, o_le, o_gt, o_ge, o_eqI, o_neI, o_eqS, o_isN, chn_t, chn_f, lf_ok, lf_exn, sq_nx, sq_ret, sq_exn, ctx_glo, ctx_call, ctx_ini, opt_some, o_notinS, o_inS, bi_lenT, bi_intI, bi_intB, bi_abs, bi_max, bi_min, bif_tup, bi_tupT, neg_int', sl_tup, nxO_some, putT_nm, putT_tup, putTs_nil, putTs_cons, Option.bind_some, raiO_1, raiO_2, ix_0, ix_1, beq_self_eq_true, Bool.not_true, Bool.not_false, Bool.false_eq_true, ↓reduceIte, Bool.true_and, Bool.false_and, Bool.and_false, Bool.and_true, decide_true, decide_false, wipe_nil, wipe_cons]
    rw [hi, lf_ok]
    show Ret (SR.sq (forL (.loc S.length _) _ ((subsN s f).map fun (k : Nat) => D.int (k : Int)) _ _) _) _
    have inv := for_any (src := .loc S.length ((subsN s f).map fun (k : Nat) => D.int (k : Int))) (F := forB (ctx P fu (callN P fu (n + 2))) (.nm 4) (.cons (.for_ (.nm 5) (.e (.call "_law_subsets" (.cons (.var 0) (.cons (.var 2) .nil)))) (.cons (.if_ (.op .eq (.op .band (.op .band (.var 4) (.var 5)) (.op .sub (.cst (.int 31)) (.var 3))) (.cst (.int 0))) (.cons (.ret (.cst (.bl true))) .nil) .nil) .nil)) .nil)) (em := fun (k : Nat) => D.int (k : Int)) (p := fun a => (subsN s h).any fun b => (a &&& b &&& (31 - fall)) == 0) (X := .bl true)
      (fun δ S' => (∃ x y, δ = [some (.int (s : Int)), some (.int (f : Int)), some (.int (h : Int)), some (.int (fall : Int)), x, y]) ∧ ∃ o, S' = S ++ [.lst ((subsN s f).map fun (k : Nat) => D.int (k : Int))] ++ o)
      (fun S' => ∃ o, S' = S ++ o)
      (fun δ S' hh => by
        obtain ⟨-, o, rfl⟩ := hh
        exact loc_ok (by rw [List.getElem?_append_left (by simp)]; exact g0)) (subsN s f) (by
        rintro a - δ S' ⟨⟨x, y, rfl⟩, o, rfl⟩
        rw [forB_at rfl]
        rw [eSs_cons, eS_for]
        have g1 : (S ++ [O.lst ((subsN s f).map fun (k : Nat) => D.int (k : Int))] ++ o ++ [O.lst ((subsN s h).map fun (k : Nat) => D.int (k : Int))])[(S ++ [O.lst ((subsN s f).map fun (k : Nat) => D.int (k : Int))] ++ o).length]? = some (.lst ((subsN s h).map fun (k : Nat) => D.int (k : Int))) := get_app
        have hi2 : evI (ctx P fu (callN P fu (n + 2))) [some (.int (s : Int)), some (.int (f : Int)), some (.int (h : Int)), some (.int (fall : Int)), some (.int (a : Int)), y] (.e (.call "_law_subsets" (.cons (.var 0) (.cons (.var 2) .nil)))) (S ++ [.lst ((subsN s f).map fun (k : Nat) => D.int (k : Int))] ++ o) = .ok (.loc (S ++ [O.lst ((subsN s f).map fun (k : Nat) => D.int (k : Int))] ++ o).length ((subsN s h).map fun (k : Nat) => D.int (k : Int))) (S ++ [.lst ((subsN s f).map fun (k : Nat) => D.int (k : Int))] ++ o ++ [.lst ((subsN s h).map fun (k : Nat) => D.int (k : Int))]) := by
          simp only [subsets_ok HP hs, src_ref g1, eSs_cons, eS_if, eS_asg, eS_sub, eS_exp, eS_ret, eS_for, eS_rais, eS_brk, eS_cont, eS_pass, ss_nil', eT_or, eT_and, eT_no, eT_isi, eT_var, eT_cst, eT_op, eT_chn, eT_call, eT_bi, eE_isi, eE_var, eE_op, eE_glo, eE_chn, eE_cst, eE_bi, eE_bif, eE_tup, eE_fre, eE_dic0, eE_neg, eE_no, eE_and, eE_or, eE_ite, eE_call, eE_me, eE_sl, eE_rev, eO_non, eO_som, part_int, eEs_cons, eEs_nil, eF_lst, eF_list, eF_lc, eI_e, eI_f, eI_rng1, eI_enu, eI_z2, eI_z3, src_tup, src_rol, enu_tup, zip_tup, zip_tup3, its_items, List.getElem?_cons_zero, List.getElem?_cons_succ, List.set_cons_zero, List.set_cons_succ, rdVar_some, rb_ok, rb_exn, any_str, any_tup, any_int, any_bl, any_non, tr_bl, pur_at, alloc_at, bnd_at, o_add, o_sub, o_lt, o_le, o_gt, o_ge, o_eqI, o_neI, o_eqS, o_isN, chn_t, chn_f, lf_ok, lf_exn, sq_nx, sq_ret, sq_exn, ctx_glo, ctx_call, ctx_ini, opt_some, o_notinS, o_inS, bi_lenT, bi_intI, bi_intB, bi_abs, bi_max, bi_min, bif_tup, bi_tupT, neg_int', sl_tup, nxO_some, putT_nm, putT_tup, putTs_nil, putTs_cons, Option.bind_some, raiO_1, raiO_2, ix_0, ix_1, beq_self_eq_true, Bool.not_true, Bool.not_false, Bool.false_eq_true, ↓reduceIte, Bool.true_and, Bool.false_and, Bool.and_false, Bool.and_true, decide_true, decide_false, wipe_nil, wipe_cons]
        have ex : (lift [some (.int (s : Int)), some (.int (f : Int)), some (.int (h : Int)), some (.int (fall : Int)), some (.int (a : Int)), y] (evI (ctx P fu (callN P fu (n + 2))) [some (.int (s : Int)), some (.int (f : Int)), some (.int (h : Int)), some (.int (fall : Int)), some (.int (a : Int)), y] (.e (.call "_law_subsets" (.cons (.var 0) (.cons (.var 2) .nil)))) (S ++ [.lst ((subsN s f).map fun (k : Nat) => D.int (k : Int))] ++ o)) fun src S => forL src (forB (ctx P fu (callN P fu (n + 2))) (.nm 5) (.cons (.if_ (.op .eq (.op .band (.op .band (.var 4) (.var 5)) (.op .sub (.cst (.int 31)) (.var 3))) (.cst (.int 0))) (.cons (.ret (.cst (.bl true))) .nil) .nil) .nil)) src.items [some (.int (s : Int)), some (.int (f : Int)), some (.int (h : Int)), some (.int (fall : Int)), some (.int (a : Int)), y] S) = forL (.loc (S ++ [O.lst ((subsN s f).map fun (k : Nat) => D.int (k : Int))] ++ o).length ((subsN s h).map fun (k : Nat) => D.int (k : Int))) (forB (ctx P fu (callN P fu (n + 2))) (.nm 5) (.cons (.if_ (.op .eq (.op .band (.op .band (.var 4) (.var 5)) (.op .sub (.cst (.int 31)) (.var 3))) (.cst (.int 0))) (.cons (.ret (.cst (.bl true))) .nil) .nil) .nil)) ((subsN s h).map fun (k : Nat) => D.int (k : Int)) [some (.int (s : Int)), some (.int (f : Int)), some (.int (h : Int)), some (.int (fall : Int)), some (.int (a : Int)), y] (S ++ [.lst ((subsN s f).map fun (k : Nat) => D.int (k : Int))] ++ o ++ [.lst ((subsN s h).map fun (k : Nat) => D.int (k : Int))]) := by
          rw [hi2, lf_ok]
          rfl
        have inner := for_any (src := .loc (S ++ [O.lst ((subsN s f).map fun (k : Nat) => D.int (k : Int))] ++ o).length ((subsN s h).map fun (k : Nat) => D.int (k : Int))) (F := forB (ctx P fu (callN P fu (n + 2))) (.nm 5) (.cons (.if_ (.op .eq (.op .band (.op .band (.var 4) (.var 5)) (.op .sub (.cst (.int 31)) (.var 3))) (.cst (.int 0))) (.cons (.ret (.cst (.bl true))) .nil) .nil) .nil)) (em := fun (k : Nat) => D.int (k : Int)) (p := fun b => (a &&& b &&& (31 - fall)) == 0) (X := .bl true)
          (fun δ S' => (∃ y, δ = [some (.int (s : Int)), some (.int (f : Int)), some (.int (h : Int)), some (.int (fall : Int)), some (.int (a : Int)), y]) ∧ S' = S ++ [.lst ((subsN s f).map fun (k : Nat) => D.int (k : Int))] ++ o ++ [.lst ((subsN s h).map fun (k : Nat) => D.int (k : Int))])
          (fun S' => ∃ o, S' = S ++ o)
          (fun δ S' hh => by
            obtain ⟨-, rfl⟩ := hh
            exact loc_ok g1) (subsN s h) (by
            rintro q - δ S' ⟨⟨y, rfl⟩, rfl⟩
            rw [forB_at rfl]
            have e3 : (31 : Int) - (fall : Int) = ((31 - fall : Nat) : Int) := by omega
            have e4 : ((((a &&& q &&& (31 - fall) : Nat) : Int)) == 0) = ((a &&& q &&& (31 - fall)) == 0) := by
              rw [Bool.eq_iff_iff, beq_iff_eq, beq_iff_eq]
              omega
            constructor
            · intro hc
              have hq : ∃ oo, S ++ [O.lst ((subsN s f).map fun (k : Nat) => D.int (k : Int))] ++ o ++ [O.lst ((subsN s h).map fun (k : Nat) => D.int (k : Int))] = S ++ oo := ⟨_, by rw [List.append_assoc, List.append_assoc]⟩
              refine ⟨_, ?_, hq⟩
              simp only [band_nat, e3, e4, hc, eSs_cons, eS_if, eS_asg, eS_sub, eS_exp, eS_ret, eS_for, eS_rais, eS_brk, eS_cont, eS_pass, ss_nil', eT_or, eT_and, eT_no, eT_isi, eT_var, eT_cst, eT_op, eT_chn, eT_call, eT_bi, eE_isi, eE_var, eE_op, eE_glo, eE_chn, eE_cst, eE_bi, eE_bif, eE_tup, eE_fre, eE_dic0, eE_neg, eE_no, eE_and, eE_or, eE_ite, eE_call, eE_me, eE_sl, eE_rev, eO_non, eO_som, part_int, eEs_cons, eEs_nil, eF_lst, eF_list, eF_lc, eI_e, eI_f, eI_rng1, eI_enu, eI_z2, eI_z3, src_tup, src_rol, enu_tup, zip_tup, zip_tup3, its_items, List.getElem?_cons_zero, List.getElem?_cons_succ, List.set_cons_zero, List.set_cons_succ, rdVar_some, rb_ok, rb_exn, any_str, any_tup, any_int, any_bl, any_non, tr_bl, pur_at, alloc_at, bnd_at, o_add, o_sub, o_lt, o_le, o_gt, o_ge, o_eqI, o_neI, o_eqS, o_isN, chn_t, chn_f, lf_ok, lf_exn, sq_nx, sq_ret, sq_exn, ctx_glo, ctx_call, ctx_ini, opt_some, o_notinS, o_inS, bi_lenT, bi_intI, bi_intB, bi_abs, bi_max, bi_min, bif_tup, bi_tupT, neg_int', sl_tup, nxO_some, putT_nm, putT_tup, putTs_nil, putTs_cons, Option.bind_some, raiO_1, raiO_2, ix_0, ix_1, beq_self_eq_true, Bool.not_true, Bool.not_false, Bool.false_eq_true, ↓reduceIte, Bool.true_and, Bool.false_and, Bool.and_false, Bool.and_true, decide_true, decide_false, wipe_nil, wipe_cons]
            · intro hc
              simp only [band_nat, e3, e4, hc, eSs_cons, eS_if, eS_asg, eS_sub, eS_exp, eS_ret, eS_for, eS_rais, eS_brk, eS_cont, eS_pass, ss_nil', eT_or, eT_and, eT_no, eT_isi, eT_var, eT_cst, eT_op, eT_chn, eT_call, eT_bi, eE_isi, eE_var, eE_op, eE_glo, eE_chn, eE_cst, eE_bi, eE_bif, eE_tup, eE_fre, eE_dic0, eE_neg, eE_no, eE_and, eE_or, eE_ite, eE_call, eE_me, eE_sl, eE_rev, eO_non, eO_som, part_int, eEs_cons, eEs_nil, eF_lst, eF_list, eF_lc, eI_e, eI_f, eI_rng1, eI_enu, eI_z2, eI_z3, src_tup, src_rol, enu_tup, zip_tup, zip_tup3, its_items, List.getElem?_cons_zero, List.getElem?_cons_succ, List.set_cons_zero, List.set_cons_succ, rdVar_some, rb_ok, rb_exn, any_str, any_tup, any_int, any_bl, any_non, tr_bl, pur_at, alloc_at, bnd_at, o_add, o_sub, o_lt, o_le, o_gt, o_ge, o_eqI, o_neI, o_eqS, o_isN, chn_t, chn_f, lf_ok, lf_exn, sq_nx, sq_ret, sq_exn, ctx_glo, ctx_call, ctx_ini, opt_some, o_notinS, o_inS, bi_lenT, bi_intI, bi_intB, bi_abs, bi_max, bi_min, bif_tup, bi_tupT, neg_int', sl_tup, nxO_some, putT_nm, putT_tup, putTs_nil, putTs_cons, Option.bind_some, raiO_1, raiO_2, ix_0, ix_1, beq_self_eq_true, Bool.not_true, Bool.not_false, Bool.false_eq_true, ↓reduceIte, Bool.true_and, Bool.false_and, Bool.and_false, Bool.and_true, decide_true, decide_false, wipe_nil, wipe_cons]
              exact ⟨_, _, rfl, ⟨_, rfl⟩, rfl⟩) (δ := [some (.int (s : Int)), some (.int (f : Int)), some (.int (h : Int)), some (.int (fall : Int)), some (.int (a : Int)), y]) ⟨⟨y, rfl⟩, rfl⟩
        constructor
        · intro hc
          obtain ⟨S2, e2, r2⟩ := inner.1 hc
          refine ⟨S2, ?_, r2⟩
          show SR.sq (lift _ (evI _ _ _ _) _) _ = _
          exact (congrArg (fun r => SR.sq r _) (ex.trans e2)).trans rfl
        · intro hc
          obtain ⟨δ2, S2, e2, ⟨y2, rfl⟩, rfl⟩ := inner.2 hc
          exact ⟨_, _, (congrArg (fun r => SR.sq r _) (ex.trans e2)).trans rfl, ⟨_, _, rfl⟩, _, by rw [List.append_assoc (S ++ _) o]⟩) (δ := [some (.int (s : Int)), some (.int (f : Int)), some (.int (h : Int)), some (.int (fall : Int)), none, none]) ⟨⟨none, none, rfl⟩, [], (List.append_nil _).symm⟩
    cases hc : fitsN s f h fall with
    | true =>
      obtain ⟨S2, e2, r2⟩ := inv.1 hc
      rw [e2]
      exact ⟨_, _, rfl, rfl, r2⟩
    | false =>
      obtain ⟨δ2, S2, e2, ⟨x2, y2, rfl⟩, o, rfl⟩ := inv.2 hc
      rw [e2]
      simp only [eSs_cons, eS_if, eS_asg, eS_sub, eS_exp, eS_ret, eS_for, eS_rais, eS_brk, eS_cont, eS_pass, ss_nil', eT_or, eT_and, eT_no, eT_isi, eT_var, eT_cst, eT_op, eT_chn, eT_call, eT_bi, eE_isi, eE_var, eE_op, eE_glo, eE_chn, eE_cst, eE_bi, eE_bif, eE_tup, eE_fre, eE_dic0, eE_neg, eE_no, eE_and, eE_or, eE_ite, eE_call, eE_me, eE_sl, eE_rev, eO_non, eO_som, part_int, eEs_cons, eEs_nil, eF_lst, eF_list, eF_lc, eI_e, eI_f, eI_rng1, eI_enu, eI_z2, eI_z3, src_tup, src_rol, enu_tup, zip_tup, zip_tup3, its_items, List.getElem?_cons_zero, List.getElem?_cons_succ, List.set_cons_zero, List.set_cons_succ, rdVar_some, rb_ok, rb_exn, any_str, any_tup, any_int, any_bl, any_non, tr_bl, pur_at, alloc_at, bnd_at, o_add, o_sub, o_lt, o_le, o_gt, o_ge, o_eqI, o_neI, o_eqS, o_isN, chn_t, chn_f, lf_ok, lf_exn, sq_nx, sq_ret, sq_exn, ctx_glo, ctx_call, ctx_ini, opt_some, o_notinS, o_inS, bi_lenT, bi_intI, bi_intB, bi_abs, bi_max, bi_min, bif_tup, bi_tupT, neg_int', sl_tup, nxO_some, putT_nm, putT_tup, putTs_nil, putTs_cons, Option.bind_some, raiO_1, raiO_2, ix_0, ix_1, beq_self_eq_true, Bool.not_true, Bool.not_false, Bool.false_eq_true, ↓reduceIte, Bool.true_and, Bool.false_and, Bool.and_false, Bool.and_true, decide_true, decide_false, wipe_nil, wipe_cons]
      exact ⟨_, _, rfl, rfl, _, by rw [List.append_assoc]⟩
  obtain ⟨_, _, e1, rfl, o, rfl⟩ := e0
  exact (congrArg (fun r => fin _ (endR r)) e1).trans (fin_ok rfl)
end
end K03

set_option Elab.async false
set_option linter.all false
set_option maxRecDepth 100000
set_option maxHeartbeats 4000000
/-! k03: small lots. -/
namespace Mi
theorem sl_R {m : Nat} {f : Nat → D} {i : Int} {S : Store} (h : 0 ≤ i) : slD (mR m f) none (some i) S = .ok (mR (min i.toNat m) f) S := by
  show slD (.tup _) _ _ S = _
  rw [sl_tup]
  unfold cut sIx
  have h1 : ¬ i < 0 := by omega
  simp only [len_R, if_neg h1, Nat.sub_zero, List.drop_zero]
  rw [← List.map_take, List.take_range, Nat.min_eq_left (Nat.min_le_right _ _)]
  rfl
theorem nx_exp {c : Ctx} {δ : Env} {S S' : Store} {e : E} {d : D} (h : evE c δ e S = .ok d S') : evS c (.exp e) δ S = .nx δ S' := s_exp' h
end Mi
namespace K03
open Mi
theorem pop_le : ((List.range 6).all fun s => (List.range (2 ^ s)).all fun k => decide (popN k ≤ s)) = true := by decide +kernel
theorem pop_le' {s k : Nat} (hs : s ≤ 5) (hk : k < 2 ^ s) : popN k ≤ s := by
  have := List.all_eq_true.mp pop_le s (List.mem_range.mpr (by omega))
  exact of_decide_eq_true (List.all_eq_true.mp this k (List.mem_range.mpr hk))
section
variable {P : Prog} (HP : HasL P) {fu n : Nat} {S : Store} {t g a : Nat} {bs : List Int} {m : Nat} {w : Nat → List Nat} {z : Nat → Int}
include HP
theorem small_ok (G : GL m w z) (M0 : Mem S t g a bs) {p0 p1 p2 p3 : Int} (A : As p0 p1 p2 p3 bs) :
    Res t g a S (callN P fu (n + 7) "_law_small" [.ref t, .ref a, dL m w z] S) fun d bs' => d = .bl true ∧ As p0 p1 (p2 + 3) p3 bs' := by
  refine res_of HP.f__law_small rfl M0 ?_
  show Ret (evSs _ b__law_small [some (.ref t), some (.ref a), some (dL m w z), none, none, none, none, none, none, none, none, none, none] S) _
  obtain ⟨r, S1, e1, hr, M1, F1⟩ := draw HP (fu := fu) (n := n + 5) M0 (many := 3) (by decide) (by decide)
  obtain ⟨m', hm'⟩ : ∃ m', min (1 + r).toNat m = m' := ⟨_, rfl⟩
  have hmm : m' ≤ m := by omega
  have hm1 : 1 ≤ m' := by have := G.pos; omega
  have hmx : m' ≤ mx := Nat.le_trans hmm G.top
  obtain ⟨zz, S2, e2, hz, M2, E2⟩ := evF_fun (c := ctx P fu (callN P fu (n + 6))) (δ := [some (.ref t), some (.ref a), some (dL m w z), none, none, none, none, none, none, none, none, none, none]) (own := [11]) (elt := .tup (.cons (.op .ix (.var 11) (.cst (.int 0))) (.cons (.op .add (.cst (.int 1)) (.call "_law_draw" (.cons (.var 0) (.cons (.cst (.int 5)) .nil)))) .nil))) (tg := .nm 11) (it := .e (.sl (.var 2) .non (.som (.op .add (.cst (.int 1)) (.call "_law_draw" (.cons (.var 0) (.cons (.cst (.int 3)) .nil))))))) (m := m') (em := fun i => .tup [.str (w i), .int (z i)]) (em2 := fun i r => .tup [.str (w i), .int r]) (S := S1) (S0 := S) (fun _ r => 1 ≤ r ∧ r ≤ 5) (fun S' => Mem S' t g a bs ∧ Ext t g a S S') hmx
    (by
      have hs : slD (dL m w z) none (some (1 + r)) S1 = .ok (mR m' fun i => .tup [.str (w i), .int (z i)]) S1 := by
        show slD (mR m _) _ _ S1 = _
        rw [sl_R (by omega), hm']
      simp only [e1, hs, eSs_cons, eS_if, eS_asg, eS_sub, eS_exp, eS_ret, eS_for, eS_rais, eS_brk, eS_cont, eS_pass, ss_nil', eT_or, eT_and, eT_no, eT_isi, eT_var, eT_cst, eT_op, eT_chn, eT_call, eT_bi, eE_isi, eE_var, eE_op, eE_glo, eE_chn, eE_cst, eE_bi, eE_bif, eE_tup, eE_fre, eE_dic0, eE_neg, eE_no, eE_and, eE_or, eE_ite, eE_call, eE_me, eE_sl, eE_rev, eO_non, eO_som, part_int, eEs_cons, eEs_nil, eF_lst, eF_list, eF_lc, eI_e, eI_f, eI_rng1, eI_enu, eI_z2, eI_z3, src_tup, src_rol, enu_tup, zip_tup, zip_tup3, its_items, List.getElem?_cons_zero, List.getElem?_cons_succ, List.set_cons_zero, List.set_cons_succ, rdVar_some, rb_ok, rb_exn, any_str, any_tup, any_int, any_bl, any_non, tr_bl, pur_at, alloc_at, bnd_at, o_add, o_sub, o_lt, o_le, o_gt, o_ge, o_eqI, o_neI, o_eqS, o_isN, chn_t, chn_f, lf_ok, lf_exn, sq_nx, sq_ret, sq_exn, ctx_glo, ctx_call, ctx_ini, opt_some, o_notinS, o_inS, bi_lenT, bi_intI, bi_intB, bi_abs, bi_max, bi_min, bif_tup, bi_tupT, neg_int', sl_tup, nxO_some, putT_nm, putT_tup, putTs_nil, putTs_cons, Option.bind_some, raiO_1, raiO_2, ix_0, ix_1, beq_self_eq_true, Bool.not_true, Bool.not_false, Bool.false_eq_true, ↓reduceIte, Bool.true_and, Bool.false_and, Bool.and_false, Bool.and_true, decide_true, decide_false, wipe_nil, wipe_cons]
      rfl) ⟨M1, F1.ext⟩ (by
      rintro i hi S' ⟨M', E'⟩
      obtain ⟨q, S3, e3, hq, M3, F3⟩ := draw HP (fu := fu) (n := n + 5) M' (many := 5) (by decide) (by decide)
      exact ⟨1 + q, S3, lcF_at rfl (by simp only [e3, eSs_cons, eS_if, eS_asg, eS_sub, eS_exp, eS_ret, eS_for, eS_rais, eS_brk, eS_cont, eS_pass, ss_nil', eT_or, eT_and, eT_no, eT_isi, eT_var, eT_cst, eT_op, eT_chn, eT_call, eT_bi, eE_isi, eE_var, eE_op, eE_glo, eE_chn, eE_cst, eE_bi, eE_bif, eE_tup, eE_fre, eE_dic0, eE_neg, eE_no, eE_and, eE_or, eE_ite, eE_call, eE_me, eE_sl, eE_rev, eO_non, eO_som, part_int, eEs_cons, eEs_nil, eF_lst, eF_list, eF_lc, eI_e, eI_f, eI_rng1, eI_enu, eI_z2, eI_z3, src_tup, src_rol, enu_tup, zip_tup, zip_tup3, its_items, List.getElem?_cons_zero, List.getElem?_cons_succ, List.set_cons_zero, List.set_cons_succ, rdVar_some, rb_ok, rb_exn, any_str, any_tup, any_int, any_bl, any_non, tr_bl, pur_at, alloc_at, bnd_at, o_add, o_sub, o_lt, o_le, o_gt, o_ge, o_eqI, o_neI, o_eqS, o_isN, chn_t, chn_f, lf_ok, lf_exn, sq_nx, sq_ret, sq_exn, ctx_glo, ctx_call, ctx_ini, opt_some, o_notinS, o_inS, bi_lenT, bi_intI, bi_intB, bi_abs, bi_max, bi_min, bif_tup, bi_tupT, neg_int', sl_tup, nxO_some, putT_nm, putT_tup, putTs_nil, putTs_cons, Option.bind_some, raiO_1, raiO_2, ix_0, ix_1, beq_self_eq_true, Bool.not_true, Bool.not_false, Bool.false_eq_true, ↓reduceIte, Bool.true_and, Bool.false_and, Bool.and_false, Bool.and_true, decide_true, decide_false, wipe_nil, wipe_cons]), ⟨by omega, by omega⟩, M3, E'.trans F3.ext⟩)
  have G' : GL m' w zz := ⟨hm1, hmx, fun i hi => G.word i (by omega), fun i j hi hj => G.inj i j (by omega) (by omega), fun i hi => (hz i hi).1⟩
  unfold b__law_small
  refine Ret.step (asg_fun e2) ?_
  refine Ret.forR (m := 3) (em := fun (i : Nat) => .int (i : Int)) (S' := S2) (by simp only [show rngD (.int 3) S2 = _ from rng_R (m := 3) (by decide), eSs_cons, eS_if, eS_asg, eS_sub, eS_exp, eS_ret, eS_for, eS_rais, eS_brk, eS_cont, eS_pass, ss_nil', eT_or, eT_and, eT_no, eT_isi, eT_var, eT_cst, eT_op, eT_chn, eT_call, eT_bi, eE_isi, eE_var, eE_op, eE_glo, eE_chn, eE_cst, eE_bi, eE_bif, eE_tup, eE_fre, eE_dic0, eE_neg, eE_no, eE_and, eE_or, eE_ite, eE_call, eE_me, eE_sl, eE_rev, eO_non, eO_som, part_int, eEs_cons, eEs_nil, eF_lst, eF_list, eF_lc, eI_e, eI_f, eI_rng1, eI_enu, eI_z2, eI_z3, src_tup, src_rol, enu_tup, zip_tup, zip_tup3, its_items, List.getElem?_cons_zero, List.getElem?_cons_succ, List.set_cons_zero, List.set_cons_succ, rdVar_some, rb_ok, rb_exn, any_str, any_tup, any_int, any_bl, any_non, tr_bl, pur_at, alloc_at, bnd_at, o_add, o_sub, o_lt, o_le, o_gt, o_ge, o_eqI, o_neI, o_eqS, o_isN, chn_t, chn_f, lf_ok, lf_exn, sq_nx, sq_ret, sq_exn, ctx_glo, ctx_call, ctx_ini, opt_some, o_notinS, o_inS, bi_lenT, bi_intI, bi_intB, bi_abs, bi_max, bi_min, bif_tup, bi_tupT, neg_int', sl_tup, nxO_some, putT_nm, putT_tup, putTs_nil, putTs_cons, Option.bind_some, raiO_1, raiO_2, ix_0, ix_1, beq_self_eq_true, Bool.not_true, Bool.not_false, Bool.false_eq_true, ↓reduceIte, Bool.true_and, Bool.false_and, Bool.and_false, Bool.and_true, decide_true, decide_false, wipe_nil, wipe_cons]) (fun i δ S' => (∃ x4 x5 x6 x7 x8 x9 x10 x11 x12, δ = [some (.ref t), some (.ref a), some (dL m w z), some (dL m' w zz), x4, x5, x6, x7, x8, x9, x10, x11, x12]) ∧ ∃ bs', Mem S' t g a bs' ∧ As p0 p1 (p2 + i) p3 bs' ∧ Ext t g a S S') ?_ ⟨⟨_, _, _, _, _, _, _, _, _, rfl⟩, bs, M2, A.mono (by omega) (by omega) (by omega) (by omega), E2⟩ ?_
  · rintro i δ S3 hi ⟨⟨x4, x5, x6, x7, x8, x9, x10, x11, x12, rfl⟩, bs3, M3, A3, E3⟩
    rw [forB_at (δ' := [some (.ref t), some (.ref a), some (dL m w z), some (dL m' w zz), some (.int (i : Int)), x5, x6, x7, x8, x9, x10, x11, x12]) rfl]
    obtain ⟨f, S4, e4, hf, M4, E4⟩ := evF_fun (c := ctx P fu (callN P fu (n + 6))) (δ := [some (.ref t), some (.ref a), some (dL m w z), some (dL m' w zz), some (.int (i : Int)), x5, x6, x7, x8, x9, x10, x11, x12]) (own := [11]) (elt := .call "_law_draw" (.cons (.var 0) (.cons (.op .add (.op .ix (.var 11) (.cst (.int 1))) (.cst (.int 1))) .nil))) (tg := .nm 11) (it := .e (.var 3)) (m := m') (em := fun i => .tup [.str (w i), .int (zz i)]) (em2 := fun i r => .int r) (S := S3) (S0 := S3) (fun i r => 0 ≤ r ∧ r ≤ zz i) (fun S' => Mem S' t g a bs3 ∧ Ext t g a S S') hmx
      (by simp only [show srcD (dL m' w zz) S3 = .ok (.its ((List.range m').map fun i => D.tup [.str (w i), .int (zz i)])) S3 from src_tup, eSs_cons, eS_if, eS_asg, eS_sub, eS_exp, eS_ret, eS_for, eS_rais, eS_brk, eS_cont, eS_pass, ss_nil', eT_or, eT_and, eT_no, eT_isi, eT_var, eT_cst, eT_op, eT_chn, eT_call, eT_bi, eE_isi, eE_var, eE_op, eE_glo, eE_chn, eE_cst, eE_bi, eE_bif, eE_tup, eE_fre, eE_dic0, eE_neg, eE_no, eE_and, eE_or, eE_ite, eE_call, eE_me, eE_sl, eE_rev, eO_non, eO_som, part_int, eEs_cons, eEs_nil, eF_lst, eF_list, eF_lc, eI_e, eI_f, eI_rng1, eI_enu, eI_z2, eI_z3, src_tup, src_rol, enu_tup, zip_tup, zip_tup3, its_items, List.getElem?_cons_zero, List.getElem?_cons_succ, List.set_cons_zero, List.set_cons_succ, rdVar_some, rb_ok, rb_exn, any_str, any_tup, any_int, any_bl, any_non, tr_bl, pur_at, alloc_at, bnd_at, o_add, o_sub, o_lt, o_le, o_gt, o_ge, o_eqI, o_neI, o_eqS, o_isN, chn_t, chn_f, lf_ok, lf_exn, sq_nx, sq_ret, sq_exn, ctx_glo, ctx_call, ctx_ini, opt_some, o_notinS, o_inS, bi_lenT, bi_intI, bi_intB, bi_abs, bi_max, bi_min, bif_tup, bi_tupT, neg_int', sl_tup, nxO_some, putT_nm, putT_tup, putTs_nil, putTs_cons, Option.bind_some, raiO_1, raiO_2, ix_0, ix_1, beq_self_eq_true, Bool.not_true, Bool.not_false, Bool.false_eq_true, ↓reduceIte, Bool.true_and, Bool.false_and, Bool.and_false, Bool.and_true, decide_true, decide_false, wipe_nil, wipe_cons]) ⟨M3, E3⟩ (by
        rintro j hj S' ⟨M', E'⟩
        have := hz j hj
        obtain ⟨q, S5, e5, hq, M5, F5⟩ := draw HP (fu := fu) (n := n + 5) M' (many := zz j + 1) (by omega) (by omega)
        exact ⟨q, S5, lcF_at rfl (by simp only [e5, eSs_cons, eS_if, eS_asg, eS_sub, eS_exp, eS_ret, eS_for, eS_rais, eS_brk, eS_cont, eS_pass, ss_nil', eT_or, eT_and, eT_no, eT_isi, eT_var, eT_cst, eT_op, eT_chn, eT_call, eT_bi, eE_isi, eE_var, eE_op, eE_glo, eE_chn, eE_cst, eE_bi, eE_bif, eE_tup, eE_fre, eE_dic0, eE_neg, eE_no, eE_and, eE_or, eE_ite, eE_call, eE_me, eE_sl, eE_rev, eO_non, eO_som, part_int, eEs_cons, eEs_nil, eF_lst, eF_list, eF_lc, eI_e, eI_f, eI_rng1, eI_enu, eI_z2, eI_z3, src_tup, src_rol, enu_tup, zip_tup, zip_tup3, its_items, List.getElem?_cons_zero, List.getElem?_cons_succ, List.set_cons_zero, List.set_cons_succ, rdVar_some, rb_ok, rb_exn, any_str, any_tup, any_int, any_bl, any_non, tr_bl, pur_at, alloc_at, bnd_at, o_add, o_sub, o_lt, o_le, o_gt, o_ge, o_eqI, o_neI, o_eqS, o_isN, chn_t, chn_f, lf_ok, lf_exn, sq_nx, sq_ret, sq_exn, ctx_glo, ctx_call, ctx_ini, opt_some, o_notinS, o_inS, bi_lenT, bi_intI, bi_intB, bi_abs, bi_max, bi_min, bif_tup, bi_tupT, neg_int', sl_tup, nxO_some, putT_nm, putT_tup, putTs_nil, putTs_cons, Option.bind_some, raiO_1, raiO_2, ix_0, ix_1, beq_self_eq_true, Bool.not_true, Bool.not_false, Bool.false_eq_true, ↓reduceIte, Bool.true_and, Bool.false_and, Bool.and_false, Bool.and_true, decide_true, decide_false, wipe_nil, wipe_cons]), ⟨by omega, by omega⟩, M5, E'.trans F5.ext⟩)
    refine Nx.step (asg_fun e4) ?_
    have F4 : FitC m' zz f := hf
    have ixz : ∀ {j : Nat} {S : Store}, j < m' → opD .ix (dL m' w zz) (.int (j : Int)) S = .ok (.tup [.str (w j), .int (zz j)]) S := fun h => ix_R h
    have ixf : ∀ {j : Nat} {S : Store}, j < m' → opD .ix (dI m' f) (.int (j : Int)) S = .ok (.int (f j)) S := fun h => ix_R h
    have hlen : ∀ S, biD .len [dL m' w zz] S = .ok (.int (m' : Int)) S := fun S => len_mR
    obtain ⟨h, S5, e5, hh, M5, E5⟩ := evF_fun (c := ctx P fu (callN P fu (n + 6))) (δ := [some (.ref t), some (.ref a), some (dL m w z), some (dL m' w zz), some (.int (i : Int)), some (dI m' f), x6, x7, x8, x9, x10, x11, x12]) (own := [10]) (elt := .call "_law_second" (.cons (.var 0) (.cons (.op .ix (.op .ix (.var 3) (.var 10)) (.cst (.int 1))) (.cons (.op .ix (.var 5) (.var 10)) .nil)))) (tg := .nm 10) (it := .rng1 (.bi .len (.cons (.var 3) .nil))) (m := m') (em := fun (i : Nat) => .int (i : Int)) (em2 := fun i r => .int r) (S := S4) (S0 := S4) (fun i r => 0 ≤ r ∧ r ≤ zz i) (fun S' => Mem S' t g a bs3 ∧ Ext t g a S S') hmx
      (by simp only [hlen, rng_R hmx, eSs_cons, eS_if, eS_asg, eS_sub, eS_exp, eS_ret, eS_for, eS_rais, eS_brk, eS_cont, eS_pass, ss_nil', eT_or, eT_and, eT_no, eT_isi, eT_var, eT_cst, eT_op, eT_chn, eT_call, eT_bi, eE_isi, eE_var, eE_op, eE_glo, eE_chn, eE_cst, eE_bi, eE_bif, eE_tup, eE_fre, eE_dic0, eE_neg, eE_no, eE_and, eE_or, eE_ite, eE_call, eE_me, eE_sl, eE_rev, eO_non, eO_som, part_int, eEs_cons, eEs_nil, eF_lst, eF_list, eF_lc, eI_e, eI_f, eI_rng1, eI_enu, eI_z2, eI_z3, src_tup, src_rol, enu_tup, zip_tup, zip_tup3, its_items, List.getElem?_cons_zero, List.getElem?_cons_succ, List.set_cons_zero, List.set_cons_succ, rdVar_some, rb_ok, rb_exn, any_str, any_tup, any_int, any_bl, any_non, tr_bl, pur_at, alloc_at, bnd_at, o_add, o_sub, o_lt, o_le, o_gt, o_ge, o_eqI, o_neI, o_eqS, o_isN, chn_t, chn_f, lf_ok, lf_exn, sq_nx, sq_ret, sq_exn, ctx_glo, ctx_call, ctx_ini, opt_some, o_notinS, o_inS, bi_lenT, bi_intI, bi_intB, bi_abs, bi_max, bi_min, bif_tup, bi_tupT, neg_int', sl_tup, nxO_some, putT_nm, putT_tup, putTs_nil, putTs_cons, Option.bind_some, raiO_1, raiO_2, ix_0, ix_1, beq_self_eq_true, Bool.not_true, Bool.not_false, Bool.false_eq_true, ↓reduceIte, Bool.true_and, Bool.false_and, Bool.and_false, Bool.and_true, decide_true, decide_false, wipe_nil, wipe_cons]) ⟨M4, E4⟩ (by
        rintro j hj S' ⟨M', E'⟩
        have := hz j hj
        have hfj := hf j hj
        obtain ⟨_, S6, bs6, e6, ⟨rfl, q, rfl, hq⟩, M6, F6⟩ := second_ok HP (fu := fu) (n := n + 3) M' (sz := zz j) (fi := f j) hfj.1 hfj.2 (by omega)
        exact ⟨q, S6, lcF_at rfl (by simp only [ixz hj, ixf hj, e6, eSs_cons, eS_if, eS_asg, eS_sub, eS_exp, eS_ret, eS_for, eS_rais, eS_brk, eS_cont, eS_pass, ss_nil', eT_or, eT_and, eT_no, eT_isi, eT_var, eT_cst, eT_op, eT_chn, eT_call, eT_bi, eE_isi, eE_var, eE_op, eE_glo, eE_chn, eE_cst, eE_bi, eE_bif, eE_tup, eE_fre, eE_dic0, eE_neg, eE_no, eE_and, eE_or, eE_ite, eE_call, eE_me, eE_sl, eE_rev, eO_non, eO_som, part_int, eEs_cons, eEs_nil, eF_lst, eF_list, eF_lc, eI_e, eI_f, eI_rng1, eI_enu, eI_z2, eI_z3, src_tup, src_rol, enu_tup, zip_tup, zip_tup3, its_items, List.getElem?_cons_zero, List.getElem?_cons_succ, List.set_cons_zero, List.set_cons_succ, rdVar_some, rb_ok, rb_exn, any_str, any_tup, any_int, any_bl, any_non, tr_bl, pur_at, alloc_at, bnd_at, o_add, o_sub, o_lt, o_le, o_gt, o_ge, o_eqI, o_neI, o_eqS, o_isN, chn_t, chn_f, lf_ok, lf_exn, sq_nx, sq_ret, sq_exn, ctx_glo, ctx_call, ctx_ini, opt_some, o_notinS, o_inS, bi_lenT, bi_intI, bi_intB, bi_abs, bi_max, bi_min, bif_tup, bi_tupT, neg_int', sl_tup, nxO_some, putT_nm, putT_tup, putTs_nil, putTs_cons, Option.bind_some, raiO_1, raiO_2, ix_0, ix_1, beq_self_eq_true, Bool.not_true, Bool.not_false, Bool.false_eq_true, ↓reduceIte, Bool.true_and, Bool.false_and, Bool.and_false, Bool.and_true, decide_true, decide_false, wipe_nil, wipe_cons]), hq, M6, E'.trans F6.ext⟩)
    refine Nx.step (asg_fun e5) ?_
    have F5 : FitC m' zz h := hh
    have ixh : ∀ {j : Nat} {S : Store}, j < m' → opD .ix (dI m' h) (.int (j : Int)) S = .ok (.int (h j)) S := fun h => ix_R h
    obtain ⟨fl, S6, e6, hfl, M6, E6⟩ := evF_fun (c := ctx P fu (callN P fu (n + 6))) (δ := [some (.ref t), some (.ref a), some (dL m w z), some (dL m' w zz), some (.int (i : Int)), some (dI m' f), some (dI m' h), x7, x8, x9, x10, x11, x12]) (own := [11]) (elt := .op .band (.call "_law_draw" (.cons (.var 0) (.cons (.op .pow (.cst (.int 2)) (.cst (.int 5))) .nil))) (.op .sub (.op .ix (.tup (.cons (.cst (.int 1)) (.cons (.cst (.int 2)) (.cons (.cst (.int 4)) (.cons (.cst (.int 8)) (.cons (.cst (.int 16)) (.cons (.cst (.int 32)) .nil))))))) (.op .ix (.var 11) (.cst (.int 1)))) (.cst (.int 1)))) (tg := .nm 11) (it := .e (.var 3)) (m := m') (em := fun i => .tup [.str (w i), .int (zz i)]) (em2 := fun i r => .int r) (S := S5) (S0 := S5) (fun i r => 0 ≤ r ∧ r.toNat < 2 ^ (zz i).toNat) (fun S' => Mem S' t g a bs3 ∧ Ext t g a S S') hmx
      (by simp only [show srcD (dL m' w zz) S5 = .ok (.its ((List.range m').map fun i => D.tup [.str (w i), .int (zz i)])) S5 from src_tup, eSs_cons, eS_if, eS_asg, eS_sub, eS_exp, eS_ret, eS_for, eS_rais, eS_brk, eS_cont, eS_pass, ss_nil', eT_or, eT_and, eT_no, eT_isi, eT_var, eT_cst, eT_op, eT_chn, eT_call, eT_bi, eE_isi, eE_var, eE_op, eE_glo, eE_chn, eE_cst, eE_bi, eE_bif, eE_tup, eE_fre, eE_dic0, eE_neg, eE_no, eE_and, eE_or, eE_ite, eE_call, eE_me, eE_sl, eE_rev, eO_non, eO_som, part_int, eEs_cons, eEs_nil, eF_lst, eF_list, eF_lc, eI_e, eI_f, eI_rng1, eI_enu, eI_z2, eI_z3, src_tup, src_rol, enu_tup, zip_tup, zip_tup3, its_items, List.getElem?_cons_zero, List.getElem?_cons_succ, List.set_cons_zero, List.set_cons_succ, rdVar_some, rb_ok, rb_exn, any_str, any_tup, any_int, any_bl, any_non, tr_bl, pur_at, alloc_at, bnd_at, o_add, o_sub, o_lt, o_le, o_gt, o_ge, o_eqI, o_neI, o_eqS, o_isN, chn_t, chn_f, lf_ok, lf_exn, sq_nx, sq_ret, sq_exn, ctx_glo, ctx_call, ctx_ini, opt_some, o_notinS, o_inS, bi_lenT, bi_intI, bi_intB, bi_abs, bi_max, bi_min, bif_tup, bi_tupT, neg_int', sl_tup, nxO_some, putT_nm, putT_tup, putTs_nil, putTs_cons, Option.bind_some, raiO_1, raiO_2, ix_0, ix_1, beq_self_eq_true, Bool.not_true, Bool.not_false, Bool.false_eq_true, ↓reduceIte, Bool.true_and, Bool.false_and, Bool.and_false, Bool.and_true, decide_true, decide_false, wipe_nil, wipe_cons]) ⟨M5, E5⟩ (by
        rintro j hj S' ⟨M', E'⟩
        have hzj := hz j hj
        obtain ⟨q, S7, e7, hq, M7, F7⟩ := draw HP (fu := fu) (n := n + 5) M' (many := 32) (by decide) (by decide)
        obtain ⟨k, hk⟩ : ∃ k : Nat, zz j = (k : Int) := ⟨(zz j).toNat, by omega⟩
        have hp : opD .ix (.tup [.int 1, .int 2, .int 4, .int 8, .int 16, .int 32]) (.int (zz j)) S7 = .ok (.int ((2 ^ k : Nat) : Int)) S7 := by
          rw [hk]
          refine o_ixT (atI_nat ?_)
          have : k = 0 ∨ k = 1 ∨ k = 2 ∨ k = 3 ∨ k = 4 ∨ k = 5 := by omega
          rcases this with rfl | rfl | rfl | rfl | rfl | rfl <;> rfl
        have hpw : opD .pow (.int 2) (.int 5) S' = .ok (.int 32) S' := o_pow (by decide)
        have h2 : 1 ≤ 2 ^ k := Nat.one_le_two_pow
        have hsub : ((2 ^ k : Nat) : Int) - 1 = ((2 ^ k - 1 : Nat) : Int) := by omega
        obtain ⟨qn, rfl⟩ : ∃ qn : Nat, q = (qn : Int) := ⟨q.toNat, by omega⟩
        have hle : qn &&& (2 ^ k - 1) ≤ 2 ^ k - 1 := Nat.and_le_right
        refine ⟨((qn &&& (2 ^ k - 1) : Nat) : Int), S7, lcF_at rfl (by simp only [hpw, e7, hp, hsub, band_nat, eSs_cons, eS_if, eS_asg, eS_sub, eS_exp, eS_ret, eS_for, eS_rais, eS_brk, eS_cont, eS_pass, ss_nil', eT_or, eT_and, eT_no, eT_isi, eT_var, eT_cst, eT_op, eT_chn, eT_call, eT_bi, eE_isi, eE_var, eE_op, eE_glo, eE_chn, eE_cst, eE_bi, eE_bif, eE_tup, eE_fre, eE_dic0, eE_neg, eE_no, eE_and, eE_or, eE_ite, eE_call, eE_me, eE_sl, eE_rev, eO_non, eO_som, part_int, eEs_cons, eEs_nil, eF_lst, eF_list, eF_lc, eI_e, eI_f, eI_rng1, eI_enu, eI_z2, eI_z3, src_tup, src_rol, enu_tup, zip_tup, zip_tup3, its_items, List.getElem?_cons_zero, List.getElem?_cons_succ, List.set_cons_zero, List.set_cons_succ, rdVar_some, rb_ok, rb_exn, any_str, any_tup, any_int, any_bl, any_non, tr_bl, pur_at, alloc_at, bnd_at, o_add, o_sub, o_lt, o_le, o_gt, o_ge, o_eqI, o_neI, o_eqS, o_isN, chn_t, chn_f, lf_ok, lf_exn, sq_nx, sq_ret, sq_exn, ctx_glo, ctx_call, ctx_ini, opt_some, o_notinS, o_inS, bi_lenT, bi_intI, bi_intB, bi_abs, bi_max, bi_min, bif_tup, bi_tupT, neg_int', sl_tup, nxO_some, putT_nm, putT_tup, putTs_nil, putTs_cons, Option.bind_some, raiO_1, raiO_2, ix_0, ix_1, beq_self_eq_true, Bool.not_true, Bool.not_false, Bool.false_eq_true, ↓reduceIte, Bool.true_and, Bool.false_and, Bool.and_false, Bool.and_true, decide_true, decide_false, wipe_nil, wipe_cons]), ⟨by omega, ?_⟩, M7, E'.trans F7.ext⟩
        rw [hk, Int.toNat_natCast, Int.toNat_natCast]
        omega)
    refine Nx.step (asg_fre e6) ?_
    refine Nx.step (by simp only [eSs_cons, eS_if, eS_asg, eS_sub, eS_exp, eS_ret, eS_for, eS_rais, eS_brk, eS_cont, eS_pass, ss_nil', eT_or, eT_and, eT_no, eT_isi, eT_var, eT_cst, eT_op, eT_chn, eT_call, eT_bi, eE_isi, eE_var, eE_op, eE_glo, eE_chn, eE_cst, eE_bi, eE_bif, eE_tup, eE_fre, eE_dic0, eE_neg, eE_no, eE_and, eE_or, eE_ite, eE_call, eE_me, eE_sl, eE_rev, eO_non, eO_som, part_int, eEs_cons, eEs_nil, eF_lst, eF_list, eF_lc, eI_e, eI_f, eI_rng1, eI_enu, eI_z2, eI_z3, src_tup, src_rol, enu_tup, zip_tup, zip_tup3, its_items, List.getElem?_cons_zero, List.getElem?_cons_succ, List.set_cons_zero, List.set_cons_succ, rdVar_some, rb_ok, rb_exn, any_str, any_tup, any_int, any_bl, any_non, tr_bl, pur_at, alloc_at, bnd_at, o_add, o_sub, o_lt, o_le, o_gt, o_ge, o_eqI, o_neI, o_eqS, o_isN, chn_t, chn_f, lf_ok, lf_exn, sq_nx, sq_ret, sq_exn, ctx_glo, ctx_call, ctx_ini, opt_some, o_notinS, o_inS, bi_lenT, bi_intI, bi_intB, bi_abs, bi_max, bi_min, bif_tup, bi_tupT, neg_int', sl_tup, nxO_some, putT_nm, putT_tup, putTs_nil, putTs_cons, Option.bind_some, raiO_1, raiO_2, ix_0, ix_1, beq_self_eq_true, Bool.not_true, Bool.not_false, Bool.false_eq_true, ↓reduceIte, Bool.true_and, Bool.false_and, Bool.and_false, Bool.and_true, decide_true, decide_false, wipe_nil, wipe_cons]; rfl) ?_
    refine Nx.step (by simp only [eSs_cons, eS_if, eS_asg, eS_sub, eS_exp, eS_ret, eS_for, eS_rais, eS_brk, eS_cont, eS_pass, ss_nil', eT_or, eT_and, eT_no, eT_isi, eT_var, eT_cst, eT_op, eT_chn, eT_call, eT_bi, eE_isi, eE_var, eE_op, eE_glo, eE_chn, eE_cst, eE_bi, eE_bif, eE_tup, eE_fre, eE_dic0, eE_neg, eE_no, eE_and, eE_or, eE_ite, eE_call, eE_me, eE_sl, eE_rev, eO_non, eO_som, part_int, eEs_cons, eEs_nil, eF_lst, eF_list, eF_lc, eI_e, eI_f, eI_rng1, eI_enu, eI_z2, eI_z3, src_tup, src_rol, enu_tup, zip_tup, zip_tup3, its_items, List.getElem?_cons_zero, List.getElem?_cons_succ, List.set_cons_zero, List.set_cons_succ, rdVar_some, rb_ok, rb_exn, any_str, any_tup, any_int, any_bl, any_non, tr_bl, pur_at, alloc_at, bnd_at, o_add, o_sub, o_lt, o_le, o_gt, o_ge, o_eqI, o_neI, o_eqS, o_isN, chn_t, chn_f, lf_ok, lf_exn, sq_nx, sq_ret, sq_exn, ctx_glo, ctx_call, ctx_ini, opt_some, o_notinS, o_inS, bi_lenT, bi_intI, bi_intB, bi_abs, bi_max, bi_min, bif_tup, bi_tupT, neg_int', sl_tup, nxO_some, putT_nm, putT_tup, putTs_nil, putTs_cons, Option.bind_some, raiO_1, raiO_2, ix_0, ix_1, beq_self_eq_true, Bool.not_true, Bool.not_false, Bool.false_eq_true, ↓reduceIte, Bool.true_and, Bool.false_and, Bool.and_false, Bool.and_true, decide_true, decide_false, wipe_nil, wipe_cons]; rfl) ?_
    have L7 : (S6 ++ [O.lst ((List.range m').map fun i => D.int (fl i))])[S6.length]? = some (.lst ((List.range m').map fun i => D.int (fl i))) := get_app
    refine Nx.forR (m := m') (em := fun (i : Nat) => .int (i : Int)) (S' := S6 ++ [O.lst ((List.range m').map fun i => D.int (fl i))] ++ [.lst []]) (by simp only [hlen, rng_R hmx, eSs_cons, eS_if, eS_asg, eS_sub, eS_exp, eS_ret, eS_for, eS_rais, eS_brk, eS_cont, eS_pass, ss_nil', eT_or, eT_and, eT_no, eT_isi, eT_var, eT_cst, eT_op, eT_chn, eT_call, eT_bi, eE_isi, eE_var, eE_op, eE_glo, eE_chn, eE_cst, eE_bi, eE_bif, eE_tup, eE_fre, eE_dic0, eE_neg, eE_no, eE_and, eE_or, eE_ite, eE_call, eE_me, eE_sl, eE_rev, eO_non, eO_som, part_int, eEs_cons, eEs_nil, eF_lst, eF_list, eF_lc, eI_e, eI_f, eI_rng1, eI_enu, eI_z2, eI_z3, src_tup, src_rol, enu_tup, zip_tup, zip_tup3, its_items, List.getElem?_cons_zero, List.getElem?_cons_succ, List.set_cons_zero, List.set_cons_succ, rdVar_some, rb_ok, rb_exn, any_str, any_tup, any_int, any_bl, any_non, tr_bl, pur_at, alloc_at, bnd_at, o_add, o_sub, o_lt, o_le, o_gt, o_ge, o_eqI, o_neI, o_eqS, o_isN, chn_t, chn_f, lf_ok, lf_exn, sq_nx, sq_ret, sq_exn, ctx_glo, ctx_call, ctx_ini, opt_some, o_notinS, o_inS, bi_lenT, bi_intI, bi_intB, bi_abs, bi_max, bi_min, bif_tup, bi_tupT, neg_int', sl_tup, nxO_some, putT_nm, putT_tup, putTs_nil, putTs_cons, Option.bind_some, raiO_1, raiO_2, ix_0, ix_1, beq_self_eq_true, Bool.not_true, Bool.not_false, Bool.false_eq_true, ↓reduceIte, Bool.true_and, Bool.false_and, Bool.and_false, Bool.and_true, decide_true, decide_false, wipe_nil, wipe_cons])
      (fun j δ S' => (∃ x10, δ = [some (.ref t), some (.ref a), some (dL m w z), some (dL m' w zz), some (.int (i : Int)), some (dI m' f), some (dI m' h), some (.ref S6.length), some (.ref (S6 ++ [O.lst ((List.range m').map fun i => D.int (fl i))]).length), some (.bl ((List.range j).all fun i => decide (lcF2 zz f h i ≤ (popN (fl i).toNat : Int)))), x10, x11, x12]) ∧ S' = S6 ++ [O.lst ((List.range m').map fun i => D.int (fl i))] ++ [.lst ((List.range j).map fun i => .int (lcF2 zz f h i))]) ?_ ⟨⟨_, rfl⟩, rfl⟩ ?_
    · rintro j δ S' hj ⟨⟨x10, rfl⟩, rfl⟩
      have hzj := hz j hj
      have hfj := hf j hj
      have hhj := hh j hj
      have hlj := hfl j hj
      rw [forB_at (δ' := [some (.ref t), some (.ref a), some (dL m w z), some (dL m' w zz), some (.int (i : Int)), some (dI m' f), some (dI m' h), some (.ref S6.length), some (.ref (S6 ++ [O.lst ((List.range m').map fun i => D.int (fl i))]).length), some (.bl ((List.range j).all fun i => decide (lcF2 zz f h i ≤ (popN (fl i).toNat : Int)))), some (.int (j : Int)), x11, x12]) rfl]
      have ev : ((fewN (zz j).toNat (f j).toNat (h j).toNat : Nat) : Int) = lcF2 zz f h j := by
        rw [few_eq (by omega) (by omega) (by omega)]
        unfold lcF2 mx0
        split <;> omega
      have few := fun S => fewest_ok HP (fu := fu) (n := n + 3) (S := S) (s := (zz j).toNat) (f := (f j).toNat) (h := (h j).toNat) (by omega)
      rw [ev, Int.toNat_of_nonneg (by omega), Int.toNat_of_nonneg hfj.1, Int.toNat_of_nonneg hhj.1] at few
      have l31 : (fl j).toNat ≤ 31 := by
        have h1 := hlj.2
        have h2 : 2 ^ (zz j).toNat ≤ 2 ^ 5 := Nat.pow_le_pow_right (by decide) (by omega)
        omega
      have fit := fun S => fits_ok HP (fu := fu) (n := n + 3) (S := S) (s := (zz j).toNat) (f := (f j).toNat) (h := (h j).toNat) (fall := (fl j).toNat) (by omega) l31
      have ev2 : fitsN (zz j).toNat (f j).toNat (h j).toNat (fl j).toNat = decide (lcF2 zz f h j ≤ (popN (fl j).toNat : Int)) := by
        rw [fits_eq (by omega) (by omega) (by omega) hlj.2, ← ev, few_eq (by omega) (by omega) (by omega)]
        rw [decide_eq_decide]
        omega
      rw [ev2, Int.toNat_of_nonneg (by omega), Int.toNat_of_nonneg hfj.1, Int.toNat_of_nonneg hhj.1, Int.toNat_of_nonneg hlj.1] at fit
      have g8 : (S6 ++ [O.lst ((List.range m').map fun i => D.int (fl i))] ++ [O.lst ((List.range j).map fun i => D.int (lcF2 zz f h i))])[(S6 ++ [O.lst ((List.range m').map fun i => D.int (fl i))]).length]? = some (.lst ((List.range j).map fun i => D.int (lcF2 zz f h i))) := get_app
      have hap : meD .append (.ref (S6 ++ [O.lst ((List.range m').map fun i => D.int (fl i))]).length) [.int (lcF2 zz f h j)] (S6 ++ [O.lst ((List.range m').map fun i => D.int (fl i))] ++ [O.lst ((List.range j).map fun i => D.int (lcF2 zz f h i))]) = .ok .non (S6 ++ [O.lst ((List.range m').map fun i => D.int (fl i))] ++ [O.lst ((List.range (j + 1)).map fun i => D.int (lcF2 zz f h i))]) := by
        rw [app_L g8 (by rw [len_R]; exact Nat.lt_of_lt_of_le hj hmx), set_app, range_app (f := fun i => D.int (lcF2 zz f h i))]
      refine Nx.step (by simp only [isL_L g8, ixz hj, ixf hj, ixh hj, few, hap, eE_me, eSs_cons, eS_if, eS_asg, eS_sub, eS_exp, eS_ret, eS_for, eS_rais, eS_brk, eS_cont, eS_pass, ss_nil', eT_or, eT_and, eT_no, eT_isi, eT_var, eT_cst, eT_op, eT_chn, eT_call, eT_bi, eE_isi, eE_var, eE_op, eE_glo, eE_chn, eE_cst, eE_bi, eE_bif, eE_tup, eE_fre, eE_dic0, eE_neg, eE_no, eE_and, eE_or, eE_ite, eE_call, eE_me, eE_sl, eE_rev, eO_non, eO_som, part_int, eEs_cons, eEs_nil, eF_lst, eF_list, eF_lc, eI_e, eI_f, eI_rng1, eI_enu, eI_z2, eI_z3, src_tup, src_rol, enu_tup, zip_tup, zip_tup3, its_items, List.getElem?_cons_zero, List.getElem?_cons_succ, List.set_cons_zero, List.set_cons_succ, rdVar_some, rb_ok, rb_exn, any_str, any_tup, any_int, any_bl, any_non, tr_bl, pur_at, alloc_at, bnd_at, o_add, o_sub, o_lt, o_le, o_gt, o_ge, o_eqI, o_neI, o_eqS, o_isN, chn_t, chn_f, lf_ok, lf_exn, sq_nx, sq_ret, sq_exn, ctx_glo, ctx_call, ctx_ini, opt_some, o_notinS, o_inS, bi_lenT, bi_intI, bi_intB, bi_abs, bi_max, bi_min, bif_tup, bi_tupT, neg_int', sl_tup, nxO_some, putT_nm, putT_tup, putTs_nil, putTs_cons, Option.bind_some, raiO_1, raiO_2, ix_0, ix_1, beq_self_eq_true, Bool.not_true, Bool.not_false, Bool.false_eq_true, ↓reduceIte, Bool.true_and, Bool.false_and, Bool.and_false, Bool.and_true, decide_true, decide_false, wipe_nil, wipe_cons]; rfl) ?_
      have g7 : opD .ix (.ref S6.length) (.int (j : Int)) (S6 ++ [O.lst ((List.range m').map fun i => D.int (fl i))] ++ [O.lst ((List.range (j + 1)).map fun i => D.int (lcF2 zz f h i))]) = .ok (.int (fl j)) _ := o_ixL (by rw [List.getElem?_append_left (by simp)]; exact L7) (atI_R hj)
      have hall : ((List.range (j + 1)).all fun i => decide (lcF2 zz f h i ≤ (popN (fl i).toNat : Int))) = (((List.range j).all fun i => decide (lcF2 zz f h i ≤ (popN (fl i).toNat : Int))) && decide (lcF2 zz f h j ≤ (popN (fl j).toNat : Int))) := by
        rw [List.range_succ, List.all_append]
        simp only [List.all_cons, List.all_nil, Bool.and_true]
      rw [hall]
      cases (List.range j).all fun i => decide (lcF2 zz f h i ≤ (popN (fl i).toNat : Int)) with
      | true =>
        simp only [ixz hj, ixf hj, ixh hj, g7, fit, eSs_cons, eS_if, eS_asg, eS_sub, eS_exp, eS_ret, eS_for, eS_rais, eS_brk, eS_cont, eS_pass, ss_nil', eT_or, eT_and, eT_no, eT_isi, eT_var, eT_cst, eT_op, eT_chn, eT_call, eT_bi, eE_isi, eE_var, eE_op, eE_glo, eE_chn, eE_cst, eE_bi, eE_bif, eE_tup, eE_fre, eE_dic0, eE_neg, eE_no, eE_and, eE_or, eE_ite, eE_call, eE_me, eE_sl, eE_rev, eO_non, eO_som, part_int, eEs_cons, eEs_nil, eF_lst, eF_list, eF_lc, eI_e, eI_f, eI_rng1, eI_enu, eI_z2, eI_z3, src_tup, src_rol, enu_tup, zip_tup, zip_tup3, its_items, List.getElem?_cons_zero, List.getElem?_cons_succ, List.set_cons_zero, List.set_cons_succ, rdVar_some, rb_ok, rb_exn, any_str, any_tup, any_int, any_bl, any_non, tr_bl, pur_at, alloc_at, bnd_at, o_add, o_sub, o_lt, o_le, o_gt, o_ge, o_eqI, o_neI, o_eqS, o_isN, chn_t, chn_f, lf_ok, lf_exn, sq_nx, sq_ret, sq_exn, ctx_glo, ctx_call, ctx_ini, opt_some, o_notinS, o_inS, bi_lenT, bi_intI, bi_intB, bi_abs, bi_max, bi_min, bif_tup, bi_tupT, neg_int', sl_tup, nxO_some, putT_nm, putT_tup, putTs_nil, putTs_cons, Option.bind_some, raiO_1, raiO_2, ix_0, ix_1, beq_self_eq_true, Bool.not_true, Bool.not_false, Bool.false_eq_true, ↓reduceIte, Bool.true_and, Bool.false_and, Bool.and_false, Bool.and_true, decide_true, decide_false, wipe_nil, wipe_cons]
        exact ⟨_, _, rfl, ⟨_, rfl⟩, rfl⟩
      | false =>
        simp only [eSs_cons, eS_if, eS_asg, eS_sub, eS_exp, eS_ret, eS_for, eS_rais, eS_brk, eS_cont, eS_pass, ss_nil', eT_or, eT_and, eT_no, eT_isi, eT_var, eT_cst, eT_op, eT_chn, eT_call, eT_bi, eE_isi, eE_var, eE_op, eE_glo, eE_chn, eE_cst, eE_bi, eE_bif, eE_tup, eE_fre, eE_dic0, eE_neg, eE_no, eE_and, eE_or, eE_ite, eE_call, eE_me, eE_sl, eE_rev, eO_non, eO_som, part_int, eEs_cons, eEs_nil, eF_lst, eF_list, eF_lc, eI_e, eI_f, eI_rng1, eI_enu, eI_z2, eI_z3, src_tup, src_rol, enu_tup, zip_tup, zip_tup3, its_items, List.getElem?_cons_zero, List.getElem?_cons_succ, List.set_cons_zero, List.set_cons_succ, rdVar_some, rb_ok, rb_exn, any_str, any_tup, any_int, any_bl, any_non, tr_bl, pur_at, alloc_at, bnd_at, o_add, o_sub, o_lt, o_le, o_gt, o_ge, o_eqI, o_neI, o_eqS, o_isN, chn_t, chn_f, lf_ok, lf_exn, sq_nx, sq_ret, sq_exn, ctx_glo, ctx_call, ctx_ini, opt_some, o_notinS, o_inS, bi_lenT, bi_intI, bi_intB, bi_abs, bi_max, bi_min, bif_tup, bi_tupT, neg_int', sl_tup, nxO_some, putT_nm, putT_tup, putTs_nil, putTs_cons, Option.bind_some, raiO_1, raiO_2, ix_0, ix_1, beq_self_eq_true, Bool.not_true, Bool.not_false, Bool.false_eq_true, ↓reduceIte, Bool.true_and, Bool.false_and, Bool.and_false, Bool.and_true, decide_true, decide_false, wipe_nil, wipe_cons]
        exact ⟨_, _, rfl, ⟨_, rfl⟩, rfl⟩
    · rintro δ S' ⟨⟨x10, rfl⟩, rfl⟩
      have g8 : (S6 ++ [O.lst ((List.range m').map fun i => D.int (fl i))] ++ [O.lst ((List.range m').map fun i => D.int (lcF2 zz f h i))])[(S6 ++ [O.lst ((List.range m').map fun i => D.int (fl i))]).length]? = some (.lst ((List.range m').map fun i => D.int (lcF2 zz f h i))) := get_app
      have g7 : (S6 ++ [O.lst ((List.range m').map fun i => D.int (fl i))] ++ [O.lst ((List.range m').map fun i => D.int (lcF2 zz f h i))])[S6.length]? = some (.lst ((List.range m').map fun i => D.int (fl i))) := by rw [List.getElem?_append_left (by simp)]; exact L7
      have M7 : Mem (S6 ++ [O.lst ((List.range m').map fun i => D.int (fl i))] ++ [O.lst ((List.range m').map fun i => D.int (lcF2 zz f h i))]) t g a bs3 := (M6.app _).app _
      have E7 : Ext t g a S (S6 ++ [O.lst ((List.range m').map fun i => D.int (fl i))] ++ [O.lst ((List.range m').map fun i => D.int (lcF2 zz f h i))]) := (E6.trans (Ext.app _)).trans (Ext.app _)
      have al := M6.alt
      have an7 : a ≠ S6.length := by omega
      have an8 : a ≠ (S6 ++ [O.lst ((List.range m').map fun i => D.int (fl i))]).length := by rw [List.length_append]; omega
      generalize (S6 ++ [O.lst ((List.range m').map fun i => D.int (fl i))]).length = n8 at g8 an8 ⊢
      generalize (S6 ++ [O.lst ((List.range m').map fun i => D.int (fl i))] ++ [O.lst ((List.range m').map fun i => D.int (lcF2 zz f h i))]) = S7 at g7 g8 M7 E7 ⊢
      obtain ⟨b0, b1, b2, b3, rfl, q0, q1, q2, q3⟩ := A3
      have tl := told_least HP (fu := fu) (n := n + 1) (S := S7) G' F4 F5
      have tp : biD .tuple [.ref n8] S7 = .ok (dI m' (lcF2 zz f h)) S7 := bi_tupL g8
      have hs := same_I HP (fu := fu) (n := n + 1) (S := S7) (f := lcF2 zz f h) hmx
      refine Nx.step (by simp only [show D.str [116, 111, 108, 100] = sTold from rfl, tl, tp, hs, eSs_cons, eS_if, eS_asg, eS_sub, eS_exp, eS_ret, eS_for, eS_rais, eS_brk, eS_cont, eS_pass, ss_nil', eT_or, eT_and, eT_no, eT_isi, eT_var, eT_cst, eT_op, eT_chn, eT_call, eT_bi, eE_isi, eE_var, eE_op, eE_glo, eE_chn, eE_cst, eE_bi, eE_bif, eE_tup, eE_fre, eE_dic0, eE_neg, eE_no, eE_and, eE_or, eE_ite, eE_call, eE_me, eE_sl, eE_rev, eO_non, eO_som, part_int, eEs_cons, eEs_nil, eF_lst, eF_list, eF_lc, eI_e, eI_f, eI_rng1, eI_enu, eI_z2, eI_z3, src_tup, src_rol, enu_tup, zip_tup, zip_tup3, its_items, List.getElem?_cons_zero, List.getElem?_cons_succ, List.set_cons_zero, List.set_cons_succ, rdVar_some, rb_ok, rb_exn, any_str, any_tup, any_int, any_bl, any_non, tr_bl, pur_at, alloc_at, bnd_at, o_add, o_sub, o_lt, o_le, o_gt, o_ge, o_eqI, o_neI, o_eqS, o_isN, chn_t, chn_f, lf_ok, lf_exn, sq_nx, sq_ret, sq_exn, ctx_glo, ctx_call, ctx_ini, opt_some, o_notinS, o_inS, bi_lenT, bi_intI, bi_intB, bi_abs, bi_max, bi_min, bif_tup, bi_tupT, neg_int', sl_tup, nxO_some, putT_nm, putT_tup, putTs_nil, putTs_cons, Option.bind_some, raiO_1, raiO_2, ix_0, ix_1, beq_self_eq_true, Bool.not_true, Bool.not_false, Bool.false_eq_true, ↓reduceIte, Bool.true_and, Bool.false_and, Bool.and_false, Bool.and_true, decide_true, decide_false, wipe_nil, wipe_cons]; rfl) ?_
      have ix : opD .ix (.ref a) (.int 2) S7 = .ok (.int b2) S7 := o_ixL M7.ha rfl
      have pt : setItem (.ref a) (.int 2) (.int (b2 + 1)) S7 = .ok () (S7.set a (.lst ([b0, b1, b2 + 1, b3].map D.int))) := put_L (S := S7) (v := .int (b2 + 1)) (k := 2) (j := 2) M7.ha rfl
      have M8 := M7.setA [b0, b1, b2 + 1, b3]
      have E8 : Ext t g a S (S7.set a (.lst ([b0, b1, b2 + 1, b3].map D.int))) := E7.trans (Fr.setA _).ext
      refine Nx.step (by simp only [ix, pt, eSs_cons, eS_if, eS_asg, eS_sub, eS_exp, eS_ret, eS_for, eS_rais, eS_brk, eS_cont, eS_pass, ss_nil', eT_or, eT_and, eT_no, eT_isi, eT_var, eT_cst, eT_op, eT_chn, eT_call, eT_bi, eE_isi, eE_var, eE_op, eE_glo, eE_chn, eE_cst, eE_bi, eE_bif, eE_tup, eE_fre, eE_dic0, eE_neg, eE_no, eE_and, eE_or, eE_ite, eE_call, eE_me, eE_sl, eE_rev, eO_non, eO_som, part_int, eEs_cons, eEs_nil, eF_lst, eF_list, eF_lc, eI_e, eI_f, eI_rng1, eI_enu, eI_z2, eI_z3, src_tup, src_rol, enu_tup, zip_tup, zip_tup3, its_items, List.getElem?_cons_zero, List.getElem?_cons_succ, List.set_cons_zero, List.set_cons_succ, rdVar_some, rb_ok, rb_exn, any_str, any_tup, any_int, any_bl, any_non, tr_bl, pur_at, alloc_at, bnd_at, o_add, o_sub, o_lt, o_le, o_gt, o_ge, o_eqI, o_neI, o_eqS, o_isN, chn_t, chn_f, lf_ok, lf_exn, sq_nx, sq_ret, sq_exn, ctx_glo, ctx_call, ctx_ini, opt_some, o_notinS, o_inS, bi_lenT, bi_intI, bi_intB, bi_abs, bi_max, bi_min, bif_tup, bi_tupT, neg_int', sl_tup, nxO_some, putT_nm, putT_tup, putTs_nil, putTs_cons, Option.bind_some, raiO_1, raiO_2, ix_0, ix_1, beq_self_eq_true, Bool.not_true, Bool.not_false, Bool.false_eq_true, ↓reduceIte, Bool.true_and, Bool.false_and, Bool.and_false, Bool.and_true, decide_true, decide_false, wipe_nil, wipe_cons]; rfl) ?_
      have g7' : (S7.set a (.lst ([b0, b1, b2 + 1, b3].map D.int)))[S6.length]? = some (.lst ((List.range m').map fun i => D.int (fl i))) := by rw [List.getElem?_set_ne an7]; exact g7
      have g8' : (S7.set a (.lst ([b0, b1, b2 + 1, b3].map D.int)))[n8]? = some (.lst ((List.range m').map fun i => D.int (lcF2 zz f h i))) := by rw [List.getElem?_set_ne an8]; exact g8
      generalize S7.set a (.lst ([b0, b1, b2 + 1, b3].map D.int)) = S8 at g7' g8' M8 E8 ⊢
      have tp : biD .tuple [.ref n8] S8 = .ok (dI m' (lcF2 zz f h)) S8 := bi_tupL g8'
      have Fp : FitC m' zz fun i => (popN (fl i).toNat : Int) := fun i hi => by
        have h1 := hfl i hi
        have h2 := hz i hi
        have := pop_le' (s := (zz i).toNat) (k := (fl i).toNat) (by omega) h1.2
        exact ⟨show (0 : Int) ≤ (popN (fl i).toNat : Int) by omega, show (popN (fl i).toNat : Int) ≤ zz i by omega⟩
      have tb := told_below HP (fu := fu) (n := n + 1) (S := S8) G' (fit_part F4 F5) Fp
      have hs := same5 HP (fu := fu) (n := n + 1) (S := S8) (d := .tup [sTold, .bl (leR m' (lcF2 zz f h) fun i => (popN (fl i).toNat : Int))]) (Pl.pair .str .bl)
      have hFl : ∀ x10 b, evF (ctx P fu (callN P fu (n + 6))) [some (.ref t), some (.ref a), some (dL m w z), some (dL m' w zz), some (.int (i : Int)), some (dI m' f), some (dI m' h), some (.ref S6.length), some (.ref n8), some (.bl b), x10, x11, x12] (.lc [12] (.call "_law_bits" (.cons (.var 12) .nil)) (.nm 12) (.e (.var 7)) .nil) S8 = .ok ((List.range m').map fun i => D.int (popN (fl i).toNat : Int)) S8 := fun x10 b => by
        have hi : evI (ctx P fu (callN P fu (n + 6))) [some (.ref t), some (.ref a), some (dL m w z), some (dL m' w zz), some (.int (i : Int)), some (dI m' f), some (dI m' h), some (.ref S6.length), some (.ref n8), some (.bl b), x10, x11, x12] (.e (.var 7)) S8 = .ok (.loc S6.length ((List.range m').map fun i => D.int (fl i))) S8 := by
          simp only [src_ref g7', eSs_cons, eS_if, eS_asg, eS_sub, eS_exp, eS_ret, eS_for, eS_rais, eS_brk, eS_cont, eS_pass, ss_nil', eT_or, eT_and, eT_no, eT_isi, eT_var, eT_cst, eT_op, eT_chn, eT_call, eT_bi, eE_isi, eE_var, eE_op, eE_glo, eE_chn, eE_cst, eE_bi, eE_bif, eE_tup, eE_fre, eE_dic0, eE_neg, eE_no, eE_and, eE_or, eE_ite, eE_call, eE_me, eE_sl, eE_rev, eO_non, eO_som, part_int, eEs_cons, eEs_nil, eF_lst, eF_list, eF_lc, eI_e, eI_f, eI_rng1, eI_enu, eI_z2, eI_z3, src_tup, src_rol, enu_tup, zip_tup, zip_tup3, its_items, List.getElem?_cons_zero, List.getElem?_cons_succ, List.set_cons_zero, List.set_cons_succ, rdVar_some, rb_ok, rb_exn, any_str, any_tup, any_int, any_bl, any_non, tr_bl, pur_at, alloc_at, bnd_at, o_add, o_sub, o_lt, o_le, o_gt, o_ge, o_eqI, o_neI, o_eqS, o_isN, chn_t, chn_f, lf_ok, lf_exn, sq_nx, sq_ret, sq_exn, ctx_glo, ctx_call, ctx_ini, opt_some, o_notinS, o_inS, bi_lenT, bi_intI, bi_intB, bi_abs, bi_max, bi_min, bif_tup, bi_tupT, neg_int', sl_tup, nxO_some, putT_nm, putT_tup, putTs_nil, putTs_cons, Option.bind_some, raiO_1, raiO_2, ix_0, ix_1, beq_self_eq_true, Bool.not_true, Bool.not_false, Bool.false_eq_true, ↓reduceIte, Bool.true_and, Bool.false_and, Bool.and_false, Bool.and_true, decide_true, decide_false, wipe_nil, wipe_cons]
        rw [eF_lc, hi, rb_ok]
        show (if ((List.range m').map fun i => D.int (fl i)).length ≤ mx then lcL (.loc S6.length _) _ ((List.range m').map fun i => D.int (fl i)) S8 else .bad) = _
        rw [len_R, if_pos hmx]
        refine lc_R (loc_ok g7') fun i hi => lcF_at rfl ?_
        have hb := bits_ok HP (fu := fu) (n := n + 5) (S := S8) (k := (fl i).toNat)
        rw [Int.toNat_of_nonneg (hfl i hi).1] at hb
        simp only [hb, eSs_cons, eS_if, eS_asg, eS_sub, eS_exp, eS_ret, eS_for, eS_rais, eS_brk, eS_cont, eS_pass, ss_nil', eT_or, eT_and, eT_no, eT_isi, eT_var, eT_cst, eT_op, eT_chn, eT_call, eT_bi, eE_isi, eE_var, eE_op, eE_glo, eE_chn, eE_cst, eE_bi, eE_bif, eE_tup, eE_fre, eE_dic0, eE_neg, eE_no, eE_and, eE_or, eE_ite, eE_call, eE_me, eE_sl, eE_rev, eO_non, eO_som, part_int, eEs_cons, eEs_nil, eF_lst, eF_list, eF_lc, eI_e, eI_f, eI_rng1, eI_enu, eI_z2, eI_z3, src_tup, src_rol, enu_tup, zip_tup, zip_tup3, its_items, List.getElem?_cons_zero, List.getElem?_cons_succ, List.set_cons_zero, List.set_cons_succ, rdVar_some, rb_ok, rb_exn, any_str, any_tup, any_int, any_bl, any_non, tr_bl, pur_at, alloc_at, bnd_at, o_add, o_sub, o_lt, o_le, o_gt, o_ge, o_eqI, o_neI, o_eqS, o_isN, chn_t, chn_f, lf_ok, lf_exn, sq_nx, sq_ret, sq_exn, ctx_glo, ctx_call, ctx_ini, opt_some, o_notinS, o_inS, bi_lenT, bi_intI, bi_intB, bi_abs, bi_max, bi_min, bif_tup, bi_tupT, neg_int', sl_tup, nxO_some, putT_nm, putT_tup, putTs_nil, putTs_cons, Option.bind_some, raiO_1, raiO_2, ix_0, ix_1, beq_self_eq_true, Bool.not_true, Bool.not_false, Bool.false_eq_true, ↓reduceIte, Bool.true_and, Bool.false_and, Bool.and_false, Bool.and_true, decide_true, decide_false, wipe_nil, wipe_cons]
      have hle : ((List.range m').all fun i => decide (lcF2 zz f h i ≤ (popN (fl i).toNat : Int))) = leR m' (lcF2 zz f h) fun i => (popN (fl i).toNat : Int) := rfl
      rw [hle]
      have hbt : biF .tuple ((List.range m').map fun i => D.int (popN (fl i).toNat : Int)) S8 = .ok (dI m' fun i => (popN (fl i).toNat : Int)) S8 := rfl
      refine Nx.step (by
        rw [eS_if, eT_no, eT_call, eE_call, eEs_cons, eE_call, eEs_cons, eE_cst, rb_ok, eEs_cons, eE_var, List.getElem?_cons_succ, List.getElem?_cons_succ, List.getElem?_cons_succ, List.getElem?_cons_zero, rdVar_some, rb_ok, eEs_cons, eE_bi, eEs_cons, eE_var]
        simp only [List.getElem?_cons_succ, List.getElem?_cons_zero, rdVar_some, rb_ok, eEs_nil, eEs_cons, pur_at, tp, eE_bif, hFl, hbt, ctx_call, tb, show D.str [116, 111, 108, 100] = sTold from rfl, eE_tup, eE_cst, eE_var, hs, tr_bl, lf_ok, Bool.not_true, Bool.false_eq_true, ↓reduceIte, ss_nil']
        rfl) ?_
      have fl' := first_last_ok HP (fu := fu) (n := n) (S := S8) G' F4 F5
      simp only [fl', eSs_cons, eS_if, eS_asg, eS_sub, eS_exp, eS_ret, eS_for, eS_rais, eS_brk, eS_cont, eS_pass, ss_nil', eT_or, eT_and, eT_no, eT_isi, eT_var, eT_cst, eT_op, eT_chn, eT_call, eT_bi, eE_isi, eE_var, eE_op, eE_glo, eE_chn, eE_cst, eE_bi, eE_bif, eE_tup, eE_fre, eE_dic0, eE_neg, eE_no, eE_and, eE_or, eE_ite, eE_call, eE_me, eE_sl, eE_rev, eO_non, eO_som, part_int, eEs_cons, eEs_nil, eF_lst, eF_list, eF_lc, eI_e, eI_f, eI_rng1, eI_enu, eI_z2, eI_z3, src_tup, src_rol, enu_tup, zip_tup, zip_tup3, its_items, List.getElem?_cons_zero, List.getElem?_cons_succ, List.set_cons_zero, List.set_cons_succ, rdVar_some, rb_ok, rb_exn, any_str, any_tup, any_int, any_bl, any_non, tr_bl, pur_at, alloc_at, bnd_at, o_add, o_sub, o_lt, o_le, o_gt, o_ge, o_eqI, o_neI, o_eqS, o_isN, chn_t, chn_f, lf_ok, lf_exn, sq_nx, sq_ret, sq_exn, ctx_glo, ctx_call, ctx_ini, opt_some, o_notinS, o_inS, bi_lenT, bi_intI, bi_intB, bi_abs, bi_max, bi_min, bif_tup, bi_tupT, neg_int', sl_tup, nxO_some, putT_nm, putT_tup, putTs_nil, putTs_cons, Option.bind_some, raiO_1, raiO_2, ix_0, ix_1, beq_self_eq_true, Bool.not_true, Bool.not_false, Bool.false_eq_true, ↓reduceIte, Bool.true_and, Bool.false_and, Bool.and_false, Bool.and_true, decide_true, decide_false, wipe_nil, wipe_cons]
      exact ⟨_, _, rfl, ⟨_, _, _, _, _, _, _, _, _, rfl⟩, [b0, b1, b2 + 1, b3], M8, ⟨_, _, _, _, rfl, q0, q1, by omega, q3⟩, E8⟩
  · rintro δ S' ⟨⟨x4, x5, x6, x7, x8, x9, x10, x11, x12, rfl⟩, bs', M', A', E'⟩
    simp only [eSs_cons, eS_if, eS_asg, eS_sub, eS_exp, eS_ret, eS_for, eS_rais, eS_brk, eS_cont, eS_pass, ss_nil', eT_or, eT_and, eT_no, eT_isi, eT_var, eT_cst, eT_op, eT_chn, eT_call, eT_bi, eE_isi, eE_var, eE_op, eE_glo, eE_chn, eE_cst, eE_bi, eE_bif, eE_tup, eE_fre, eE_dic0, eE_neg, eE_no, eE_and, eE_or, eE_ite, eE_call, eE_me, eE_sl, eE_rev, eO_non, eO_som, part_int, eEs_cons, eEs_nil, eF_lst, eF_list, eF_lc, eI_e, eI_f, eI_rng1, eI_enu, eI_z2, eI_z3, src_tup, src_rol, enu_tup, zip_tup, zip_tup3, its_items, List.getElem?_cons_zero, List.getElem?_cons_succ, List.set_cons_zero, List.set_cons_succ, rdVar_some, rb_ok, rb_exn, any_str, any_tup, any_int, any_bl, any_non, tr_bl, pur_at, alloc_at, bnd_at, o_add, o_sub, o_lt, o_le, o_gt, o_ge, o_eqI, o_neI, o_eqS, o_isN, chn_t, chn_f, lf_ok, lf_exn, sq_nx, sq_ret, sq_exn, ctx_glo, ctx_call, ctx_ini, opt_some, o_notinS, o_inS, bi_lenT, bi_intI, bi_intB, bi_abs, bi_max, bi_min, bif_tup, bi_tupT, neg_int', sl_tup, nxO_some, putT_nm, putT_tup, putTs_nil, putTs_cons, Option.bind_some, raiO_1, raiO_2, ix_0, ix_1, beq_self_eq_true, Bool.not_true, Bool.not_false, Bool.false_eq_true, ↓reduceIte, Bool.true_and, Bool.false_and, Bool.and_false, Bool.and_true, decide_true, decide_false, wipe_nil, wipe_cons]
    exact ⟨_, _, rfl, bs', ⟨rfl, A'⟩, rfl, M', E'⟩
end
end K03

set_option Elab.async false
set_option linter.all false
set_option maxRecDepth 100000
set_option maxHeartbeats 4000000
/-! k03: faults told. -/
namespace K03
open Mi
def zsOf (m : Nat) (w : Nat → List Nat) (z : Nat → Int) : List Int := ((List.range m).map fun i => (w i, z i)).map (·.2)
theorem zs_len {m : Nat} {w : Nat → List Nat} {z : Nat → Int} : (zsOf m w z).length = m := by
  unfold zsOf
  rw [List.length_map, List.length_map, List.length_range]
/-- wrong counts, the place -/
def WOK (N m : Nat) (w : Nat → List Nat) (z : Nat → Int) (d : D) : Prop := ∃ c i, d = .tup [c, .int i] ∧ c.bel N = true ∧ cntD (zsOf m w z) c = some i
/-- lots that are wrong -/
def lotsSane (d : D) : Prop := ∀ ds, d = .tup ds → ds.length ≤ mx ∧ ∀ x ∈ ds, lotSane x
def LBad (N : Nat) (d : D) (i : Int) (s : List Nat) : Prop := d.bel N = true ∧ lotsSane d ∧ ∃ e, chkD d = some (i, e) ∧ codeS e = s
theorem cnt_len {m : Nat} {w : Nat → List Nat} {z : Nat → Int} {cs : List D} (h : cs.length ≠ m) : cntD (zsOf m w z) (.tup cs) = some (-1) := by
  show (if cs.length = (zsOf m w z).length then _ else some (-1)) = some (-1)
  rw [if_neg (by rw [zs_len]; exact h)]
theorem cnt_upd {m k : Nat} {w : Nat → List Nat} {z f : Nat → Int} {x : D} (hf : FitC m z f) (hk : k < m) (hx : (isN x && leB (z k) x) = false) : cntD (zsOf m w z) (mR m (upd (fun i => .int (f i)) k x)) = some (k : Int) := by
  refine cnt_bad hk (fun i hi => ?_) ?_
  · have : upd (fun i => D.int (f i)) k x i = .int (f i) := by unfold upd; rw [if_neg (by omega)]
    rw [this]
    have := hf i (by omega)
    exact ⟨decide_eq_true this.1, decide_eq_true this.2⟩
  · have : upd (fun i => D.int (f i)) k x k = x := by unfold upd; rw [if_pos rfl]
    rw [this]
    exact hx
theorem lbad_with {m k : Nat} {w : Nat → List Nat} {z : Nat → Int} {x : D} {e : String} (G : GL m w z) (hk : k < m) (hx : lotF ((List.range k).map w) x = .inl e) : chkD (mR m (upd (fun i => .tup [.str (w i), .int (z i)]) k x)) = some ((k : Int), e) := by
  have h1 := lots_pref (w := w) (z := z) (rest := x :: ((List.range m).map fun i => D.tup [.str (w i), .int (z i)]).drop (k + 1)) (List.range k) [] 0 (fun i hi => ⟨G.word i (by have := List.mem_range.mp hi; omega), G.size i (by have := List.mem_range.mp hi; omega)⟩) (by simpa using nodup_w (Nat.le_of_lt hk) G.inj)
  have h2 : (List.range k).map (fun i => D.tup [.str (w i), .int (z i)]) ++ x :: ((List.range m).map fun i => D.tup [.str (w i), .int (z i)]).drop (k + 1) = (List.range m).map (upd (fun i => .tup [.str (w i), .int (z i)]) k x) := by
    rw [← with_eq hk, List.append_assoc]
    rfl
  rw [h2] at h1
  have h3 : ∃ d ds, (List.range m).map (upd (fun i => .tup [.str (w i), .int (z i)]) k x) = d :: ds := by
    obtain ⟨p, hp⟩ : ∃ p, m = p + 1 := ⟨m - 1, by omega⟩
    rw [hp, List.range_succ_eq_map]
    exact ⟨_, _, rfl⟩
  obtain ⟨d, ds, hd⟩ := h3
  show chkD (.tup ((List.range m).map (upd (fun i => .tup [.str (w i), .int (z i)]) k x))) = _
  rw [hd] at h1 ⊢
  show (lotsF [] 0 (d :: ds)).map _ = _
  rw [h1, List.nil_append, Nat.zero_add, List.length_range]
  show (match lotF ((List.range k).map w) x with
    | .inl e => some (k, e)
    | .inr w' => lotsF ((List.range k).map w ++ [w']) (k + 1) (((List.range m).map fun i => D.tup [.str (w i), .int (z i)]).drop (k + 1))).map _ = _
  rw [hx]
  rfl
theorem not_before {m k : Nat} {w : Nat → List Nat} {z : Nat → Int} (G : GL m w z) (hk : k < m) : ((List.range k).map w).contains (w k) = false := by
  rw [← Bool.not_eq_true, List.contains_iff_mem]
  intro h
  obtain ⟨i, hi, e⟩ := List.mem_map.mp h
  have hi := List.mem_range.mp hi
  have := G.inj i k (by omega) hk e
  omega
theorem sane_with {m k : Nat} {w : Nat → List Nat} {z : Nat → Int} {x : D} (G : GL m w z) (hx : lotSane x) : lotsSane (mR m (upd (fun i => .tup [.str (w i), .int (z i)]) k x)) := by
  intro ds e
  have e : (List.range m).map (upd (fun i => .tup [.str (w i), .int (z i)]) k x) = ds := D.tup.inj e
  subst e
  refine ⟨by rw [len_R]; exact G.top, fun y hy => ?_⟩
  obtain ⟨i, hi, rfl⟩ := List.mem_map.mp hy
  unfold upd
  split
  · exact hx
  · exact Nat.le_trans (word_len (G.word i (List.mem_range.mp hi))) (by decide)
section
variable {P : Prog} (HP : HasL P) {fu n : Nat} {S : Store} {m : Nat} {w : Nat → List Nat} {z f : Nat → Int}
include HP
theorem tc1 (G : GL m w z) {k : Wh} (hk : k = .least ∨ k = .below ∨ k = .outside ∨ k = .first) {c x : D} {i : Int} (hb : c.bel S.length = true) (hc : cntD (zsOf m w z) c = some i) : callN P fu (n + 5) "_law_told" [.str k.code, dL m w z, c, x] S = .ok (.tup [sCounts, .int i]) S := by
  refine told_counts HP ?_
  have h1 := chk_ok HP.toHas (fu := fu) (n := n + 1) (S := S) G
  have h2 := need_bad HP.toHas (fu := fu) (n := n) (S := S) (w := w) (z := z) hb hc
  rcases hk with rfl | rfl | rfl | rfl
  · exact fault_two HP.toHas "least_common" _ HP.f_least_common _ rfl rfl h1 h2 rfl
  · exact fault_two HP.toHas "below" _ HP.f_below _ rfl rfl h1 h2 rfl
  · exact fault_two HP.toHas "outside" _ HP.f_outside _ rfl rfl h1 h2 rfl
  · exact fault_two HP.toHas "first_houses" _ HP.f_first_houses _ rfl rfl h1 h2 rfl
theorem tc2 (G : GL m w z) (hf : FitC m z f) {k : Wh} (hk : k = .least ∨ k = .below) {c : D} {i : Int} (hb : c.bel S.length = true) (hc : cntD (zsOf m w z) c = some i) : callN P fu (n + 5) "_law_told" [.str k.code, dL m w z, dI m f, c] S = .ok (.tup [sCounts, .int i]) S := by
  refine told_counts HP ?_
  have h1 := chk_ok HP.toHas (fu := fu) (n := n + 1) (S := S) G
  obtain ⟨u, h2⟩ := need_good HP.toHas (fu := fu) (n := n) (S := S) (w := w) hf
  have h3 := need_bad HP.toHas (fu := fu) (n := n) (S := S) (w := w) (z := z) hb hc
  rcases hk with rfl | rfl
  · exact fault_three HP.toHas "least_common" _ HP.f_least_common _ rfl rfl h1 h2 h3 rfl
  · exact fault_three HP.toHas "below" _ HP.f_below _ rfl rfl h1 h2 h3 rfl
theorem tl {k : Wh} {d x y : D} {i : Int} {s : List Nat} (h : LBad S.length d i s) : callN P fu (n + 5) "_law_told" [.str k.code, d, x, y] S = .ok (.tup [sLots, .int i, .str s]) S := by
  obtain ⟨hb, hs, e, hc, rfl⟩ := h
  refine told_lots HP ?_
  have h1 := check_lots_ok HP.toHas (fu := fu) (n := n + 1) (S := S) hb hs
  rw [hc] at h1
  cases k with
  | least => exact fault_one HP.toHas "least_common" _ HP.f_least_common _ rfl rfl h1 rfl
  | below => exact fault_one HP.toHas "below" _ HP.f_below _ rfl rfl h1 rfl
  | outside => exact fault_one HP.toHas "outside" _ HP.f_outside _ rfl rfl h1 rfl
  | first => exact fault_one HP.toHas "first_houses" _ HP.f_first_houses _ rfl rfl h1 rfl
  | every => exact fault_one HP.toHas "everyone" _ HP.f_everyone _ rfl rfl h1 rfl
  | nobody => exact fault_one HP.toHas "nobody" _ HP.f_nobody _ rfl rfl h1 rfl
end
end K03

set_option Elab.async false
set_option linter.all false
set_option maxRecDepth 100000
set_option maxHeartbeats 4000000
/-! k03: wrong counts, wrong lots. -/
namespace Mi
theorem Ext.setN {t g a n : Nat} {S S' : Store} {o : O} (h : Ext t g a S S') (hn : S.length ≤ n) : Ext t g a S (S'.set n o) := ⟨by rw [List.length_set]; exact h.le, fun k hk h1 h2 h3 => by rw [List.getElem?_set_ne (by omega)]; exact h.same k hk h1 h2 h3⟩
theorem ix_2 {x y w : D} {ds : List D} {S : Store} : opD .ix (.tup (x :: y :: w :: ds)) (.int 2) S = .ok w S := o_ixT (atI_nat (k := 2) rfl)
theorem bel_row {N m : Nat} {f : Nat → Int} {k : Nat} {x : D} (hx : x.bel N = true) : (mR m (upd (fun i => .int (f i)) k x)).bel N = true := bels_R fun i _ => by
  unfold upd
  split
  · exact hx
  · rfl
end Mi
namespace K03
open Mi
theorem As.bump3 {p0 p1 p2 p3 b0 b1 b2 b3 : Int} (h : As p0 p1 p2 p3 [b0, b1, b2, b3]) : As p0 p1 p2 (p3 + 1) [b0, b1, b2, b3 + 1] := by
  obtain ⟨a, b, c, d, e, i, j, k, l⟩ := h
  injection e with e1 e
  injection e with e2 e
  injection e with e3 e
  injection e with e4 e
  exact ⟨_, _, _, _, rfl, by omega, by omega, by omega, by omega⟩
section
variable {P : Prog} (HP : HasL P) {fu n : Nat} {S : Store} {t g a : Nat} {bs : List Int} {m : Nat} {w : Nat → List Nat} {z f : Nat → Int}
include HP
theorem doors_ok (G : GL m w z) (hm : m < 1000) (hz : ∀ i, i < m → z i ≤ 10 ^ 12) (hf : FitC m z f) (M0 : Mem S t g a bs) {p0 p1 p2 p3 : Int} (A : As p0 p1 p2 p3 bs) :
    Res t g a S (callN P fu (n + 7) "_law_doors" [.ref t, .ref a, dL m w z, dI m f] S) fun d bs' => d = .bl true ∧ As p0 p1 p2 (p3 + 1) bs' := by
  refine res_of HP.f__law_doors rfl M0 ?_
  show Ret (evSs _ b__law_doors [some (.ref t), some (.ref a), some (dL m w z), some (dI m f), none, none, none, none, none, none, none, none, none, none] S) _
  have hmx : m < mx := Nat.lt_trans hm (by decide)
  have hpos := G.pos
  have hlen : ∀ S, biD .len [dL m w z] S = .ok (.int (m : Int)) S := fun S => len_mR
  obtain ⟨r, S1, e1, hr, M1, F1⟩ := draw HP (fu := fu) (n := n + 5) M0 (many := (m : Int)) (by omega) (by omega)
  obtain ⟨k, rfl⟩ : ∃ k : Nat, r = (k : Int) := ⟨r.toNat, by omega⟩
  have hk : k < m := by omega
  obtain ⟨q, S2, e2, hq, M2, F2⟩ := draw HP (fu := fu) (n := n + 5) M1 (many := (m : Int) - (k : Int)) (by omega) (by omega)
  have hl : ∃ l : Nat, (k : Int) + q = (l : Int) ∧ k ≤ l ∧ l < m := ⟨k + q.toNat, by omega, by omega, by omega⟩
  obtain ⟨l, hl, hkl, hlm⟩ := hl
  have ixL : ∀ {j : Nat} {S : Store}, j < m → opD .ix (dL m w z) (.int (j : Int)) S = .ok (.tup [.str (w j), .int (z j)]) S := fun h => ix_R h
  have zk := G.size k hk
  have zk2 := hz k hk
  unfold b__law_doors
  refine Ret.step (by simp only [hlen, e1, eSs_cons, eS_if, eS_asg, eS_sub, eS_exp, eS_ret, eS_for, eS_rais, eS_brk, eS_cont, eS_pass, ss_nil', eT_or, eT_and, eT_no, eT_isi, eT_var, eT_cst, eT_op, eT_chn, eT_call, eT_bi, eE_isi, eE_var, eE_op, eE_glo, eE_chn, eE_cst, eE_bi, eE_bif, eE_tup, eE_fre, eE_dic0, eE_neg, eE_no, eE_and, eE_or, eE_ite, eE_call, eE_me, eE_sl, eE_rev, eO_non, eO_som, part_int, eEs_cons, eEs_nil, eF_lst, eF_list, eF_lc, eI_e, eI_f, eI_rng1, eI_enu, eI_z2, eI_z3, src_tup, src_rol, enu_tup, zip_tup, zip_tup3, its_items, List.getElem?_cons_zero, List.getElem?_cons_succ, List.set_cons_zero, List.set_cons_succ, rdVar_some, rb_ok, rb_exn, any_str, any_tup, any_int, any_bl, any_non, tr_bl, pur_at, alloc_at, bnd_at, o_add, o_sub, o_lt, o_le, o_gt, o_ge, o_eqI, o_neI, o_eqS, o_isN, chn_t, chn_f, lf_ok, lf_exn, sq_nx, sq_ret, sq_exn, ctx_glo, ctx_call, ctx_ini, opt_some, o_notinS, o_inS, bi_lenT, bi_intI, bi_intB, bi_abs, bi_max, bi_min, bif_tup, bi_tupT, neg_int', sl_tup, nxO_some, putT_nm, putT_tup, putTs_nil, putTs_cons, Option.bind_some, raiO_1, raiO_2, ix_0, ix_1, beq_self_eq_true, Bool.not_true, Bool.not_false, Bool.false_eq_true, ↓reduceIte, Bool.true_and, Bool.false_and, Bool.and_false, Bool.and_true, decide_true, decide_false, wipe_nil, wipe_cons]; rfl) ?_
  refine Ret.step (by simp only [ixL hk, eSs_cons, eS_if, eS_asg, eS_sub, eS_exp, eS_ret, eS_for, eS_rais, eS_brk, eS_cont, eS_pass, ss_nil', eT_or, eT_and, eT_no, eT_isi, eT_var, eT_cst, eT_op, eT_chn, eT_call, eT_bi, eE_isi, eE_var, eE_op, eE_glo, eE_chn, eE_cst, eE_bi, eE_bif, eE_tup, eE_fre, eE_dic0, eE_neg, eE_no, eE_and, eE_or, eE_ite, eE_call, eE_me, eE_sl, eE_rev, eO_non, eO_som, part_int, eEs_cons, eEs_nil, eF_lst, eF_list, eF_lc, eI_e, eI_f, eI_rng1, eI_enu, eI_z2, eI_z3, src_tup, src_rol, enu_tup, zip_tup, zip_tup3, its_items, List.getElem?_cons_zero, List.getElem?_cons_succ, List.set_cons_zero, List.set_cons_succ, rdVar_some, rb_ok, rb_exn, any_str, any_tup, any_int, any_bl, any_non, tr_bl, pur_at, alloc_at, bnd_at, o_add, o_sub, o_lt, o_le, o_gt, o_ge, o_eqI, o_neI, o_eqS, o_isN, chn_t, chn_f, lf_ok, lf_exn, sq_nx, sq_ret, sq_exn, ctx_glo, ctx_call, ctx_ini, opt_some, o_notinS, o_inS, bi_lenT, bi_intI, bi_intB, bi_abs, bi_max, bi_min, bif_tup, bi_tupT, neg_int', sl_tup, nxO_some, putT_nm, putT_tup, putTs_nil, putTs_cons, Option.bind_some, raiO_1, raiO_2, ix_0, ix_1, beq_self_eq_true, Bool.not_true, Bool.not_false, Bool.false_eq_true, ↓reduceIte, Bool.true_and, Bool.false_and, Bool.and_false, Bool.and_true, decide_true, decide_false, wipe_nil, wipe_cons]; rfl) ?_
  refine Ret.step (by simp only [hlen, e2, hl, eSs_cons, eS_if, eS_asg, eS_sub, eS_exp, eS_ret, eS_for, eS_rais, eS_brk, eS_cont, eS_pass, ss_nil', eT_or, eT_and, eT_no, eT_isi, eT_var, eT_cst, eT_op, eT_chn, eT_call, eT_bi, eE_isi, eE_var, eE_op, eE_glo, eE_chn, eE_cst, eE_bi, eE_bif, eE_tup, eE_fre, eE_dic0, eE_neg, eE_no, eE_and, eE_or, eE_ite, eE_call, eE_me, eE_sl, eE_rev, eO_non, eO_som, part_int, eEs_cons, eEs_nil, eF_lst, eF_list, eF_lc, eI_e, eI_f, eI_rng1, eI_enu, eI_z2, eI_z3, src_tup, src_rol, enu_tup, zip_tup, zip_tup3, its_items, List.getElem?_cons_zero, List.getElem?_cons_succ, List.set_cons_zero, List.set_cons_succ, rdVar_some, rb_ok, rb_exn, any_str, any_tup, any_int, any_bl, any_non, tr_bl, pur_at, alloc_at, bnd_at, o_add, o_sub, o_lt, o_le, o_gt, o_ge, o_eqI, o_neI, o_eqS, o_isN, chn_t, chn_f, lf_ok, lf_exn, sq_nx, sq_ret, sq_exn, ctx_glo, ctx_call, ctx_ini, opt_some, o_notinS, o_inS, bi_lenT, bi_intI, bi_intB, bi_abs, bi_max, bi_min, bif_tup, bi_tupT, neg_int', sl_tup, nxO_some, putT_nm, putT_tup, putTs_nil, putTs_cons, Option.bind_some, raiO_1, raiO_2, ix_0, ix_1, beq_self_eq_true, Bool.not_true, Bool.not_false, Bool.false_eq_true, ↓reduceIte, Bool.true_and, Bool.false_and, Bool.and_false, Bool.and_true, decide_true, decide_false, wipe_nil, wipe_cons]; rfl) ?_
  -- the wrong counts
  have it1 : itemsD (dI m f) S2 = .ok ((List.range m).map fun i => D.int (f i)) S2 := rfl
  have a1 : ∀ S, opD .add (dI m f) (.tup [.int 0]) S = .ok (.tup ((List.range m).map (fun i => D.int (f i)) ++ [.int 0])) S := fun S => add_tup (by rw [len_R]; show m + 1 ≤ mx; omega)
  have c1 : ∀ S, slD (dI m f) none (some (-1)) S = .ok (.tup (cut ((List.range m).map fun i => D.int (f i)) none (some (-1)))) S := fun S => sl_tup
  have s1 : ∀ S, slD (.str [97, 98, 99, 100, 101, 102, 103, 104]) none (some (m : Int)) S = .ok (.str (cut [97, 98, 99, 100, 101, 102, 103, 104] none (some (m : Int)))) S := fun S => sl_str (show 8 ≤ mx by decide)
  refine Ret.step (by simp only [hlen, it1, a1, c1, s1, eSs_cons, eS_if, eS_asg, eS_sub, eS_exp, eS_ret, eS_for, eS_rais, eS_brk, eS_cont, eS_pass, ss_nil', eT_or, eT_and, eT_no, eT_isi, eT_var, eT_cst, eT_op, eT_chn, eT_call, eT_bi, eE_isi, eE_var, eE_op, eE_glo, eE_chn, eE_cst, eE_bi, eE_bif, eE_tup, eE_fre, eE_dic0, eE_neg, eE_no, eE_and, eE_or, eE_ite, eE_call, eE_me, eE_sl, eE_rev, eO_non, eO_som, part_int, eEs_cons, eEs_nil, eF_lst, eF_list, eF_lc, eI_e, eI_f, eI_rng1, eI_enu, eI_z2, eI_z3, src_tup, src_rol, enu_tup, zip_tup, zip_tup3, its_items, List.getElem?_cons_zero, List.getElem?_cons_succ, List.set_cons_zero, List.set_cons_succ, rdVar_some, rb_ok, rb_exn, any_str, any_tup, any_int, any_bl, any_non, tr_bl, pur_at, alloc_at, bnd_at, o_add, o_sub, o_lt, o_le, o_gt, o_ge, o_eqI, o_neI, o_eqS, o_isN, chn_t, chn_f, lf_ok, lf_exn, sq_nx, sq_ret, sq_exn, ctx_glo, ctx_call, ctx_ini, opt_some, o_notinS, o_inS, bi_lenT, bi_intI, bi_intB, bi_abs, bi_max, bi_min, bif_tup, bi_tupT, neg_int', sl_tup, nxO_some, putT_nm, putT_tup, putTs_nil, putTs_cons, Option.bind_some, raiO_1, raiO_2, ix_0, ix_1, beq_self_eq_true, Bool.not_true, Bool.not_false, Bool.false_eq_true, ↓reduceIte, Bool.true_and, Bool.false_and, Bool.and_false, Bool.and_true, decide_true, decide_false, wipe_nil, wipe_cons]; rfl) ?_
  have hS2 : S.length = S2.length := ((F1.trans F2).len).symm
  have M3 := (M2.app [O.lst ((List.range m).map fun i => D.int (f i))])
  have E3 : Ext t g a S (S2 ++ [O.lst ((List.range m).map fun i => D.int (f i))]) := (F1.trans F2).ext.trans (Ext.app _)
  have l3 : (S2 ++ [O.lst ((List.range m).map fun i => D.int (f i))]).length = S2.length + 1 := by simp
  generalize hS3 : S2 ++ [O.lst ((List.range m).map fun i => D.int (f i))] = S3 at M3 E3 l3 ⊢
  have hn7 : S3.length = S2.length + 1 := l3
  have hpw : ∀ S, opD .pow (.int 10) (.int 30) S = .ok (.int (10 ^ 30)) S := fun S => o_pow (by decide)
  refine Ret.forL (by simp only [hpw, eSs_cons, eS_if, eS_asg, eS_sub, eS_exp, eS_ret, eS_for, eS_rais, eS_brk, eS_cont, eS_pass, ss_nil', eT_or, eT_and, eT_no, eT_isi, eT_var, eT_cst, eT_op, eT_chn, eT_call, eT_bi, eE_isi, eE_var, eE_op, eE_glo, eE_chn, eE_cst, eE_bi, eE_bif, eE_tup, eE_fre, eE_dic0, eE_neg, eE_no, eE_and, eE_or, eE_ite, eE_call, eE_me, eE_sl, eE_rev, eO_non, eO_som, part_int, eEs_cons, eEs_nil, eF_lst, eF_list, eF_lc, eI_e, eI_f, eI_rng1, eI_enu, eI_z2, eI_z3, src_tup, src_rol, enu_tup, zip_tup, zip_tup3, its_items, List.getElem?_cons_zero, List.getElem?_cons_succ, List.set_cons_zero, List.set_cons_succ, rdVar_some, rb_ok, rb_exn, any_str, any_tup, any_int, any_bl, any_non, tr_bl, pur_at, alloc_at, bnd_at, o_add, o_sub, o_lt, o_le, o_gt, o_ge, o_eqI, o_neI, o_eqS, o_isN, chn_t, chn_f, lf_ok, lf_exn, sq_nx, sq_ret, sq_exn, ctx_glo, ctx_call, ctx_ini, opt_some, o_notinS, o_inS, bi_lenT, bi_intI, bi_intB, bi_abs, bi_max, bi_min, bif_tup, bi_tupT, neg_int', sl_tup, nxO_some, putT_nm, putT_tup, putTs_nil, putTs_cons, Option.bind_some, raiO_1, raiO_2, ix_0, ix_1, beq_self_eq_true, Bool.not_true, Bool.not_false, Bool.false_eq_true, ↓reduceIte, Bool.true_and, Bool.false_and, Bool.and_false, Bool.and_true, decide_true, decide_false, wipe_nil, wipe_cons]; rfl) (fun l' δ S' => (∃ x8, δ = [some (.ref t), some (.ref a), some (dL m w z), some (dI m f), some (.int (k : Int)), some (.int (z k)), some (.int (l : Int)), some (.ref S3.length), x8, none, none, none, none, none]) ∧ S'.length = S2.length + 3 ∧ Mem S' t g a bs ∧ Ext t g a S S' ∧ (∃ ws, S'[S3.length]? = some (.lst ws) ∧ 1 ≤ ws.length ∧ ws.length + l'.length ≤ 16 ∧ ∀ x ∈ ws, WOK (S2.length + 3) m w z x) ∧ ∀ d ∈ l', d.bel (S2.length + 3) = true ∧ (isN d && leB (z k) d) = false) (fun _ _ _ _ => rfl) ?_ ⟨⟨none, rfl⟩, ?_, (M3.app _).app _, (E3.trans (Ext.app _)).trans (Ext.app _), ⟨[D.tup [.ref S2.length, .int (0 - 1)], D.tup [.tup ((List.range m).map (fun i => D.int (f i)) ++ [.int 0]), .int (0 - 1)], D.tup [.tup (cut ((List.range m).map fun i => D.int (f i)) none (some (-1))), .int (0 - 1)], D.tup [.tup [], .int (0 - 1)], D.tup [.non, .int (0 - 1)], D.tup [.str (cut [97, 98, 99, 100, 101, 102, 103, 104] none (some (m : Int))), .int (0 - 1)]], ?_, ?_, ?_, ?_⟩, ?_⟩ ?_
  · rintro d r δ S' ⟨⟨x8, rfl⟩, hS', M', E', ⟨ws, gw, w1, w2, hw⟩, hl'⟩
    obtain ⟨d1, d2⟩ := hl' d List.mem_cons_self
    rw [List.length_cons] at w2
    have hwith : callN P fu (n + 6) "_law_with" [dI m f, .int (k : Int), d] S' = .ok (mR m (upd (fun i => .int (f i)) k d)) S' := with_ok HP (n := n + 5) hk hmx (fun _ _ => rfl) (by rw [hS']; exact d1)
    have hap := app_L (x := .tup [mR m (upd (fun i => .int (f i)) k d), .int (k : Int)]) gw (Nat.lt_of_le_of_lt (show ws.length ≤ 16 by omega) (by decide))
    have tlt := M0.tlt
    have glt := M0.glt
    have alt := M0.alt
    rw [forB_at rfl]
    simp only [isL_L gw, hwith, hap, eE_me, eSs_cons, eS_if, eS_asg, eS_sub, eS_exp, eS_ret, eS_for, eS_rais, eS_brk, eS_cont, eS_pass, ss_nil', eT_or, eT_and, eT_no, eT_isi, eT_var, eT_cst, eT_op, eT_chn, eT_call, eT_bi, eE_isi, eE_var, eE_op, eE_glo, eE_chn, eE_cst, eE_bi, eE_bif, eE_tup, eE_fre, eE_dic0, eE_neg, eE_no, eE_and, eE_or, eE_ite, eE_call, eE_me, eE_sl, eE_rev, eO_non, eO_som, part_int, eEs_cons, eEs_nil, eF_lst, eF_list, eF_lc, eI_e, eI_f, eI_rng1, eI_enu, eI_z2, eI_z3, src_tup, src_rol, enu_tup, zip_tup, zip_tup3, its_items, List.getElem?_cons_zero, List.getElem?_cons_succ, List.set_cons_zero, List.set_cons_succ, rdVar_some, rb_ok, rb_exn, any_str, any_tup, any_int, any_bl, any_non, tr_bl, pur_at, alloc_at, bnd_at, o_add, o_sub, o_lt, o_le, o_gt, o_ge, o_eqI, o_neI, o_eqS, o_isN, chn_t, chn_f, lf_ok, lf_exn, sq_nx, sq_ret, sq_exn, ctx_glo, ctx_call, ctx_ini, opt_some, o_notinS, o_inS, bi_lenT, bi_intI, bi_intB, bi_abs, bi_max, bi_min, bif_tup, bi_tupT, neg_int', sl_tup, nxO_some, putT_nm, putT_tup, putTs_nil, putTs_cons, Option.bind_some, raiO_1, raiO_2, ix_0, ix_1, beq_self_eq_true, Bool.not_true, Bool.not_false, Bool.false_eq_true, ↓reduceIte, Bool.true_and, Bool.false_and, Bool.and_false, Bool.and_true, decide_true, decide_false, wipe_nil, wipe_cons]
    refine ⟨_, _, rfl, ⟨_, rfl⟩, by rw [List.length_set]; exact hS', M'.set (by omega) (by omega) (by omega) _, E'.setN (by omega), ⟨_, List.getElem?_set_self (by omega), ?_, ?_, ?_⟩, fun x hx => hl' x (List.mem_cons_of_mem _ hx)⟩
    · rw [List.length_append]
      omega
    · rw [List.length_append]
      show ws.length + 1 + r.length ≤ 16
      omega
    · intro x hx
      rcases List.mem_append.mp hx with h | h
      · exact hw x h
      · rw [List.mem_singleton.mp h]
        exact ⟨_, _, rfl, bel_row d1, cnt_upd hf hk d2⟩
  · simp [l3]
  · rw [List.getElem?_append_left (by simp)]
    exact get_app
  · exact Nat.le_add_left 1 5
  · exact Nat.le_refl 16
  · intro x hx
    simp only [List.mem_cons, List.not_mem_nil, or_false] at hx
    rcases hx with rfl | rfl | rfl | rfl | rfl | rfl
    · exact ⟨_, _, rfl, decide_eq_true (show S2.length < S2.length + 3 by omega), rfl⟩
    · refine ⟨_, _, rfl, ?_, cnt_len (by rw [List.length_append, len_R]; show m + 1 ≠ m; omega)⟩
      rw [show (D.int 0) = D.int ((fun _ => (0 : Int)) m) from rfl]
      have : D.bels (S2.length + 3) ((((List.range m).map f) ++ [0]).map D.int) = true := bel_ints _ _
      rw [List.map_append, List.map_map] at this
      exact this
    · refine ⟨_, _, rfl, ?_, cnt_len ?_⟩
      · unfold cut sIx
        have : D.bels (S2.length + 3) ((((List.range m).map f).take (m - 1)).map D.int) = true := bel_ints _ _
        rw [List.map_take, List.map_map] at this
        simp only [len_R, List.drop_zero, Nat.sub_zero]
        rw [if_pos (by decide), show (-1 + (m : Int)).toNat = m - 1 by omega]
        exact this
      · unfold cut sIx
        simp only [len_R, List.drop_zero, Nat.sub_zero]
        rw [if_pos (by decide), List.length_take, len_R]
        omega
    · exact ⟨_, _, rfl, rfl, cnt_len (show 0 ≠ m by omega)⟩
    · exact ⟨_, _, rfl, rfl, rfl⟩
    · exact ⟨_, _, rfl, rfl, rfl⟩
  · intro d hd
    simp only [Src.items, List.mem_cons, List.not_mem_nil, or_false] at hd
    rcases hd with rfl | rfl | rfl | rfl | rfl | rfl | rfl | rfl | rfl | rfl
    · refine ⟨rfl, ?_⟩
      show (decide (0 ≤ z k + 1) && decide (z k + 1 ≤ z k)) = false
      rw [decide_eq_false (show ¬ z k + 1 ≤ z k by omega), Bool.and_false]
    · exact ⟨rfl, rfl⟩
    · exact ⟨rfl, rfl⟩
    · exact ⟨rfl, rfl⟩
    · exact ⟨rfl, rfl⟩
    · exact ⟨rfl, rfl⟩
    · exact ⟨rfl, rfl⟩
    · refine ⟨decide_eq_true ?_, rfl⟩
      simp [l3]
    · refine ⟨rfl, ?_⟩
      show (decide (0 ≤ 0 - z k) && decide (0 - z k ≤ z k)) = false
      rw [decide_eq_false (show ¬ 0 ≤ 0 - z k by omega), Bool.false_and]
    · refine ⟨rfl, ?_⟩
      show (decide ((0 : Int) ≤ 10 ^ 30) && decide ((10 : Int) ^ 30 ≤ z k)) = false
      rw [decide_eq_false (show ¬ (10 : Int) ^ 30 ≤ z k by omega), Bool.and_false]
  rintro δ S4 ⟨⟨x8, rfl⟩, hS4, M4, E4, ⟨ws, gw, w1, w2, hw⟩, -⟩
  have tlt := M0.tlt
  have glt := M0.glt
  have alt := M0.alt
  -- the last one: two wrong numbers
  have hw1 : callN P fu (n + 6) "_law_with" [dI m f, .int (l : Int), .int (z l + 1)] S4 = .ok (dI m fun i => if i = l then z l + 1 else f i) S4 := with_int HP (n := n + 5) hlm hmx
  have hw2 : callN P fu (n + 6) "_law_with" [dI m fun i => if i = l then z l + 1 else f i, .int (k : Int), .int (0 - 1)] S4 = .ok (mR m (upd (fun i => .int (if i = l then z l + 1 else f i)) k (.int (0 - 1)))) S4 := with_ok HP (n := n + 5) hk hmx (fun _ _ => rfl) rfl
  have hap := app_L (x := .tup [mR m (upd (fun i => .int (if i = l then z l + 1 else f i)) k (.int (0 - 1))), .int (k : Int)]) gw (Nat.lt_of_le_of_lt (show ws.length ≤ 16 by simpa using w2) (by decide))
  refine Ret.step (by simp only [isL_L gw, ixL hlm, hw1, hw2, hap, eE_me, eSs_cons, eS_if, eS_asg, eS_sub, eS_exp, eS_ret, eS_for, eS_rais, eS_brk, eS_cont, eS_pass, ss_nil', eT_or, eT_and, eT_no, eT_isi, eT_var, eT_cst, eT_op, eT_chn, eT_call, eT_bi, eE_isi, eE_var, eE_op, eE_glo, eE_chn, eE_cst, eE_bi, eE_bif, eE_tup, eE_fre, eE_dic0, eE_neg, eE_no, eE_and, eE_or, eE_ite, eE_call, eE_me, eE_sl, eE_rev, eO_non, eO_som, part_int, eEs_cons, eEs_nil, eF_lst, eF_list, eF_lc, eI_e, eI_f, eI_rng1, eI_enu, eI_z2, eI_z3, src_tup, src_rol, enu_tup, zip_tup, zip_tup3, its_items, List.getElem?_cons_zero, List.getElem?_cons_succ, List.set_cons_zero, List.set_cons_succ, rdVar_some, rb_ok, rb_exn, any_str, any_tup, any_int, any_bl, any_non, tr_bl, pur_at, alloc_at, bnd_at, o_add, o_sub, o_lt, o_le, o_gt, o_ge, o_eqI, o_neI, o_eqS, o_isN, chn_t, chn_f, lf_ok, lf_exn, sq_nx, sq_ret, sq_exn, ctx_glo, ctx_call, ctx_ini, opt_some, o_notinS, o_inS, bi_lenT, bi_intI, bi_intB, bi_abs, bi_max, bi_min, bif_tup, bi_tupT, neg_int', sl_tup, nxO_some, putT_nm, putT_tup, putTs_nil, putTs_cons, Option.bind_some, raiO_1, raiO_2, ix_0, ix_1, beq_self_eq_true, Bool.not_true, Bool.not_false, Bool.false_eq_true, ↓reduceIte, Bool.true_and, Bool.false_and, Bool.and_false, Bool.and_true, decide_true, decide_false, wipe_nil, wipe_cons]; rfl) ?_
  have M5 := M4.set (k := S3.length) (by omega) (by omega) (by omega) (O.lst (ws ++ [.tup [mR m (upd (fun i => .int (if i = l then z l + 1 else f i)) k (.int (0 - 1))), .int (k : Int)]]))
  have E5 : Ext t g a S (S4.set S3.length (O.lst (ws ++ [.tup [mR m (upd (fun i => .int (if i = l then z l + 1 else f i)) k (.int (0 - 1))), .int (k : Int)]]))) := E4.setN (by omega)
  have g5 : (S4.set S3.length (O.lst (ws ++ [.tup [mR m (upd (fun i => .int (if i = l then z l + 1 else f i)) k (.int (0 - 1))), .int (k : Int)]])))[S3.length]? = some (O.lst (ws ++ [.tup [mR m (upd (fun i => .int (if i = l then z l + 1 else f i)) k (.int (0 - 1))), .int (k : Int)]])) := List.getElem?_set_self (by omega)
  have l5 : (S4.set S3.length (O.lst (ws ++ [.tup [mR m (upd (fun i => .int (if i = l then z l + 1 else f i)) k (.int (0 - 1))), .int (k : Int)]]))).length = S2.length + 3 := by rw [List.length_set]; exact hS4
  have hw5 : ∀ x ∈ ws ++ [.tup [mR m (upd (fun i => .int (if i = l then z l + 1 else f i)) k (.int (0 - 1))), .int (k : Int)]], WOK (S2.length + 3) m w z x := by
    intro x hx
    rcases List.mem_append.mp hx with h | h
    · exact hw x h
    · rw [List.mem_singleton.mp h]
      refine ⟨_, _, rfl, bel_row (f := fun i => if i = l then z l + 1 else f i) rfl, cnt_bad hk (fun i hi => ?_) ?_⟩
      · have : upd (fun i => D.int (if i = l then z l + 1 else f i)) k (.int (0 - 1)) i = .int (f i) := by
          unfold upd
          rw [if_neg (by omega)]
          show D.int (if i = l then z l + 1 else f i) = _
          rw [if_neg (by omega)]
        rw [this]
        have := hf i (by omega)
        exact ⟨decide_eq_true this.1, decide_eq_true this.2⟩
      · have : upd (fun i => D.int (if i = l then z l + 1 else f i)) k (.int (0 - 1)) k = .int (0 - 1) := by
          unfold upd
          rw [if_pos rfl]
        rw [this]
        rfl
  have w5 : 1 ≤ (ws ++ [D.tup [mR m (upd (fun i => .int (if i = l then z l + 1 else f i)) k (.int (0 - 1))), .int (k : Int)]]).length ∧ (ws ++ [D.tup [mR m (upd (fun i => .int (if i = l then z l + 1 else f i)) k (.int (0 - 1))), .int (k : Int)]]).length ≤ 17 := by
    rw [List.length_append]
    show 1 ≤ ws.length + 1 ∧ ws.length + 1 ≤ 17
    have : ws.length + 0 ≤ 16 := w2
    omega
  generalize (S4.set S3.length (O.lst (ws ++ [.tup [mR m (upd (fun i => .int (if i = l then z l + 1 else f i)) k (.int (0 - 1))), .int (k : Int)]]))) = S5 at M5 E5 g5 l5 ⊢
  generalize (ws ++ [.tup [mR m (upd (fun i => .int (if i = l then z l + 1 else f i)) k (.int (0 - 1))), .int (k : Int)]]) = vs at g5 hw5 w5 ⊢
  have i5 : evI (ctx P fu (callN P fu (n + 6))) [some (.ref t), some (.ref a), some (dL m w z), some (dI m f), some (.int (k : Int)), some (.int (z k)), some (.int (l : Int)), some (.ref S3.length), x8, none, none, none, none, none] (.e (.var 7)) S5 = .ok (.loc S3.length vs) S5 := by
    simp only [src_ref g5, eSs_cons, eS_if, eS_asg, eS_sub, eS_exp, eS_ret, eS_for, eS_rais, eS_brk, eS_cont, eS_pass, ss_nil', eT_or, eT_and, eT_no, eT_isi, eT_var, eT_cst, eT_op, eT_chn, eT_call, eT_bi, eE_isi, eE_var, eE_op, eE_glo, eE_chn, eE_cst, eE_bi, eE_bif, eE_tup, eE_fre, eE_dic0, eE_neg, eE_no, eE_and, eE_or, eE_ite, eE_call, eE_me, eE_sl, eE_rev, eO_non, eO_som, part_int, eEs_cons, eEs_nil, eF_lst, eF_list, eF_lc, eI_e, eI_f, eI_rng1, eI_enu, eI_z2, eI_z3, src_tup, src_rol, enu_tup, zip_tup, zip_tup3, its_items, List.getElem?_cons_zero, List.getElem?_cons_succ, List.set_cons_zero, List.set_cons_succ, rdVar_some, rb_ok, rb_exn, any_str, any_tup, any_int, any_bl, any_non, tr_bl, pur_at, alloc_at, bnd_at, o_add, o_sub, o_lt, o_le, o_gt, o_ge, o_eqI, o_neI, o_eqS, o_isN, chn_t, chn_f, lf_ok, lf_exn, sq_nx, sq_ret, sq_exn, ctx_glo, ctx_call, ctx_ini, opt_some, o_notinS, o_inS, bi_lenT, bi_intI, bi_intB, bi_abs, bi_max, bi_min, bif_tup, bi_tupT, neg_int', sl_tup, nxO_some, putT_nm, putT_tup, putTs_nil, putTs_cons, Option.bind_some, raiO_1, raiO_2, ix_0, ix_1, beq_self_eq_true, Bool.not_true, Bool.not_false, Bool.false_eq_true, ↓reduceIte, Bool.true_and, Bool.false_and, Bool.and_false, Bool.and_true, decide_true, decide_false, wipe_nil, wipe_cons]
  refine Ret.forL i5 (fun l' δ S' => (∃ x9 x11 x12, δ = [some (.ref t), some (.ref a), some (dL m w z), some (dI m f), some (.int (k : Int)), some (.int (z k)), some (.int (l : Int)), some (.ref S3.length), x8, x9, none, x11, x12, none]) ∧ S'.length = S2.length + 3 ∧ S'[S3.length]? = some (.lst vs) ∧ Ext t g a S S' ∧ (∀ x ∈ l', WOK (S2.length + 3) m w z x) ∧ ∃ bs', Mem S' t g a bs' ∧ As p0 p1 p2 p3 bs' ∧ (l'.length < vs.length → As p0 p1 p2 (p3 + 1) bs')) (fun _ _ _ h => loc_ok h.2.2.1) ?_ ⟨⟨none, none, none, rfl⟩, l5, g5, E5, hw5, bs, M5, A, fun h => absurd h (Nat.lt_irrefl _)⟩ ?_
  · rintro d r δ S6 ⟨⟨x9, x11, x12, rfl⟩, l6, g6, E6, hl6, bs6, M6, A6, -⟩
    obtain ⟨c, i, rfl, cb, ci⟩ := hl6 d List.mem_cons_self
    obtain ⟨b0, b1, b2, b3, rfl, q0, q1, q2, q3⟩ := A6
    have ix : opD .ix (.ref a) (.int 3) S6 = .ok (.int b3) S6 := o_ixL M6.ha rfl
    have pt : setItem (.ref a) (.int 3) (.int (b3 + 1)) S6 = .ok () (S6.set a (.lst ([b0, b1, b2, b3 + 1].map D.int))) := put_L (S := S6) (v := .int (b3 + 1)) (k := 3) (j := 3) M6.ha rfl
    have M7 := M6.setA [b0, b1, b2, b3 + 1]
    have F7 : Fr t g a S6 (S6.set a (.lst ([b0, b1, b2, b3 + 1].map D.int))) := Fr.setA _
    have A7 : As p0 p1 p2 (p3 + 1) [b0, b1, b2, b3 + 1] := ⟨_, _, _, _, rfl, q0, q1, q2, by omega⟩
    have g7 : (S6.set a (.lst ([b0, b1, b2, b3 + 1].map D.int)))[S3.length]? = some (.lst vs) := by rw [F7.same _ (by omega) (by omega) (by omega)]; exact g6
    rw [forB_at (δ' := [some (.ref t), some (.ref a), some (dL m w z), some (dI m f), some (.int (k : Int)), some (.int (z k)), some (.int (l : Int)), some (.ref S3.length), x8, some (.tup [c, .int i]), none, x11, x12, none]) rfl]
    refine Nx.step (by simp only [ix, pt, eSs_cons, eS_if, eS_asg, eS_sub, eS_exp, eS_ret, eS_for, eS_rais, eS_brk, eS_cont, eS_pass, ss_nil', eT_or, eT_and, eT_no, eT_isi, eT_var, eT_cst, eT_op, eT_chn, eT_call, eT_bi, eE_isi, eE_var, eE_op, eE_glo, eE_chn, eE_cst, eE_bi, eE_bif, eE_tup, eE_fre, eE_dic0, eE_neg, eE_no, eE_and, eE_or, eE_ite, eE_call, eE_me, eE_sl, eE_rev, eO_non, eO_som, part_int, eEs_cons, eEs_nil, eF_lst, eF_list, eF_lc, eI_e, eI_f, eI_rng1, eI_enu, eI_z2, eI_z3, src_tup, src_rol, enu_tup, zip_tup, zip_tup3, its_items, List.getElem?_cons_zero, List.getElem?_cons_succ, List.set_cons_zero, List.set_cons_succ, rdVar_some, rb_ok, rb_exn, any_str, any_tup, any_int, any_bl, any_non, tr_bl, pur_at, alloc_at, bnd_at, o_add, o_sub, o_lt, o_le, o_gt, o_ge, o_eqI, o_neI, o_eqS, o_isN, chn_t, chn_f, lf_ok, lf_exn, sq_nx, sq_ret, sq_exn, ctx_glo, ctx_call, ctx_ini, opt_some, o_notinS, o_inS, bi_lenT, bi_intI, bi_intB, bi_abs, bi_max, bi_min, bif_tup, bi_tupT, neg_int', sl_tup, nxO_some, putT_nm, putT_tup, putTs_nil, putTs_cons, Option.bind_some, raiO_1, raiO_2, ix_0, ix_1, beq_self_eq_true, Bool.not_true, Bool.not_false, Bool.false_eq_true, ↓reduceIte, Bool.true_and, Bool.false_and, Bool.and_false, Bool.and_true, decide_true, decide_false, wipe_nil, wipe_cons]; rfl) ?_
    generalize S6.set a (.lst ([b0, b1, b2, b3 + 1].map D.int)) = S7 at M7 F7 g7 ⊢
    obtain ⟨v, S8, e8, hv, M8, F8⟩ := draw HP (fu := fu) (n := n + 5) M7 (many := (vs.length : Int)) (by omega) (by omega)
    obtain ⟨v, rfl⟩ : ∃ k : Nat, v = (k : Int) := ⟨v.toNat, by omega⟩
    have hv2 : v < vs.length := by omega
    have g8 : S8[S3.length]? = some (.lst vs) := by rw [F8.same _ (by omega) (by omega) (by omega)]; exact g7
    have l8 : S8.length = S2.length + 3 := by rw [F8.len, F7.len]; exact l6
    obtain ⟨c2, i2, ec2, -, -⟩ := hw5 vs[v] (List.getElem_mem hv2)
    have ixv : opD .ix (.ref S3.length) (.int (v : Int)) S8 = .ok (.tup [c2, .int i2]) S8 := o_ixL g8 (atI_nat (by rw [List.getElem?_eq_getElem hv2, ec2]))
    have bl : biD .len [.ref S3.length] S7 = .ok (.int (vs.length : Int)) S7 := bi_lenL g7
    refine Nx.step (by simp only [bl, e8, ixv, eSs_cons, eS_if, eS_asg, eS_sub, eS_exp, eS_ret, eS_for, eS_rais, eS_brk, eS_cont, eS_pass, ss_nil', eT_or, eT_and, eT_no, eT_isi, eT_var, eT_cst, eT_op, eT_chn, eT_call, eT_bi, eE_isi, eE_var, eE_op, eE_glo, eE_chn, eE_cst, eE_bi, eE_bif, eE_tup, eE_fre, eE_dic0, eE_neg, eE_no, eE_and, eE_or, eE_ite, eE_call, eE_me, eE_sl, eE_rev, eO_non, eO_som, part_int, eEs_cons, eEs_nil, eF_lst, eF_list, eF_lc, eI_e, eI_f, eI_rng1, eI_enu, eI_z2, eI_z3, src_tup, src_rol, enu_tup, zip_tup, zip_tup3, its_items, List.getElem?_cons_zero, List.getElem?_cons_succ, List.set_cons_zero, List.set_cons_succ, rdVar_some, rb_ok, rb_exn, any_str, any_tup, any_int, any_bl, any_non, tr_bl, pur_at, alloc_at, bnd_at, o_add, o_sub, o_lt, o_le, o_gt, o_ge, o_eqI, o_neI, o_eqS, o_isN, chn_t, chn_f, lf_ok, lf_exn, sq_nx, sq_ret, sq_exn, ctx_glo, ctx_call, ctx_ini, opt_some, o_notinS, o_inS, bi_lenT, bi_intI, bi_intB, bi_abs, bi_max, bi_min, bif_tup, bi_tupT, neg_int', sl_tup, nxO_some, putT_nm, putT_tup, putTs_nil, putTs_cons, Option.bind_some, raiO_1, raiO_2, ix_0, ix_1, beq_self_eq_true, Bool.not_true, Bool.not_false, Bool.false_eq_true, ↓reduceIte, Bool.true_and, Bool.false_and, Bool.and_false, Bool.and_true, decide_true, decide_false, wipe_nil, wipe_cons]; rfl) ?_
    have cb8 : c.bel S8.length = true := by rw [l8]; exact cb
    have hs := same5 HP (fu := fu) (n := n + 1) (S := S8) (d := .tup [sCounts, .int i]) (Pl.pair .str .int)
    refine Nx.forL (by simp only [eSs_cons, eS_if, eS_asg, eS_sub, eS_exp, eS_ret, eS_for, eS_rais, eS_brk, eS_cont, eS_pass, ss_nil', eT_or, eT_and, eT_no, eT_isi, eT_var, eT_cst, eT_op, eT_chn, eT_call, eT_bi, eE_isi, eE_var, eE_op, eE_glo, eE_chn, eE_cst, eE_bi, eE_bif, eE_tup, eE_fre, eE_dic0, eE_neg, eE_no, eE_and, eE_or, eE_ite, eE_call, eE_me, eE_sl, eE_rev, eO_non, eO_som, part_int, eEs_cons, eEs_nil, eF_lst, eF_list, eF_lc, eI_e, eI_f, eI_rng1, eI_enu, eI_z2, eI_z3, src_tup, src_rol, enu_tup, zip_tup, zip_tup3, its_items, List.getElem?_cons_zero, List.getElem?_cons_succ, List.set_cons_zero, List.set_cons_succ, rdVar_some, rb_ok, rb_exn, any_str, any_tup, any_int, any_bl, any_non, tr_bl, pur_at, alloc_at, bnd_at, o_add, o_sub, o_lt, o_le, o_gt, o_ge, o_eqI, o_neI, o_eqS, o_isN, chn_t, chn_f, lf_ok, lf_exn, sq_nx, sq_ret, sq_exn, ctx_glo, ctx_call, ctx_ini, opt_some, o_notinS, o_inS, bi_lenT, bi_intI, bi_intB, bi_abs, bi_max, bi_min, bif_tup, bi_tupT, neg_int', sl_tup, nxO_some, putT_nm, putT_tup, putTs_nil, putTs_cons, Option.bind_some, raiO_1, raiO_2, ix_0, ix_1, beq_self_eq_true, Bool.not_true, Bool.not_false, Bool.false_eq_true, ↓reduceIte, Bool.true_and, Bool.false_and, Bool.and_false, Bool.and_true, decide_true, decide_false, wipe_nil, wipe_cons]; rfl) (fun l' δ S' => (∃ x12, δ = [some (.ref t), some (.ref a), some (dL m w z), some (dI m f), some (.int (k : Int)), some (.int (z k)), some (.int (l : Int)), some (.ref S3.length), x8, some (.tup [c, .int i]), none, some c2, x12, none]) ∧ S' = S8 ∧ ∀ d ∈ l', ∃ k : Wh, (k = .least ∨ k = .below) ∧ d = .str k.code) (fun _ _ _ _ => rfl) ?_ ⟨⟨_, rfl⟩, rfl, ?_⟩ ?_
    · rintro d r δ S' ⟨⟨x12, rfl⟩, rfl, hw'⟩
      obtain ⟨kk, hkk, rfl⟩ := hw' d List.mem_cons_self
      have hkk' : kk = .least ∨ kk = .below ∨ kk = .outside ∨ kk = .first := hkk.elim .inl fun h => .inr (.inl h)
      have t1 := fun x => tc1 HP (fu := fu) (n := n + 1) (x := x) G hkk' cb8 ci
      have t2 := tc2 HP (fu := fu) (n := n + 1) G hf hkk cb8 ci
      rw [forB_at rfl]
      simp only [t1, t2, show D.str [99, 111, 117, 110, 116, 115] = sCounts from rfl, hs, eSs_cons, eS_if, eS_asg, eS_sub, eS_exp, eS_ret, eS_for, eS_rais, eS_brk, eS_cont, eS_pass, ss_nil', eT_or, eT_and, eT_no, eT_isi, eT_var, eT_cst, eT_op, eT_chn, eT_call, eT_bi, eE_isi, eE_var, eE_op, eE_glo, eE_chn, eE_cst, eE_bi, eE_bif, eE_tup, eE_fre, eE_dic0, eE_neg, eE_no, eE_and, eE_or, eE_ite, eE_call, eE_me, eE_sl, eE_rev, eO_non, eO_som, part_int, eEs_cons, eEs_nil, eF_lst, eF_list, eF_lc, eI_e, eI_f, eI_rng1, eI_enu, eI_z2, eI_z3, src_tup, src_rol, enu_tup, zip_tup, zip_tup3, its_items, List.getElem?_cons_zero, List.getElem?_cons_succ, List.set_cons_zero, List.set_cons_succ, rdVar_some, rb_ok, rb_exn, any_str, any_tup, any_int, any_bl, any_non, tr_bl, pur_at, alloc_at, bnd_at, o_add, o_sub, o_lt, o_le, o_gt, o_ge, o_eqI, o_neI, o_eqS, o_isN, chn_t, chn_f, lf_ok, lf_exn, sq_nx, sq_ret, sq_exn, ctx_glo, ctx_call, ctx_ini, opt_some, o_notinS, o_inS, bi_lenT, bi_intI, bi_intB, bi_abs, bi_max, bi_min, bif_tup, bi_tupT, neg_int', sl_tup, nxO_some, putT_nm, putT_tup, putTs_nil, putTs_cons, Option.bind_some, raiO_1, raiO_2, ix_0, ix_1, beq_self_eq_true, Bool.not_true, Bool.not_false, Bool.false_eq_true, ↓reduceIte, Bool.true_and, Bool.false_and, Bool.and_false, Bool.and_true, decide_true, decide_false, wipe_nil, wipe_cons]
      exact ⟨_, _, rfl, ⟨_, rfl⟩, rfl, fun x hx => hw' x (List.mem_cons_of_mem _ hx)⟩
    · intro d hd
      simp only [Src.items, List.mem_cons, List.not_mem_nil, or_false] at hd
      rcases hd with rfl | rfl
      · exact ⟨.least, .inl rfl, rfl⟩
      · exact ⟨.below, .inr rfl, rfl⟩
    rintro δ S' ⟨⟨x12, rfl⟩, rfl, -⟩
    refine Nx.forL (by simp only [eSs_cons, eS_if, eS_asg, eS_sub, eS_exp, eS_ret, eS_for, eS_rais, eS_brk, eS_cont, eS_pass, ss_nil', eT_or, eT_and, eT_no, eT_isi, eT_var, eT_cst, eT_op, eT_chn, eT_call, eT_bi, eE_isi, eE_var, eE_op, eE_glo, eE_chn, eE_cst, eE_bi, eE_bif, eE_tup, eE_fre, eE_dic0, eE_neg, eE_no, eE_and, eE_or, eE_ite, eE_call, eE_me, eE_sl, eE_rev, eO_non, eO_som, part_int, eEs_cons, eEs_nil, eF_lst, eF_list, eF_lc, eI_e, eI_f, eI_rng1, eI_enu, eI_z2, eI_z3, src_tup, src_rol, enu_tup, zip_tup, zip_tup3, its_items, List.getElem?_cons_zero, List.getElem?_cons_succ, List.set_cons_zero, List.set_cons_succ, rdVar_some, rb_ok, rb_exn, any_str, any_tup, any_int, any_bl, any_non, tr_bl, pur_at, alloc_at, bnd_at, o_add, o_sub, o_lt, o_le, o_gt, o_ge, o_eqI, o_neI, o_eqS, o_isN, chn_t, chn_f, lf_ok, lf_exn, sq_nx, sq_ret, sq_exn, ctx_glo, ctx_call, ctx_ini, opt_some, o_notinS, o_inS, bi_lenT, bi_intI, bi_intB, bi_abs, bi_max, bi_min, bif_tup, bi_tupT, neg_int', sl_tup, nxO_some, putT_nm, putT_tup, putTs_nil, putTs_cons, Option.bind_some, raiO_1, raiO_2, ix_0, ix_1, beq_self_eq_true, Bool.not_true, Bool.not_false, Bool.false_eq_true, ↓reduceIte, Bool.true_and, Bool.false_and, Bool.and_false, Bool.and_true, decide_true, decide_false, wipe_nil, wipe_cons]; rfl) (fun l' δ S'' => (∃ x12, δ = [some (.ref t), some (.ref a), some (dL m w z), some (dI m f), some (.int (k : Int)), some (.int (z k)), some (.int (l : Int)), some (.ref S3.length), x8, some (.tup [c, .int i]), none, some c2, x12, none]) ∧ S'' = S' ∧ ∀ d ∈ l', ∃ k : Wh, (k = .outside ∨ k = .first) ∧ d = .str k.code) (fun _ _ _ _ => rfl) ?_ ⟨⟨_, rfl⟩, rfl, ?_⟩ ?_
    · rintro d r δ S'' ⟨⟨x12, rfl⟩, rfl, hw'⟩
      obtain ⟨kk, hkk, rfl⟩ := hw' d List.mem_cons_self
      have t1 := fun x => tc1 HP (fu := fu) (n := n + 1) (x := x) G (.inr (.inr hkk)) cb8 ci
      rw [forB_at rfl]
      simp only [t1, show D.str [99, 111, 117, 110, 116, 115] = sCounts from rfl, hs, eSs_cons, eS_if, eS_asg, eS_sub, eS_exp, eS_ret, eS_for, eS_rais, eS_brk, eS_cont, eS_pass, ss_nil', eT_or, eT_and, eT_no, eT_isi, eT_var, eT_cst, eT_op, eT_chn, eT_call, eT_bi, eE_isi, eE_var, eE_op, eE_glo, eE_chn, eE_cst, eE_bi, eE_bif, eE_tup, eE_fre, eE_dic0, eE_neg, eE_no, eE_and, eE_or, eE_ite, eE_call, eE_me, eE_sl, eE_rev, eO_non, eO_som, part_int, eEs_cons, eEs_nil, eF_lst, eF_list, eF_lc, eI_e, eI_f, eI_rng1, eI_enu, eI_z2, eI_z3, src_tup, src_rol, enu_tup, zip_tup, zip_tup3, its_items, List.getElem?_cons_zero, List.getElem?_cons_succ, List.set_cons_zero, List.set_cons_succ, rdVar_some, rb_ok, rb_exn, any_str, any_tup, any_int, any_bl, any_non, tr_bl, pur_at, alloc_at, bnd_at, o_add, o_sub, o_lt, o_le, o_gt, o_ge, o_eqI, o_neI, o_eqS, o_isN, chn_t, chn_f, lf_ok, lf_exn, sq_nx, sq_ret, sq_exn, ctx_glo, ctx_call, ctx_ini, opt_some, o_notinS, o_inS, bi_lenT, bi_intI, bi_intB, bi_abs, bi_max, bi_min, bif_tup, bi_tupT, neg_int', sl_tup, nxO_some, putT_nm, putT_tup, putTs_nil, putTs_cons, Option.bind_some, raiO_1, raiO_2, ix_0, ix_1, beq_self_eq_true, Bool.not_true, Bool.not_false, Bool.false_eq_true, ↓reduceIte, Bool.true_and, Bool.false_and, Bool.and_false, Bool.and_true, decide_true, decide_false, wipe_nil, wipe_cons]
      exact ⟨_, _, rfl, ⟨_, rfl⟩, rfl, fun x hx => hw' x (List.mem_cons_of_mem _ hx)⟩
    · intro d hd
      simp only [Src.items, List.mem_cons, List.not_mem_nil, or_false] at hd
      rcases hd with rfl | rfl
      · exact ⟨.outside, .inl rfl, rfl⟩
      · exact ⟨.first, .inr rfl, rfl⟩
    rintro δ S'' ⟨⟨x12, rfl⟩, rfl, -⟩
    exact ⟨_, _, rfl, ⟨_, _, _, rfl⟩, l8, g8, (E6.trans F7.ext).trans F8.ext, fun x hx => hl6 x (List.mem_cons_of_mem _ hx), _, M8, A7.mono (by omega) (by omega) (by omega) (by omega), fun _ => A7⟩
  rintro δ S6 ⟨⟨x9, x11, x12, rfl⟩, l6, g6, E6, -, bs6, M6, -, A6⟩
  have A6 := A6 (show 0 < vs.length by omega)
  -- wrong lots
  have itL : itemsD (dL m w z) S6 = .ok ((List.range m).map fun i => D.tup [.str (w i), .int (z i)]) S6 := rfl
  have one1 : (min (1 : Int).toNat m) = 1 := by show min 1 m = 1; omega
  have slL : ∀ S, slD (dL m w z) none (some 1) S = .ok (.tup [.tup [.str (w 0), .int (z 0)]]) S := fun S => by
    show slD (mR m _) _ _ S = _
    rw [sl_R (by decide), one1]
    rfl
  have addL : ∀ S, opD .add (.tup [.tup [.str (w 0), .int (z 0)]]) (.tup [.tup [.str (w 0), .int (z 0)]]) S = .ok (.tup [.tup [.str (w 0), .int (z 0)], .tup [.str (w 0), .int (z 0)]]) S := fun S => add_tup (by show 1 + 1 ≤ mx; decide)
  have wl : ∀ {S : Store} {x : D}, x.bel S.length = true → callN P fu (n + 6) "_law_with" [dL m w z, .int (k : Int), x] S = .ok (mR m (upd (fun i => .tup [.str (w i), .int (z i)]) k x)) S := fun hx => with_ok HP (n := n + 5) hk hmx (fun _ _ => rfl) hx
  have wl1 : ∀ S, callN P fu (n + 6) "_law_with" [dL m w z, .int (k : Int), .tup [.str (w k), .int 0]] S = .ok (mR m (upd (fun i => .tup [.str (w i), .int (z i)]) k (.tup [.str (w k), .int 0]))) S := fun S => wl rfl
  have wl2 : ∀ S, callN P fu (n + 6) "_law_with" [dL m w z, .int (k : Int), .tup [.str (w k), .bl true]] S = .ok (mR m (upd (fun i => .tup [.str (w i), .int (z i)]) k (.tup [.str (w k), .bl true]))) S := fun S => wl rfl
  have wl3 : ∀ S, callN P fu (n + 6) "_law_with" [dL m w z, .int (k : Int), .tup [.str [109, 111, 115, 116], .int (z k)]] S = .ok (mR m (upd (fun i => .tup [.str (w i), .int (z i)]) k (.tup [.str [109, 111, 115, 116], .int (z k)]))) S := fun S => wl rfl
  have wl4 : ∀ (T : Store) o, callN P fu (n + 6) "_law_with" [dL m w z, .int (k : Int), .ref T.length] (T ++ [o]) = .ok (mR m (upd (fun i => .tup [.str (w i), .int (z i)]) k (.ref T.length))) (T ++ [o]) := fun T o => wl (decide_eq_true (by simp))
  have ixL' : ∀ S, opD .ix (dL m w z) (.int (k : Int)) S = .ok (.tup [.str (w k), .int (z k)]) S := fun S => ix_R hk
  refine Ret.forL (by simp only [itL, slL, addL, wl1, wl2, wl3, wl4, ixL', eSs_cons, eS_if, eS_asg, eS_sub, eS_exp, eS_ret, eS_for, eS_rais, eS_brk, eS_cont, eS_pass, ss_nil', eT_or, eT_and, eT_no, eT_isi, eT_var, eT_cst, eT_op, eT_chn, eT_call, eT_bi, eE_isi, eE_var, eE_op, eE_glo, eE_chn, eE_cst, eE_bi, eE_bif, eE_tup, eE_fre, eE_dic0, eE_neg, eE_no, eE_and, eE_or, eE_ite, eE_call, eE_me, eE_sl, eE_rev, eO_non, eO_som, part_int, eEs_cons, eEs_nil, eF_lst, eF_list, eF_lc, eI_e, eI_f, eI_rng1, eI_enu, eI_z2, eI_z3, src_tup, src_rol, enu_tup, zip_tup, zip_tup3, its_items, List.getElem?_cons_zero, List.getElem?_cons_succ, List.set_cons_zero, List.set_cons_succ, rdVar_some, rb_ok, rb_exn, any_str, any_tup, any_int, any_bl, any_non, tr_bl, pur_at, alloc_at, bnd_at, o_add, o_sub, o_lt, o_le, o_gt, o_ge, o_eqI, o_neI, o_eqS, o_isN, chn_t, chn_f, lf_ok, lf_exn, sq_nx, sq_ret, sq_exn, ctx_glo, ctx_call, ctx_ini, opt_some, o_notinS, o_inS, bi_lenT, bi_intI, bi_intB, bi_abs, bi_max, bi_min, bif_tup, bi_tupT, neg_int', sl_tup, nxO_some, putT_nm, putT_tup, putTs_nil, putTs_cons, Option.bind_some, raiO_1, raiO_2, ix_0, ix_1, beq_self_eq_true, Bool.not_true, Bool.not_false, Bool.false_eq_true, ↓reduceIte, Bool.true_and, Bool.false_and, Bool.and_false, Bool.and_true, decide_true, decide_false, wipe_nil, wipe_cons]; rfl) (fun l' δ S' => (∃ x10 x12 x13, δ = [some (.ref t), some (.ref a), some (dL m w z), some (dI m f), some (.int (k : Int)), some (.int (z k)), some (.int (l : Int)), some (.ref S3.length), x8, x9, x10, x11, x12, x13]) ∧ S'.length = S6.length + 2 ∧ Ext t g a S S' ∧ Mem S' t g a bs6 ∧ ∀ d ∈ l', ∃ c i s, d = .tup [c, .int i, .str s] ∧ LBad (S6.length + 2) c i s) (fun _ _ _ _ => rfl) ?_ ⟨⟨_, _, _, rfl⟩, by simp, (E6.trans (Ext.app _)).trans (Ext.app _), (M6.app _).app _, ?_⟩ ?_
  · rintro d r δ S7 ⟨⟨x10, x12, x13, rfl⟩, l7, E7, M7, hl7⟩
    obtain ⟨c, i, s, rfl, hB⟩ := hl7 d List.mem_cons_self
    rw [forB_at (δ' := [some (.ref t), some (.ref a), some (dL m w z), some (dI m f), some (.int (k : Int)), some (.int (z k)), some (.int (l : Int)), some (.ref S3.length), x8, x9, some (.tup [c, .int i, .str s]), x11, x12, x13]) rfl]
    refine Nx.forL (by simp only [eSs_cons, eS_if, eS_asg, eS_sub, eS_exp, eS_ret, eS_for, eS_rais, eS_brk, eS_cont, eS_pass, ss_nil', eT_or, eT_and, eT_no, eT_isi, eT_var, eT_cst, eT_op, eT_chn, eT_call, eT_bi, eE_isi, eE_var, eE_op, eE_glo, eE_chn, eE_cst, eE_bi, eE_bif, eE_tup, eE_fre, eE_dic0, eE_neg, eE_no, eE_and, eE_or, eE_ite, eE_call, eE_me, eE_sl, eE_rev, eO_non, eO_som, part_int, eEs_cons, eEs_nil, eF_lst, eF_list, eF_lc, eI_e, eI_f, eI_rng1, eI_enu, eI_z2, eI_z3, src_tup, src_rol, enu_tup, zip_tup, zip_tup3, its_items, List.getElem?_cons_zero, List.getElem?_cons_succ, List.set_cons_zero, List.set_cons_succ, rdVar_some, rb_ok, rb_exn, any_str, any_tup, any_int, any_bl, any_non, tr_bl, pur_at, alloc_at, bnd_at, o_add, o_sub, o_lt, o_le, o_gt, o_ge, o_eqI, o_neI, o_eqS, o_isN, chn_t, chn_f, lf_ok, lf_exn, sq_nx, sq_ret, sq_exn, ctx_glo, ctx_call, ctx_ini, opt_some, o_notinS, o_inS, bi_lenT, bi_intI, bi_intB, bi_abs, bi_max, bi_min, bif_tup, bi_tupT, neg_int', sl_tup, nxO_some, putT_nm, putT_tup, putTs_nil, putTs_cons, Option.bind_some, raiO_1, raiO_2, ix_0, ix_1, beq_self_eq_true, Bool.not_true, Bool.not_false, Bool.false_eq_true, ↓reduceIte, Bool.true_and, Bool.false_and, Bool.and_false, Bool.and_true, decide_true, decide_false, wipe_nil, wipe_cons]; rfl) (fun l' δ S' => (∃ x12 x13, δ = [some (.ref t), some (.ref a), some (dL m w z), some (dI m f), some (.int (k : Int)), some (.int (z k)), some (.int (l : Int)), some (.ref S3.length), x8, x9, some (.tup [c, .int i, .str s]), x11, x12, x13]) ∧ S' = S7 ∧ ∀ d ∈ l', ∃ k : Wh, d = .str k.code) (fun _ _ _ _ => rfl) ?_ ⟨⟨_, _, rfl⟩, rfl, ?_⟩ ?_
    · rintro d r δ S' ⟨⟨x12, x13, rfl⟩, rfl, hw'⟩
      obtain ⟨kk, rfl⟩ := hw' d List.mem_cons_self
      have hB' : LBad S'.length c i s := by rw [l7]; exact hB
      have t1 := fun x y => tl HP (fu := fu) (n := n + 1) (k := kk) (x := x) (y := y) hB'
      have hs := same5 HP (fu := fu) (n := n + 1) (S := S') (d := .tup [sLots, .int i, .str s]) (Pl.trip .str .int .str)
      rw [forB_at rfl]
      simp only [t1, ix_2, show D.str [108, 111, 116, 115] = sLots from rfl, hs, eSs_cons, eS_if, eS_asg, eS_sub, eS_exp, eS_ret, eS_for, eS_rais, eS_brk, eS_cont, eS_pass, ss_nil', eT_or, eT_and, eT_no, eT_isi, eT_var, eT_cst, eT_op, eT_chn, eT_call, eT_bi, eE_isi, eE_var, eE_op, eE_glo, eE_chn, eE_cst, eE_bi, eE_bif, eE_tup, eE_fre, eE_dic0, eE_neg, eE_no, eE_and, eE_or, eE_ite, eE_call, eE_me, eE_sl, eE_rev, eO_non, eO_som, part_int, eEs_cons, eEs_nil, eF_lst, eF_list, eF_lc, eI_e, eI_f, eI_rng1, eI_enu, eI_z2, eI_z3, src_tup, src_rol, enu_tup, zip_tup, zip_tup3, its_items, List.getElem?_cons_zero, List.getElem?_cons_succ, List.set_cons_zero, List.set_cons_succ, rdVar_some, rb_ok, rb_exn, any_str, any_tup, any_int, any_bl, any_non, tr_bl, pur_at, alloc_at, bnd_at, o_add, o_sub, o_lt, o_le, o_gt, o_ge, o_eqI, o_neI, o_eqS, o_isN, chn_t, chn_f, lf_ok, lf_exn, sq_nx, sq_ret, sq_exn, ctx_glo, ctx_call, ctx_ini, opt_some, o_notinS, o_inS, bi_lenT, bi_intI, bi_intB, bi_abs, bi_max, bi_min, bif_tup, bi_tupT, neg_int', sl_tup, nxO_some, putT_nm, putT_tup, putTs_nil, putTs_cons, Option.bind_some, raiO_1, raiO_2, ix_0, ix_1, beq_self_eq_true, Bool.not_true, Bool.not_false, Bool.false_eq_true, ↓reduceIte, Bool.true_and, Bool.false_and, Bool.and_false, Bool.and_true, decide_true, decide_false, wipe_nil, wipe_cons]
      exact ⟨_, _, rfl, ⟨_, _, rfl⟩, rfl, fun x hx => hw' x (List.mem_cons_of_mem _ hx)⟩
    · intro d hd
      simp only [Src.items, List.mem_cons, List.not_mem_nil, or_false] at hd
      rcases hd with rfl | rfl | rfl | rfl | rfl | rfl
      · exact ⟨.least, rfl⟩
      · exact ⟨.below, rfl⟩
      · exact ⟨.outside, rfl⟩
      · exact ⟨.first, rfl⟩
      · exact ⟨.every, rfl⟩
      · exact ⟨.nobody, rfl⟩
    rintro δ S' ⟨⟨x12, x13, rfl⟩, rfl, -⟩
    exact ⟨_, _, rfl, ⟨_, _, _, rfl⟩, l7, E7, M7, fun x hx => hl7 x (List.mem_cons_of_mem _ hx)⟩
  · have wk := G.word k hk
    have nb := not_before G hk
    have w0 := G.word 0 (by omega)
    have z0 := G.size 0 (by omega)
    have wl8 : (w k).length ≤ mx := Nat.le_trans (word_len wk) (by decide)
    intro d hd
    simp only [Src.items, List.mem_cons, List.not_mem_nil, or_false] at hd
    rcases hd with rfl | rfl | rfl | rfl | rfl | rfl | rfl | rfl
    · exact ⟨_, _, _, rfl, decide_eq_true (by omega), (fun ds e => (nomatch e)), "shape", rfl, rfl⟩
    · exact ⟨_, _, _, rfl, rfl, (fun ds e => by injection e with e; subst e; exact ⟨Nat.zero_le _, fun x hx => (nomatch hx)⟩), "shape", rfl, rfl⟩
    · exact ⟨_, _, _, rfl, rfl, (fun ds e => (nomatch e)), "shape", rfl, rfl⟩
    · refine ⟨_, _, _, rfl, rfl, (fun ds e => ?_), "twice", ?_, rfl⟩
      · injection e with e
        subst e
        have hw0 : (w 0).length ≤ mx := Nat.le_trans (word_len w0) (by decide)
        refine ⟨show 2 ≤ mx by decide, fun x hx => ?_⟩
        simp only [List.mem_cons, List.not_mem_nil, or_false] at hx
        rcases hx with rfl | rfl <;> exact hw0
      · have e1 : lotF [] (D.tup [.str (w 0), .int (z 0)]) = .inr (w 0) := by
          show (if wordB (w 0) then (if ([] : List (List Nat)).contains (w 0) then Sum.inl "twice" else (if szOk (.int (z 0)) then Sum.inr (w 0) else Sum.inl "size")) else Sum.inl "word") = _
          rw [if_pos w0]
          show (if decide (1 ≤ z 0) = true then Sum.inr (w 0) else Sum.inl "size") = _
          rw [if_pos (decide_eq_true z0)]
        have e2 : lotF [w 0] (D.tup [.str (w 0), .int (z 0)]) = .inl "twice" := by
          show (if wordB (w 0) then (if [w 0].contains (w 0) then Sum.inl "twice" else (if szOk (.int (z 0)) then Sum.inr (w 0) else Sum.inl "size")) else Sum.inl "word") = _
          rw [if_pos w0, if_pos (by simp)]
        show ((match lotF [] (D.tup [.str (w 0), .int (z 0)]) with
          | .inl e => some (0, e)
          | .inr w' => (match lotF ([] ++ [w']) (D.tup [.str (w 0), .int (z 0)]) with
            | .inl e => some (1, e)
            | .inr w'' => lotsF ([] ++ [w'] ++ [w'']) 2 [])).map fun (p : Nat × String) => ((p.1 : Int), p.2)) = some (1, "twice")
        rw [e1]
        show ((match lotF [w 0] (D.tup [.str (w 0), .int (z 0)]) with
            | .inl e => some (1, e)
            | .inr w'' => lotsF ([w 0] ++ [w'']) 2 []).map fun (p : Nat × String) => ((p.1 : Int), p.2)) = some (1, "twice")
        rw [e2]
        rfl
    · refine ⟨_, _, _, rfl, bels_R fun i _ => by unfold upd; split <;> rfl, sane_with G wl8, "size", lbad_with G hk ?_, rfl⟩
      show (if wordB (w k) then (if ((List.range k).map w).contains (w k) then Sum.inl "twice" else (if szOk (.int 0) then Sum.inr (w k) else Sum.inl "size")) else Sum.inl "word") = _
      rw [if_pos wk, nb]
      rfl
    · refine ⟨_, _, _, rfl, bels_R fun i _ => by unfold upd; split <;> rfl, sane_with G wl8, "size", lbad_with G hk ?_, rfl⟩
      show (if wordB (w k) then (if ((List.range k).map w).contains (w k) then Sum.inl "twice" else (if szOk (.bl true) then Sum.inr (w k) else Sum.inl "size")) else Sum.inl "word") = _
      rw [if_pos wk, nb]
      rfl
    · exact ⟨_, _, _, rfl, bels_R fun i _ => by unfold upd; split <;> rfl, sane_with G (show 4 ≤ mx by decide), "word", lbad_with G hk rfl, rfl⟩
    · refine ⟨_, _, _, rfl, bels_R fun i _ => ?_, sane_with G trivial, "shape", lbad_with G hk rfl, rfl⟩
      unfold upd
      split
      · exact decide_eq_true (by simp)
      · rfl
  rintro δ S7 ⟨⟨x10, x12, x13, rfl⟩, l7, E7, M7, -⟩
  simp only [eSs_cons, eS_if, eS_asg, eS_sub, eS_exp, eS_ret, eS_for, eS_rais, eS_brk, eS_cont, eS_pass, ss_nil', eT_or, eT_and, eT_no, eT_isi, eT_var, eT_cst, eT_op, eT_chn, eT_call, eT_bi, eE_isi, eE_var, eE_op, eE_glo, eE_chn, eE_cst, eE_bi, eE_bif, eE_tup, eE_fre, eE_dic0, eE_neg, eE_no, eE_and, eE_or, eE_ite, eE_call, eE_me, eE_sl, eE_rev, eO_non, eO_som, part_int, eEs_cons, eEs_nil, eF_lst, eF_list, eF_lc, eI_e, eI_f, eI_rng1, eI_enu, eI_z2, eI_z3, src_tup, src_rol, enu_tup, zip_tup, zip_tup3, its_items, List.getElem?_cons_zero, List.getElem?_cons_succ, List.set_cons_zero, List.set_cons_succ, rdVar_some, rb_ok, rb_exn, any_str, any_tup, any_int, any_bl, any_non, tr_bl, pur_at, alloc_at, bnd_at, o_add, o_sub, o_lt, o_le, o_gt, o_ge, o_eqI, o_neI, o_eqS, o_isN, chn_t, chn_f, lf_ok, lf_exn, sq_nx, sq_ret, sq_exn, ctx_glo, ctx_call, ctx_ini, opt_some, o_notinS, o_inS, bi_lenT, bi_intI, bi_intB, bi_abs, bi_max, bi_min, bif_tup, bi_tupT, neg_int', sl_tup, nxO_some, putT_nm, putT_tup, putTs_nil, putTs_cons, Option.bind_some, raiO_1, raiO_2, ix_0, ix_1, beq_self_eq_true, Bool.not_true, Bool.not_false, Bool.false_eq_true, ↓reduceIte, Bool.true_and, Bool.false_and, Bool.and_false, Bool.and_true, decide_true, decide_false, wipe_nil, wipe_cons]
  exact ⟨_, _, rfl, bs6, ⟨rfl, A6⟩, rfl, M7, E7⟩
end
end K03

set_option Elab.async false
set_option linter.all false
set_option maxRecDepth 100000
set_option maxHeartbeats 4000000
/-! k03: what is equal by == but is a bool within. -/
namespace K03
open Mi
section
variable {P : Prog} (HP : HasL P) {fu n : Nat} {S : Store} {t g a : Nat} {bs : List Int} {m : Nat} {w : Nat → List Nat} {z f : Nat → Int}
include HP
theorem between_ok (G : GL m w z) (hm : m < 1000) (M0 : Mem S t g a bs) {p0 p1 p2 p3 : Int} (A : As p0 p1 p2 p3 bs) :
    Res t g a S (callN P fu (n + 7) "_law_between" [.ref t, .ref a, dL m w z] S) fun d bs' => d = .bl true ∧ As p0 p1 p2 p3 bs' := by
  refine res_of HP.f__law_between rfl M0 ?_
  show Ret (evSs _ b__law_between [some (.ref t), some (.ref a), some (dL m w z), none, none, none, none, none, none, none, none, none, none, none, none] S) _
  have hmx : m < mx := Nat.lt_trans hm (by decide)
  have hpos := G.pos
  have hlen : ∀ S, biD .len [dL m w z] S = .ok (.int (m : Int)) S := fun S => len_mR
  have G2 : GL m w (fun _ => 2) := ⟨G.pos, G.top, G.word, G.inj, fun _ _ => by decide⟩
  have F2 : FitC m (fun _ => 2) (fun _ => 2) := fun _ _ => ⟨show (0 : Int) ≤ 2 by omega, show (2 : Int) ≤ 2 by omega⟩
  obtain ⟨r, S1, e1, hr, M1, F1⟩ := draw HP (fu := fu) (n := n + 5) M0 (many := (m : Int)) (by omega) (by omega)
  obtain ⟨k, rfl⟩ : ∃ k : Nat, r = (k : Int) := ⟨r.toNat, by omega⟩
  have hk : k < m := by omega
  have sr : ∀ S, srcD (dL m w z) S = .ok (.its ((List.range m).map fun i => D.tup [.str (w i), .int (z i)])) S := fun S => src_tup
  unfold b__law_between
  refine Ret.step (by simp only [hlen, e1, eSs_cons, eS_if, eS_asg, eS_sub, eS_exp, eS_ret, eS_for, eS_rais, eS_brk, eS_cont, eS_pass, ss_nil', eT_or, eT_and, eT_no, eT_isi, eT_var, eT_cst, eT_op, eT_chn, eT_call, eT_bi, eE_isi, eE_var, eE_op, eE_glo, eE_chn, eE_cst, eE_bi, eE_bif, eE_tup, eE_fre, eE_dic0, eE_neg, eE_no, eE_and, eE_or, eE_ite, eE_call, eE_me, eE_sl, eE_rev, eO_non, eO_som, part_int, eEs_cons, eEs_nil, eF_lst, eF_list, eF_lc, eI_e, eI_f, eI_rng1, eI_enu, eI_z2, eI_z3, src_tup, src_rol, enu_tup, zip_tup, zip_tup3, its_items, List.getElem?_cons_zero, List.getElem?_cons_succ, List.set_cons_zero, List.set_cons_succ, rdVar_some, rb_ok, rb_exn, any_str, any_tup, any_int, any_bl, any_non, tr_bl, pur_at, alloc_at, bnd_at, o_add, o_sub, o_lt, o_le, o_gt, o_ge, o_eqI, o_neI, o_eqS, o_isN, chn_t, chn_f, lf_ok, lf_exn, sq_nx, sq_ret, sq_exn, ctx_glo, ctx_call, ctx_ini, opt_some, o_notinS, o_inS, bi_lenT, bi_intI, bi_intB, bi_abs, bi_max, bi_min, bif_tup, bi_tupT, neg_int', sl_tup, nxO_some, putT_nm, putT_tup, putTs_nil, putTs_cons, Option.bind_some, raiO_1, raiO_2, ix_0, ix_1, beq_self_eq_true, Bool.not_true, Bool.not_false, Bool.false_eq_true, ↓reduceIte, Bool.true_and, Bool.false_and, Bool.and_false, Bool.and_true, decide_true, decide_false, wipe_nil, wipe_cons]; rfl) ?_
  refine Ret.step (asg_row (m := m) (em := fun i => .tup [.str (w i), .int (z i)]) (gg := fun i => .tup [.str (w i), .int 2]) G.top (by simp only [sr, eSs_cons, eS_if, eS_asg, eS_sub, eS_exp, eS_ret, eS_for, eS_rais, eS_brk, eS_cont, eS_pass, ss_nil', eT_or, eT_and, eT_no, eT_isi, eT_var, eT_cst, eT_op, eT_chn, eT_call, eT_bi, eE_isi, eE_var, eE_op, eE_glo, eE_chn, eE_cst, eE_bi, eE_bif, eE_tup, eE_fre, eE_dic0, eE_neg, eE_no, eE_and, eE_or, eE_ite, eE_call, eE_me, eE_sl, eE_rev, eO_non, eO_som, part_int, eEs_cons, eEs_nil, eF_lst, eF_list, eF_lc, eI_e, eI_f, eI_rng1, eI_enu, eI_z2, eI_z3, src_tup, src_rol, enu_tup, zip_tup, zip_tup3, its_items, List.getElem?_cons_zero, List.getElem?_cons_succ, List.set_cons_zero, List.set_cons_succ, rdVar_some, rb_ok, rb_exn, any_str, any_tup, any_int, any_bl, any_non, tr_bl, pur_at, alloc_at, bnd_at, o_add, o_sub, o_lt, o_le, o_gt, o_ge, o_eqI, o_neI, o_eqS, o_isN, chn_t, chn_f, lf_ok, lf_exn, sq_nx, sq_ret, sq_exn, ctx_glo, ctx_call, ctx_ini, opt_some, o_notinS, o_inS, bi_lenT, bi_intI, bi_intB, bi_abs, bi_max, bi_min, bif_tup, bi_tupT, neg_int', sl_tup, nxO_some, putT_nm, putT_tup, putTs_nil, putTs_cons, Option.bind_some, raiO_1, raiO_2, ix_0, ix_1, beq_self_eq_true, Bool.not_true, Bool.not_false, Bool.false_eq_true, ↓reduceIte, Bool.true_and, Bool.false_and, Bool.and_false, Bool.and_true, decide_true, decide_false, wipe_nil, wipe_cons]) fun i hi => lcF_at rfl (by simp only [eSs_cons, eS_if, eS_asg, eS_sub, eS_exp, eS_ret, eS_for, eS_rais, eS_brk, eS_cont, eS_pass, ss_nil', eT_or, eT_and, eT_no, eT_isi, eT_var, eT_cst, eT_op, eT_chn, eT_call, eT_bi, eE_isi, eE_var, eE_op, eE_glo, eE_chn, eE_cst, eE_bi, eE_bif, eE_tup, eE_fre, eE_dic0, eE_neg, eE_no, eE_and, eE_or, eE_ite, eE_call, eE_me, eE_sl, eE_rev, eO_non, eO_som, part_int, eEs_cons, eEs_nil, eF_lst, eF_list, eF_lc, eI_e, eI_f, eI_rng1, eI_enu, eI_z2, eI_z3, src_tup, src_rol, enu_tup, zip_tup, zip_tup3, its_items, List.getElem?_cons_zero, List.getElem?_cons_succ, List.set_cons_zero, List.set_cons_succ, rdVar_some, rb_ok, rb_exn, any_str, any_tup, any_int, any_bl, any_non, tr_bl, pur_at, alloc_at, bnd_at, o_add, o_sub, o_lt, o_le, o_gt, o_ge, o_eqI, o_neI, o_eqS, o_isN, chn_t, chn_f, lf_ok, lf_exn, sq_nx, sq_ret, sq_exn, ctx_glo, ctx_call, ctx_ini, opt_some, o_notinS, o_inS, bi_lenT, bi_intI, bi_intB, bi_abs, bi_max, bi_min, bif_tup, bi_tupT, neg_int', sl_tup, nxO_some, putT_nm, putT_tup, putTs_nil, putTs_cons, Option.bind_some, raiO_1, raiO_2, ix_0, ix_1, beq_self_eq_true, Bool.not_true, Bool.not_false, Bool.false_eq_true, ↓reduceIte, Bool.true_and, Bool.false_and, Bool.and_false, Bool.and_true, decide_true, decide_false, wipe_nil, wipe_cons])) ?_
  refine Ret.step (asg_row (m := m) (em := fun i => .tup [.str (w i), .int (z i)]) (gg := fun i => .int 1) G.top (by simp only [sr, eSs_cons, eS_if, eS_asg, eS_sub, eS_exp, eS_ret, eS_for, eS_rais, eS_brk, eS_cont, eS_pass, ss_nil', eT_or, eT_and, eT_no, eT_isi, eT_var, eT_cst, eT_op, eT_chn, eT_call, eT_bi, eE_isi, eE_var, eE_op, eE_glo, eE_chn, eE_cst, eE_bi, eE_bif, eE_tup, eE_fre, eE_dic0, eE_neg, eE_no, eE_and, eE_or, eE_ite, eE_call, eE_me, eE_sl, eE_rev, eO_non, eO_som, part_int, eEs_cons, eEs_nil, eF_lst, eF_list, eF_lc, eI_e, eI_f, eI_rng1, eI_enu, eI_z2, eI_z3, src_tup, src_rol, enu_tup, zip_tup, zip_tup3, its_items, List.getElem?_cons_zero, List.getElem?_cons_succ, List.set_cons_zero, List.set_cons_succ, rdVar_some, rb_ok, rb_exn, any_str, any_tup, any_int, any_bl, any_non, tr_bl, pur_at, alloc_at, bnd_at, o_add, o_sub, o_lt, o_le, o_gt, o_ge, o_eqI, o_neI, o_eqS, o_isN, chn_t, chn_f, lf_ok, lf_exn, sq_nx, sq_ret, sq_exn, ctx_glo, ctx_call, ctx_ini, opt_some, o_notinS, o_inS, bi_lenT, bi_intI, bi_intB, bi_abs, bi_max, bi_min, bif_tup, bi_tupT, neg_int', sl_tup, nxO_some, putT_nm, putT_tup, putTs_nil, putTs_cons, Option.bind_some, raiO_1, raiO_2, ix_0, ix_1, beq_self_eq_true, Bool.not_true, Bool.not_false, Bool.false_eq_true, ↓reduceIte, Bool.true_and, Bool.false_and, Bool.and_false, Bool.and_true, decide_true, decide_false, wipe_nil, wipe_cons]) fun i hi => lcF_at rfl (by simp only [eSs_cons, eS_if, eS_asg, eS_sub, eS_exp, eS_ret, eS_for, eS_rais, eS_brk, eS_cont, eS_pass, ss_nil', eT_or, eT_and, eT_no, eT_isi, eT_var, eT_cst, eT_op, eT_chn, eT_call, eT_bi, eE_isi, eE_var, eE_op, eE_glo, eE_chn, eE_cst, eE_bi, eE_bif, eE_tup, eE_fre, eE_dic0, eE_neg, eE_no, eE_and, eE_or, eE_ite, eE_call, eE_me, eE_sl, eE_rev, eO_non, eO_som, part_int, eEs_cons, eEs_nil, eF_lst, eF_list, eF_lc, eI_e, eI_f, eI_rng1, eI_enu, eI_z2, eI_z3, src_tup, src_rol, enu_tup, zip_tup, zip_tup3, its_items, List.getElem?_cons_zero, List.getElem?_cons_succ, List.set_cons_zero, List.set_cons_succ, rdVar_some, rb_ok, rb_exn, any_str, any_tup, any_int, any_bl, any_non, tr_bl, pur_at, alloc_at, bnd_at, o_add, o_sub, o_lt, o_le, o_gt, o_ge, o_eqI, o_neI, o_eqS, o_isN, chn_t, chn_f, lf_ok, lf_exn, sq_nx, sq_ret, sq_exn, ctx_glo, ctx_call, ctx_ini, opt_some, o_notinS, o_inS, bi_lenT, bi_intI, bi_intB, bi_abs, bi_max, bi_min, bif_tup, bi_tupT, neg_int', sl_tup, nxO_some, putT_nm, putT_tup, putTs_nil, putTs_cons, Option.bind_some, raiO_1, raiO_2, ix_0, ix_1, beq_self_eq_true, Bool.not_true, Bool.not_false, Bool.false_eq_true, ↓reduceIte, Bool.true_and, Bool.false_and, Bool.and_false, Bool.and_true, decide_true, decide_false, wipe_nil, wipe_cons])) ?_
  refine Ret.step (asg_row (m := m) (em := fun i => .tup [.str (w i), .int (z i)]) (gg := fun i => .int 0) G.top (by simp only [sr, eSs_cons, eS_if, eS_asg, eS_sub, eS_exp, eS_ret, eS_for, eS_rais, eS_brk, eS_cont, eS_pass, ss_nil', eT_or, eT_and, eT_no, eT_isi, eT_var, eT_cst, eT_op, eT_chn, eT_call, eT_bi, eE_isi, eE_var, eE_op, eE_glo, eE_chn, eE_cst, eE_bi, eE_bif, eE_tup, eE_fre, eE_dic0, eE_neg, eE_no, eE_and, eE_or, eE_ite, eE_call, eE_me, eE_sl, eE_rev, eO_non, eO_som, part_int, eEs_cons, eEs_nil, eF_lst, eF_list, eF_lc, eI_e, eI_f, eI_rng1, eI_enu, eI_z2, eI_z3, src_tup, src_rol, enu_tup, zip_tup, zip_tup3, its_items, List.getElem?_cons_zero, List.getElem?_cons_succ, List.set_cons_zero, List.set_cons_succ, rdVar_some, rb_ok, rb_exn, any_str, any_tup, any_int, any_bl, any_non, tr_bl, pur_at, alloc_at, bnd_at, o_add, o_sub, o_lt, o_le, o_gt, o_ge, o_eqI, o_neI, o_eqS, o_isN, chn_t, chn_f, lf_ok, lf_exn, sq_nx, sq_ret, sq_exn, ctx_glo, ctx_call, ctx_ini, opt_some, o_notinS, o_inS, bi_lenT, bi_intI, bi_intB, bi_abs, bi_max, bi_min, bif_tup, bi_tupT, neg_int', sl_tup, nxO_some, putT_nm, putT_tup, putTs_nil, putTs_cons, Option.bind_some, raiO_1, raiO_2, ix_0, ix_1, beq_self_eq_true, Bool.not_true, Bool.not_false, Bool.false_eq_true, ↓reduceIte, Bool.true_and, Bool.false_and, Bool.and_false, Bool.and_true, decide_true, decide_false, wipe_nil, wipe_cons]) fun i hi => lcF_at rfl (by simp only [eSs_cons, eS_if, eS_asg, eS_sub, eS_exp, eS_ret, eS_for, eS_rais, eS_brk, eS_cont, eS_pass, ss_nil', eT_or, eT_and, eT_no, eT_isi, eT_var, eT_cst, eT_op, eT_chn, eT_call, eT_bi, eE_isi, eE_var, eE_op, eE_glo, eE_chn, eE_cst, eE_bi, eE_bif, eE_tup, eE_fre, eE_dic0, eE_neg, eE_no, eE_and, eE_or, eE_ite, eE_call, eE_me, eE_sl, eE_rev, eO_non, eO_som, part_int, eEs_cons, eEs_nil, eF_lst, eF_list, eF_lc, eI_e, eI_f, eI_rng1, eI_enu, eI_z2, eI_z3, src_tup, src_rol, enu_tup, zip_tup, zip_tup3, its_items, List.getElem?_cons_zero, List.getElem?_cons_succ, List.set_cons_zero, List.set_cons_succ, rdVar_some, rb_ok, rb_exn, any_str, any_tup, any_int, any_bl, any_non, tr_bl, pur_at, alloc_at, bnd_at, o_add, o_sub, o_lt, o_le, o_gt, o_ge, o_eqI, o_neI, o_eqS, o_isN, chn_t, chn_f, lf_ok, lf_exn, sq_nx, sq_ret, sq_exn, ctx_glo, ctx_call, ctx_ini, opt_some, o_notinS, o_inS, bi_lenT, bi_intI, bi_intB, bi_abs, bi_max, bi_min, bif_tup, bi_tupT, neg_int', sl_tup, nxO_some, putT_nm, putT_tup, putTs_nil, putTs_cons, Option.bind_some, raiO_1, raiO_2, ix_0, ix_1, beq_self_eq_true, Bool.not_true, Bool.not_false, Bool.false_eq_true, ↓reduceIte, Bool.true_and, Bool.false_and, Bool.and_false, Bool.and_true, decide_true, decide_false, wipe_nil, wipe_cons])) ?_
  refine Ret.step (asg_row (m := m) (em := fun i => .tup [.str (w i), .int (z i)]) (gg := fun i => .int 2) G.top (by simp only [sr, eSs_cons, eS_if, eS_asg, eS_sub, eS_exp, eS_ret, eS_for, eS_rais, eS_brk, eS_cont, eS_pass, ss_nil', eT_or, eT_and, eT_no, eT_isi, eT_var, eT_cst, eT_op, eT_chn, eT_call, eT_bi, eE_isi, eE_var, eE_op, eE_glo, eE_chn, eE_cst, eE_bi, eE_bif, eE_tup, eE_fre, eE_dic0, eE_neg, eE_no, eE_and, eE_or, eE_ite, eE_call, eE_me, eE_sl, eE_rev, eO_non, eO_som, part_int, eEs_cons, eEs_nil, eF_lst, eF_list, eF_lc, eI_e, eI_f, eI_rng1, eI_enu, eI_z2, eI_z3, src_tup, src_rol, enu_tup, zip_tup, zip_tup3, its_items, List.getElem?_cons_zero, List.getElem?_cons_succ, List.set_cons_zero, List.set_cons_succ, rdVar_some, rb_ok, rb_exn, any_str, any_tup, any_int, any_bl, any_non, tr_bl, pur_at, alloc_at, bnd_at, o_add, o_sub, o_lt, o_le, o_gt, o_ge, o_eqI, o_neI, o_eqS, o_isN, chn_t, chn_f, lf_ok, lf_exn, sq_nx, sq_ret, sq_exn, ctx_glo, ctx_call, ctx_ini, opt_some, o_notinS, o_inS, bi_lenT, bi_intI, bi_intB, bi_abs, bi_max, bi_min, bif_tup, bi_tupT, neg_int', sl_tup, nxO_some, putT_nm, putT_tup, putTs_nil, putTs_cons, Option.bind_some, raiO_1, raiO_2, ix_0, ix_1, beq_self_eq_true, Bool.not_true, Bool.not_false, Bool.false_eq_true, ↓reduceIte, Bool.true_and, Bool.false_and, Bool.and_false, Bool.and_true, decide_true, decide_false, wipe_nil, wipe_cons]) fun i hi => lcF_at rfl (by simp only [eSs_cons, eS_if, eS_asg, eS_sub, eS_exp, eS_ret, eS_for, eS_rais, eS_brk, eS_cont, eS_pass, ss_nil', eT_or, eT_and, eT_no, eT_isi, eT_var, eT_cst, eT_op, eT_chn, eT_call, eT_bi, eE_isi, eE_var, eE_op, eE_glo, eE_chn, eE_cst, eE_bi, eE_bif, eE_tup, eE_fre, eE_dic0, eE_neg, eE_no, eE_and, eE_or, eE_ite, eE_call, eE_me, eE_sl, eE_rev, eO_non, eO_som, part_int, eEs_cons, eEs_nil, eF_lst, eF_list, eF_lc, eI_e, eI_f, eI_rng1, eI_enu, eI_z2, eI_z3, src_tup, src_rol, enu_tup, zip_tup, zip_tup3, its_items, List.getElem?_cons_zero, List.getElem?_cons_succ, List.set_cons_zero, List.set_cons_succ, rdVar_some, rb_ok, rb_exn, any_str, any_tup, any_int, any_bl, any_non, tr_bl, pur_at, alloc_at, bnd_at, o_add, o_sub, o_lt, o_le, o_gt, o_ge, o_eqI, o_neI, o_eqS, o_isN, chn_t, chn_f, lf_ok, lf_exn, sq_nx, sq_ret, sq_exn, ctx_glo, ctx_call, ctx_ini, opt_some, o_notinS, o_inS, bi_lenT, bi_intI, bi_intB, bi_abs, bi_max, bi_min, bif_tup, bi_tupT, neg_int', sl_tup, nxO_some, putT_nm, putT_tup, putTs_nil, putTs_cons, Option.bind_some, raiO_1, raiO_2, ix_0, ix_1, beq_self_eq_true, Bool.not_true, Bool.not_false, Bool.false_eq_true, ↓reduceIte, Bool.true_and, Bool.false_and, Bool.and_false, Bool.and_true, decide_true, decide_false, wipe_nil, wipe_cons])) ?_
  refine Ret.forL (by simp only [eSs_cons, eS_if, eS_asg, eS_sub, eS_exp, eS_ret, eS_for, eS_rais, eS_brk, eS_cont, eS_pass, ss_nil', eT_or, eT_and, eT_no, eT_isi, eT_var, eT_cst, eT_op, eT_chn, eT_call, eT_bi, eE_isi, eE_var, eE_op, eE_glo, eE_chn, eE_cst, eE_bi, eE_bif, eE_tup, eE_fre, eE_dic0, eE_neg, eE_no, eE_and, eE_or, eE_ite, eE_call, eE_me, eE_sl, eE_rev, eO_non, eO_som, part_int, eEs_cons, eEs_nil, eF_lst, eF_list, eF_lc, eI_e, eI_f, eI_rng1, eI_enu, eI_z2, eI_z3, src_tup, src_rol, enu_tup, zip_tup, zip_tup3, its_items, List.getElem?_cons_zero, List.getElem?_cons_succ, List.set_cons_zero, List.set_cons_succ, rdVar_some, rb_ok, rb_exn, any_str, any_tup, any_int, any_bl, any_non, tr_bl, pur_at, alloc_at, bnd_at, o_add, o_sub, o_lt, o_le, o_gt, o_ge, o_eqI, o_neI, o_eqS, o_isN, chn_t, chn_f, lf_ok, lf_exn, sq_nx, sq_ret, sq_exn, ctx_glo, ctx_call, ctx_ini, opt_some, o_notinS, o_inS, bi_lenT, bi_intI, bi_intB, bi_abs, bi_max, bi_min, bif_tup, bi_tupT, neg_int', sl_tup, nxO_some, putT_nm, putT_tup, putTs_nil, putTs_cons, Option.bind_some, raiO_1, raiO_2, ix_0, ix_1, beq_self_eq_true, Bool.not_true, Bool.not_false, Bool.false_eq_true, ↓reduceIte, Bool.true_and, Bool.false_and, Bool.and_false, Bool.and_true, decide_true, decide_false, wipe_nil, wipe_cons]; rfl) (fun l δ S' => (∃ x8 x9 x10 x11 x12, δ = [some (.ref t), some (.ref a), some (dL m w z), some (.int (k : Int)), some (dL m w fun _ => 2), some (dI m fun _ => 1), some (dI m fun _ => 0), some (dI m fun _ => 2), x8, x9, x10, x11, x12, none, none]) ∧ Fr t g a S S' ∧ (∃ bs', Mem S' t g a bs' ∧ As p0 p1 p2 p3 bs') ∧ ∀ d ∈ l, ∃ c b, (c = 0 ∨ c = 1) ∧ d = .tup [dI m fun _ => c, .bl b]) (fun _ _ _ _ => rfl) ?_ ⟨⟨_, _, _, _, _, rfl⟩, F1, ⟨bs, M1, A⟩, ?_⟩ ?_
  · rintro d r δ S2 ⟨⟨x8, x9, x10, x11, x12, rfl⟩, Fr2, ⟨bs2, M2, A2⟩, hl⟩
    obtain ⟨c, b, hc, rfl⟩ := hl d List.mem_cons_self
    have Fc : FitC m (fun _ => 2) (fun _ => c) := fun _ _ => ⟨show (0 : Int) ≤ c by omega, show c ≤ (2 : Int) by omega⟩
    rw [forB_at (δ' := [some (.ref t), some (.ref a), some (dL m w z), some (.int (k : Int)), some (dL m w fun _ => 2), some (dI m fun _ => 1), some (dI m fun _ => 0), some (dI m fun _ => 2), some (.tup [dI m fun _ => c, .bl b]), x9, x10, x11, x12, none, none]) rfl]
    refine Nx.step (by simp only [eSs_cons, eS_if, eS_asg, eS_sub, eS_exp, eS_ret, eS_for, eS_rais, eS_brk, eS_cont, eS_pass, ss_nil', eT_or, eT_and, eT_no, eT_isi, eT_var, eT_cst, eT_op, eT_chn, eT_call, eT_bi, eE_isi, eE_var, eE_op, eE_glo, eE_chn, eE_cst, eE_bi, eE_bif, eE_tup, eE_fre, eE_dic0, eE_neg, eE_no, eE_and, eE_or, eE_ite, eE_call, eE_me, eE_sl, eE_rev, eO_non, eO_som, part_int, eEs_cons, eEs_nil, eF_lst, eF_list, eF_lc, eI_e, eI_f, eI_rng1, eI_enu, eI_z2, eI_z3, src_tup, src_rol, enu_tup, zip_tup, zip_tup3, its_items, List.getElem?_cons_zero, List.getElem?_cons_succ, List.set_cons_zero, List.set_cons_succ, rdVar_some, rb_ok, rb_exn, any_str, any_tup, any_int, any_bl, any_non, tr_bl, pur_at, alloc_at, bnd_at, o_add, o_sub, o_lt, o_le, o_gt, o_ge, o_eqI, o_neI, o_eqS, o_isN, chn_t, chn_f, lf_ok, lf_exn, sq_nx, sq_ret, sq_exn, ctx_glo, ctx_call, ctx_ini, opt_some, o_notinS, o_inS, bi_lenT, bi_intI, bi_intB, bi_abs, bi_max, bi_min, bif_tup, bi_tupT, neg_int', sl_tup, nxO_some, putT_nm, putT_tup, putTs_nil, putTs_cons, Option.bind_some, raiO_1, raiO_2, ix_0, ix_1, beq_self_eq_true, Bool.not_true, Bool.not_false, Bool.false_eq_true, ↓reduceIte, Bool.true_and, Bool.false_and, Bool.and_false, Bool.and_true, decide_true, decide_false, wipe_nil, wipe_cons]; rfl) ?_
    have hw : callN P fu (n + 6) "_law_with" [dI m fun _ => c, .int (k : Int), .bl b] S2 = .ok (mR m (upd (fun i => .int c) k (.bl b))) S2 := with_ok HP (n := n + 5) hk hmx (fun _ _ => rfl) rfl
    refine Nx.step (by simp only [hw, eSs_cons, eS_if, eS_asg, eS_sub, eS_exp, eS_ret, eS_for, eS_rais, eS_brk, eS_cont, eS_pass, ss_nil', eT_or, eT_and, eT_no, eT_isi, eT_var, eT_cst, eT_op, eT_chn, eT_call, eT_bi, eE_isi, eE_var, eE_op, eE_glo, eE_chn, eE_cst, eE_bi, eE_bif, eE_tup, eE_fre, eE_dic0, eE_neg, eE_no, eE_and, eE_or, eE_ite, eE_call, eE_me, eE_sl, eE_rev, eO_non, eO_som, part_int, eEs_cons, eEs_nil, eF_lst, eF_list, eF_lc, eI_e, eI_f, eI_rng1, eI_enu, eI_z2, eI_z3, src_tup, src_rol, enu_tup, zip_tup, zip_tup3, its_items, List.getElem?_cons_zero, List.getElem?_cons_succ, List.set_cons_zero, List.set_cons_succ, rdVar_some, rb_ok, rb_exn, any_str, any_tup, any_int, any_bl, any_non, tr_bl, pur_at, alloc_at, bnd_at, o_add, o_sub, o_lt, o_le, o_gt, o_ge, o_eqI, o_neI, o_eqS, o_isN, chn_t, chn_f, lf_ok, lf_exn, sq_nx, sq_ret, sq_exn, ctx_glo, ctx_call, ctx_ini, opt_some, o_notinS, o_inS, bi_lenT, bi_intI, bi_intB, bi_abs, bi_max, bi_min, bif_tup, bi_tupT, neg_int', sl_tup, nxO_some, putT_nm, putT_tup, putTs_nil, putTs_cons, Option.bind_some, raiO_1, raiO_2, ix_0, ix_1, beq_self_eq_true, Bool.not_true, Bool.not_false, Bool.false_eq_true, ↓reduceIte, Bool.true_and, Bool.false_and, Bool.and_false, Bool.and_true, decide_true, decide_false, wipe_nil, wipe_cons]; rfl) ?_
    have wc : cntD (zsOf m w fun _ => 2) (mR m (upd (fun i => .int c) k (.bl b))) = some (k : Int) := cnt_upd Fc hk rfl
    have wb : ∀ N, (mR m (upd (fun i => .int c) k (.bl b))).bel N = true := fun N => bel_row (f := fun _ => c) rfl
    generalize mR m (upd (fun i => .int c) k (.bl b)) = wr at wc wb ⊢
    refine Nx.forR (m := 2) (em := fun (i : Nat) => .int (i : Int)) (S' := S2) (by simp only [show rngD (.int 2) S2 = _ from rng_R (m := 2) (by decide), eSs_cons, eS_if, eS_asg, eS_sub, eS_exp, eS_ret, eS_for, eS_rais, eS_brk, eS_cont, eS_pass, ss_nil', eT_or, eT_and, eT_no, eT_isi, eT_var, eT_cst, eT_op, eT_chn, eT_call, eT_bi, eE_isi, eE_var, eE_op, eE_glo, eE_chn, eE_cst, eE_bi, eE_bif, eE_tup, eE_fre, eE_dic0, eE_neg, eE_no, eE_and, eE_or, eE_ite, eE_call, eE_me, eE_sl, eE_rev, eO_non, eO_som, part_int, eEs_cons, eEs_nil, eF_lst, eF_list, eF_lc, eI_e, eI_f, eI_rng1, eI_enu, eI_z2, eI_z3, src_tup, src_rol, enu_tup, zip_tup, zip_tup3, its_items, List.getElem?_cons_zero, List.getElem?_cons_succ, List.set_cons_zero, List.set_cons_succ, rdVar_some, rb_ok, rb_exn, any_str, any_tup, any_int, any_bl, any_non, tr_bl, pur_at, alloc_at, bnd_at, o_add, o_sub, o_lt, o_le, o_gt, o_ge, o_eqI, o_neI, o_eqS, o_isN, chn_t, chn_f, lf_ok, lf_exn, sq_nx, sq_ret, sq_exn, ctx_glo, ctx_call, ctx_ini, opt_some, o_notinS, o_inS, bi_lenT, bi_intI, bi_intB, bi_abs, bi_max, bi_min, bif_tup, bi_tupT, neg_int', sl_tup, nxO_some, putT_nm, putT_tup, putTs_nil, putTs_cons, Option.bind_some, raiO_1, raiO_2, ix_0, ix_1, beq_self_eq_true, Bool.not_true, Bool.not_false, Bool.false_eq_true, ↓reduceIte, Bool.true_and, Bool.false_and, Bool.and_false, Bool.and_true, decide_true, decide_false, wipe_nil, wipe_cons]) (fun _ δ S' => (∃ x11 x12, δ = [some (.ref t), some (.ref a), some (dL m w z), some (.int (k : Int)), some (dL m w fun _ => 2), some (dI m fun _ => 1), some (dI m fun _ => 0), some (dI m fun _ => 2), some (.tup [dI m fun _ => c, .bl b]), some (dI m fun _ => c), some wr, x11, x12, none, none]) ∧ Fr t g a S S' ∧ (∃ bs', Mem S' t g a bs' ∧ As p0 p1 p2 p3 bs')) ?_ ⟨⟨_, _, rfl⟩, Fr2, bs2, M2, A2⟩ ?_
    · rintro j δ S3 hj ⟨⟨x11, x12, rfl⟩, Fr3, bs3, M3, A3⟩
      rw [forB_at (δ' := [some (.ref t), some (.ref a), some (dL m w z), some (.int (k : Int)), some (dL m w fun _ => 2), some (dI m fun _ => 1), some (dI m fun _ => 0), some (dI m fun _ => 2), some (.tup [dI m fun _ => c, .bl b]), some (dI m fun _ => c), some wr, some (.int (j : Int)), x12, none, none]) rfl]
      obtain ⟨_, S4, bs4, e4, ⟨rfl, hA4⟩, M4, F4⟩ := ask_below_ok HP (fu := fu) (n := n) G2 Fc F2 M3 A3
      have A4 : As p0 p1 p2 p3 bs4 := by
        cases e : leR m (fun _ => c) (fun _ => 2) with
        | true => exact ((hA4 _ _ _ _ A3).1 e).mono (by omega) (by omega) (by omega) (by omega)
        | false => exact ((hA4 _ _ _ _ A3).2 e).mono (by omega) (by omega) (by omega) (by omega)
      have al := ask_least_ok HP (fu := fu) (n := n) (S := S3) G2 Fc F2
      refine Nx.step (by simp only [al, e4, eSs_cons, eS_if, eS_asg, eS_sub, eS_exp, eS_ret, eS_for, eS_rais, eS_brk, eS_cont, eS_pass, ss_nil', eT_or, eT_and, eT_no, eT_isi, eT_var, eT_cst, eT_op, eT_chn, eT_call, eT_bi, eE_isi, eE_var, eE_op, eE_glo, eE_chn, eE_cst, eE_bi, eE_bif, eE_tup, eE_fre, eE_dic0, eE_neg, eE_no, eE_and, eE_or, eE_ite, eE_call, eE_me, eE_sl, eE_rev, eO_non, eO_som, part_int, eEs_cons, eEs_nil, eF_lst, eF_list, eF_lc, eI_e, eI_f, eI_rng1, eI_enu, eI_z2, eI_z3, src_tup, src_rol, enu_tup, zip_tup, zip_tup3, its_items, List.getElem?_cons_zero, List.getElem?_cons_succ, List.set_cons_zero, List.set_cons_succ, rdVar_some, rb_ok, rb_exn, any_str, any_tup, any_int, any_bl, any_non, tr_bl, pur_at, alloc_at, bnd_at, o_add, o_sub, o_lt, o_le, o_gt, o_ge, o_eqI, o_neI, o_eqS, o_isN, chn_t, chn_f, lf_ok, lf_exn, sq_nx, sq_ret, sq_exn, ctx_glo, ctx_call, ctx_ini, opt_some, o_notinS, o_inS, bi_lenT, bi_intI, bi_intB, bi_abs, bi_max, bi_min, bif_tup, bi_tupT, neg_int', sl_tup, nxO_some, putT_nm, putT_tup, putTs_nil, putTs_cons, Option.bind_some, raiO_1, raiO_2, ix_0, ix_1, beq_self_eq_true, Bool.not_true, Bool.not_false, Bool.false_eq_true, ↓reduceIte, Bool.true_and, Bool.false_and, Bool.and_false, Bool.and_true, decide_true, decide_false, wipe_nil, wipe_cons]; rfl) ?_
      obtain ⟨_, S5, bs5, e5, ⟨rfl, hA5⟩, M5, F5⟩ := ask_below_ok HP (fu := fu) (n := n) G2 F2 Fc M4 A4
      have A5 : As p0 p1 p2 p3 bs5 := by
        cases e : leR m (fun _ => 2) (fun _ => c) with
        | true => exact ((hA5 _ _ _ _ A4).1 e).mono (by omega) (by omega) (by omega) (by omega)
        | false => exact ((hA5 _ _ _ _ A4).2 e).mono (by omega) (by omega) (by omega) (by omega)
      refine Nx.step (by simp only [e5, eSs_cons, eS_if, eS_asg, eS_sub, eS_exp, eS_ret, eS_for, eS_rais, eS_brk, eS_cont, eS_pass, ss_nil', eT_or, eT_and, eT_no, eT_isi, eT_var, eT_cst, eT_op, eT_chn, eT_call, eT_bi, eE_isi, eE_var, eE_op, eE_glo, eE_chn, eE_cst, eE_bi, eE_bif, eE_tup, eE_fre, eE_dic0, eE_neg, eE_no, eE_and, eE_or, eE_ite, eE_call, eE_me, eE_sl, eE_rev, eO_non, eO_som, part_int, eEs_cons, eEs_nil, eF_lst, eF_list, eF_lc, eI_e, eI_f, eI_rng1, eI_enu, eI_z2, eI_z3, src_tup, src_rol, enu_tup, zip_tup, zip_tup3, its_items, List.getElem?_cons_zero, List.getElem?_cons_succ, List.set_cons_zero, List.set_cons_succ, rdVar_some, rb_ok, rb_exn, any_str, any_tup, any_int, any_bl, any_non, tr_bl, pur_at, alloc_at, bnd_at, o_add, o_sub, o_lt, o_le, o_gt, o_ge, o_eqI, o_neI, o_eqS, o_isN, chn_t, chn_f, lf_ok, lf_exn, sq_nx, sq_ret, sq_exn, ctx_glo, ctx_call, ctx_ini, opt_some, o_notinS, o_inS, bi_lenT, bi_intI, bi_intB, bi_abs, bi_max, bi_min, bif_tup, bi_tupT, neg_int', sl_tup, nxO_some, putT_nm, putT_tup, putTs_nil, putTs_cons, Option.bind_some, raiO_1, raiO_2, ix_0, ix_1, beq_self_eq_true, Bool.not_true, Bool.not_false, Bool.false_eq_true, ↓reduceIte, Bool.true_and, Bool.false_and, Bool.and_false, Bool.and_true, decide_true, decide_false, wipe_nil, wipe_cons]; rfl) ?_
      have to := fun x => told_outside HP (fu := fu) (n := n + 1) (S := S5) (x := x) G2 Fc
      have hF1 : evF (ctx P fu (callN P fu (n + 6))) [some (.ref t), some (.ref a), some (dL m w z), some (.int (k : Int)), some (dL m w fun _ => 2), some (dI m fun _ => 1), some (dI m fun _ => 0), some (dI m fun _ => 2), some (.tup [dI m fun _ => c, .bl b]), some (dI m fun _ => c), some wr, some (.int (j : Int)), x12, none, none] (.lc [14] (.op .sub (.cst (.int 2)) (.var 14)) (.nm 14) (.e (.var 9)) .nil) S5 = .ok ((List.range m).map fun i => .int (2 - c)) S5 :=
        evF_R (em := fun i => .int c) G.top (by simp only [show srcD (dI m fun _ => c) S5 = .ok (.its ((List.range m).map fun i => D.int c)) S5 from src_tup, eSs_cons, eS_if, eS_asg, eS_sub, eS_exp, eS_ret, eS_for, eS_rais, eS_brk, eS_cont, eS_pass, ss_nil', eT_or, eT_and, eT_no, eT_isi, eT_var, eT_cst, eT_op, eT_chn, eT_call, eT_bi, eE_isi, eE_var, eE_op, eE_glo, eE_chn, eE_cst, eE_bi, eE_bif, eE_tup, eE_fre, eE_dic0, eE_neg, eE_no, eE_and, eE_or, eE_ite, eE_call, eE_me, eE_sl, eE_rev, eO_non, eO_som, part_int, eEs_cons, eEs_nil, eF_lst, eF_list, eF_lc, eI_e, eI_f, eI_rng1, eI_enu, eI_z2, eI_z3, src_tup, src_rol, enu_tup, zip_tup, zip_tup3, its_items, List.getElem?_cons_zero, List.getElem?_cons_succ, List.set_cons_zero, List.set_cons_succ, rdVar_some, rb_ok, rb_exn, any_str, any_tup, any_int, any_bl, any_non, tr_bl, pur_at, alloc_at, bnd_at, o_add, o_sub, o_lt, o_le, o_gt, o_ge, o_eqI, o_neI, o_eqS, o_isN, chn_t, chn_f, lf_ok, lf_exn, sq_nx, sq_ret, sq_exn, ctx_glo, ctx_call, ctx_ini, opt_some, o_notinS, o_inS, bi_lenT, bi_intI, bi_intB, bi_abs, bi_max, bi_min, bif_tup, bi_tupT, neg_int', sl_tup, nxO_some, putT_nm, putT_tup, putTs_nil, putTs_cons, Option.bind_some, raiO_1, raiO_2, ix_0, ix_1, beq_self_eq_true, Bool.not_true, Bool.not_false, Bool.false_eq_true, ↓reduceIte, Bool.true_and, Bool.false_and, Bool.and_false, Bool.and_true, decide_true, decide_false, wipe_nil, wipe_cons]) fun i hi => lcF_at rfl (by simp only [eSs_cons, eS_if, eS_asg, eS_sub, eS_exp, eS_ret, eS_for, eS_rais, eS_brk, eS_cont, eS_pass, ss_nil', eT_or, eT_and, eT_no, eT_isi, eT_var, eT_cst, eT_op, eT_chn, eT_call, eT_bi, eE_isi, eE_var, eE_op, eE_glo, eE_chn, eE_cst, eE_bi, eE_bif, eE_tup, eE_fre, eE_dic0, eE_neg, eE_no, eE_and, eE_or, eE_ite, eE_call, eE_me, eE_sl, eE_rev, eO_non, eO_som, part_int, eEs_cons, eEs_nil, eF_lst, eF_list, eF_lc, eI_e, eI_f, eI_rng1, eI_enu, eI_z2, eI_z3, src_tup, src_rol, enu_tup, zip_tup, zip_tup3, its_items, List.getElem?_cons_zero, List.getElem?_cons_succ, List.set_cons_zero, List.set_cons_succ, rdVar_some, rb_ok, rb_exn, any_str, any_tup, any_int, any_bl, any_non, tr_bl, pur_at, alloc_at, bnd_at, o_add, o_sub, o_lt, o_le, o_gt, o_ge, o_eqI, o_neI, o_eqS, o_isN, chn_t, chn_f, lf_ok, lf_exn, sq_nx, sq_ret, sq_exn, ctx_glo, ctx_call, ctx_ini, opt_some, o_notinS, o_inS, bi_lenT, bi_intI, bi_intB, bi_abs, bi_max, bi_min, bif_tup, bi_tupT, neg_int', sl_tup, nxO_some, putT_nm, putT_tup, putTs_nil, putTs_cons, Option.bind_some, raiO_1, raiO_2, ix_0, ix_1, beq_self_eq_true, Bool.not_true, Bool.not_false, Bool.false_eq_true, ↓reduceIte, Bool.true_and, Bool.false_and, Bool.and_false, Bool.and_true, decide_true, decide_false, wipe_nil, wipe_cons])
      have hb1 : biF .tuple ((List.range m).map fun i => D.int (2 - c)) S5 = .ok (dI m fun i => 2 - c) S5 := rfl
      have hs1 := same_I HP (fu := fu) (n := n + 1) (S := S5) (f := fun i => 2 - c) G.top
      refine Nx.step (by
        rw [eS_if, eT_no, eT_call, eE_call, eEs_cons]
        simp only [eE_call, eEs_cons, eEs_nil, eE_cst, eE_var, List.getElem?_cons_succ, List.getElem?_cons_zero, rdVar_some, rb_ok, pur_at, ctx_call, to, eE_tup, eE_bif, hF1, hb1, show D.str [116, 111, 108, 100] = sTold from rfl, hs1, tr_bl, lf_ok, Bool.not_true, Bool.false_eq_true, ↓reduceIte, ss_nil']
        rfl) ?_
      have tf := fun x => told_first HP (fu := fu) (n := n + 1) (S := S5) (x := x) G2 Fc
      have hF2 : evF (ctx P fu (callN P fu (n + 6))) [some (.ref t), some (.ref a), some (dL m w z), some (.int (k : Int)), some (dL m w fun _ => 2), some (dI m fun _ => 1), some (dI m fun _ => 0), some (dI m fun _ => 2), some (.tup [dI m fun _ => c, .bl b]), some (dI m fun _ => c), some wr, some (.int (j : Int)), x12, none, none] (.lc [14] (.sl (.tup (.cons (.tup (.cons (.cst (.int 0)) (.cons (.cst (.int 1)) .nil))) .nil)) .non (.som (.var 14))) (.nm 14) (.e (.var 9)) .nil) S5 = .ok ((List.range m).map fun i => fstD c) S5 :=
        evF_R (em := fun i => .int c) G.top (by simp only [show srcD (dI m fun _ => c) S5 = .ok (.its ((List.range m).map fun i => D.int c)) S5 from src_tup, eSs_cons, eS_if, eS_asg, eS_sub, eS_exp, eS_ret, eS_for, eS_rais, eS_brk, eS_cont, eS_pass, ss_nil', eT_or, eT_and, eT_no, eT_isi, eT_var, eT_cst, eT_op, eT_chn, eT_call, eT_bi, eE_isi, eE_var, eE_op, eE_glo, eE_chn, eE_cst, eE_bi, eE_bif, eE_tup, eE_fre, eE_dic0, eE_neg, eE_no, eE_and, eE_or, eE_ite, eE_call, eE_me, eE_sl, eE_rev, eO_non, eO_som, part_int, eEs_cons, eEs_nil, eF_lst, eF_list, eF_lc, eI_e, eI_f, eI_rng1, eI_enu, eI_z2, eI_z3, src_tup, src_rol, enu_tup, zip_tup, zip_tup3, its_items, List.getElem?_cons_zero, List.getElem?_cons_succ, List.set_cons_zero, List.set_cons_succ, rdVar_some, rb_ok, rb_exn, any_str, any_tup, any_int, any_bl, any_non, tr_bl, pur_at, alloc_at, bnd_at, o_add, o_sub, o_lt, o_le, o_gt, o_ge, o_eqI, o_neI, o_eqS, o_isN, chn_t, chn_f, lf_ok, lf_exn, sq_nx, sq_ret, sq_exn, ctx_glo, ctx_call, ctx_ini, opt_some, o_notinS, o_inS, bi_lenT, bi_intI, bi_intB, bi_abs, bi_max, bi_min, bif_tup, bi_tupT, neg_int', sl_tup, nxO_some, putT_nm, putT_tup, putTs_nil, putTs_cons, Option.bind_some, raiO_1, raiO_2, ix_0, ix_1, beq_self_eq_true, Bool.not_true, Bool.not_false, Bool.false_eq_true, ↓reduceIte, Bool.true_and, Bool.false_and, Bool.and_false, Bool.and_true, decide_true, decide_false, wipe_nil, wipe_cons]) fun i hi => lcF_at rfl (by
          have : D.tup (cut [D.tup [.int 0, .int 1]] none (some c)) = fstD c := by rcases hc with rfl | rfl <;> rfl
          simp only [this, eSs_cons, eS_if, eS_asg, eS_sub, eS_exp, eS_ret, eS_for, eS_rais, eS_brk, eS_cont, eS_pass, ss_nil', eT_or, eT_and, eT_no, eT_isi, eT_var, eT_cst, eT_op, eT_chn, eT_call, eT_bi, eE_isi, eE_var, eE_op, eE_glo, eE_chn, eE_cst, eE_bi, eE_bif, eE_tup, eE_fre, eE_dic0, eE_neg, eE_no, eE_and, eE_or, eE_ite, eE_call, eE_me, eE_sl, eE_rev, eO_non, eO_som, part_int, eEs_cons, eEs_nil, eF_lst, eF_list, eF_lc, eI_e, eI_f, eI_rng1, eI_enu, eI_z2, eI_z3, src_tup, src_rol, enu_tup, zip_tup, zip_tup3, its_items, List.getElem?_cons_zero, List.getElem?_cons_succ, List.set_cons_zero, List.set_cons_succ, rdVar_some, rb_ok, rb_exn, any_str, any_tup, any_int, any_bl, any_non, tr_bl, pur_at, alloc_at, bnd_at, o_add, o_sub, o_lt, o_le, o_gt, o_ge, o_eqI, o_neI, o_eqS, o_isN, chn_t, chn_f, lf_ok, lf_exn, sq_nx, sq_ret, sq_exn, ctx_glo, ctx_call, ctx_ini, opt_some, o_notinS, o_inS, bi_lenT, bi_intI, bi_intB, bi_abs, bi_max, bi_min, bif_tup, bi_tupT, neg_int', sl_tup, nxO_some, putT_nm, putT_tup, putTs_nil, putTs_cons, Option.bind_some, raiO_1, raiO_2, ix_0, ix_1, beq_self_eq_true, Bool.not_true, Bool.not_false, Bool.false_eq_true, ↓reduceIte, Bool.true_and, Bool.false_and, Bool.and_false, Bool.and_true, decide_true, decide_false, wipe_nil, wipe_cons])
      have hb2 : biF .tuple ((List.range m).map fun i => fstD c) S5 = .ok (mR m fun i => fstD c) S5 := rfl
      have hs2 := same5 HP (fu := fu) (n := n + 1) (S := S5) (d := .tup [sTold, mR m fun i => fstD c]) (Pl.pair .str (Pl.row G.top fun i hi => pl_fst))
      refine Nx.step (by
        rw [eS_if, eT_no, eT_call, eE_call, eEs_cons]
        simp only [eE_call, eEs_cons, eEs_nil, eE_cst, eE_var, List.getElem?_cons_succ, List.getElem?_cons_zero, rdVar_some, rb_ok, pur_at, ctx_call, tf, eE_tup, eE_bif, hF2, hb2, show D.str [116, 111, 108, 100] = sTold from rfl, hs2, tr_bl, lf_ok, Bool.not_true, Bool.false_eq_true, ↓reduceIte, ss_nil']
        rfl) ?_
      have hs := same5 HP (fu := fu) (n := n + 1) (S := S5) (d := .tup [sCounts, .int (k : Int)]) (Pl.pair .str .int)
      refine Nx.forL (by simp only [eSs_cons, eS_if, eS_asg, eS_sub, eS_exp, eS_ret, eS_for, eS_rais, eS_brk, eS_cont, eS_pass, ss_nil', eT_or, eT_and, eT_no, eT_isi, eT_var, eT_cst, eT_op, eT_chn, eT_call, eT_bi, eE_isi, eE_var, eE_op, eE_glo, eE_chn, eE_cst, eE_bi, eE_bif, eE_tup, eE_fre, eE_dic0, eE_neg, eE_no, eE_and, eE_or, eE_ite, eE_call, eE_me, eE_sl, eE_rev, eO_non, eO_som, part_int, eEs_cons, eEs_nil, eF_lst, eF_list, eF_lc, eI_e, eI_f, eI_rng1, eI_enu, eI_z2, eI_z3, src_tup, src_rol, enu_tup, zip_tup, zip_tup3, its_items, List.getElem?_cons_zero, List.getElem?_cons_succ, List.set_cons_zero, List.set_cons_succ, rdVar_some, rb_ok, rb_exn, any_str, any_tup, any_int, any_bl, any_non, tr_bl, pur_at, alloc_at, bnd_at, o_add, o_sub, o_lt, o_le, o_gt, o_ge, o_eqI, o_neI, o_eqS, o_isN, chn_t, chn_f, lf_ok, lf_exn, sq_nx, sq_ret, sq_exn, ctx_glo, ctx_call, ctx_ini, opt_some, o_notinS, o_inS, bi_lenT, bi_intI, bi_intB, bi_abs, bi_max, bi_min, bif_tup, bi_tupT, neg_int', sl_tup, nxO_some, putT_nm, putT_tup, putTs_nil, putTs_cons, Option.bind_some, raiO_1, raiO_2, ix_0, ix_1, beq_self_eq_true, Bool.not_true, Bool.not_false, Bool.false_eq_true, ↓reduceIte, Bool.true_and, Bool.false_and, Bool.and_false, Bool.and_true, decide_true, decide_false, wipe_nil, wipe_cons]; rfl) (fun l' δ S' => (∃ x12, δ = [some (.ref t), some (.ref a), some (dL m w z), some (.int (k : Int)), some (dL m w fun _ => 2), some (dI m fun _ => 1), some (dI m fun _ => 0), some (dI m fun _ => 2), some (.tup [dI m fun _ => c, .bl b]), some (dI m fun _ => c), some wr, some (.int (j : Int)), x12, none, none]) ∧ S' = S5 ∧ ∀ d ∈ l', ∃ k : Wh, (k = .least ∨ k = .below ∨ k = .outside ∨ k = .first) ∧ d = .str k.code) (fun _ _ _ _ => rfl) ?_ ⟨⟨_, rfl⟩, rfl, ?_⟩ ?_
      · rintro d r δ S' ⟨⟨x12, rfl⟩, rfl, hw'⟩
        obtain ⟨kk, hkk, rfl⟩ := hw' d List.mem_cons_self
        have t1 := fun x => tc1 HP (fu := fu) (n := n + 1) (x := x) G2 hkk (wb S'.length) wc
        rw [forB_at rfl]
        simp only [t1, show D.str [99, 111, 117, 110, 116, 115] = sCounts from rfl, hs, eSs_cons, eS_if, eS_asg, eS_sub, eS_exp, eS_ret, eS_for, eS_rais, eS_brk, eS_cont, eS_pass, ss_nil', eT_or, eT_and, eT_no, eT_isi, eT_var, eT_cst, eT_op, eT_chn, eT_call, eT_bi, eE_isi, eE_var, eE_op, eE_glo, eE_chn, eE_cst, eE_bi, eE_bif, eE_tup, eE_fre, eE_dic0, eE_neg, eE_no, eE_and, eE_or, eE_ite, eE_call, eE_me, eE_sl, eE_rev, eO_non, eO_som, part_int, eEs_cons, eEs_nil, eF_lst, eF_list, eF_lc, eI_e, eI_f, eI_rng1, eI_enu, eI_z2, eI_z3, src_tup, src_rol, enu_tup, zip_tup, zip_tup3, its_items, List.getElem?_cons_zero, List.getElem?_cons_succ, List.set_cons_zero, List.set_cons_succ, rdVar_some, rb_ok, rb_exn, any_str, any_tup, any_int, any_bl, any_non, tr_bl, pur_at, alloc_at, bnd_at, o_add, o_sub, o_lt, o_le, o_gt, o_ge, o_eqI, o_neI, o_eqS, o_isN, chn_t, chn_f, lf_ok, lf_exn, sq_nx, sq_ret, sq_exn, ctx_glo, ctx_call, ctx_ini, opt_some, o_notinS, o_inS, bi_lenT, bi_intI, bi_intB, bi_abs, bi_max, bi_min, bif_tup, bi_tupT, neg_int', sl_tup, nxO_some, putT_nm, putT_tup, putTs_nil, putTs_cons, Option.bind_some, raiO_1, raiO_2, ix_0, ix_1, beq_self_eq_true, Bool.not_true, Bool.not_false, Bool.false_eq_true, ↓reduceIte, Bool.true_and, Bool.false_and, Bool.and_false, Bool.and_true, decide_true, decide_false, wipe_nil, wipe_cons]
        exact ⟨_, _, rfl, ⟨_, rfl⟩, rfl, fun x hx => hw' x (List.mem_cons_of_mem _ hx)⟩
      · intro d hd
        simp only [Src.items, List.mem_cons, List.not_mem_nil, or_false] at hd
        rcases hd with rfl | rfl | rfl | rfl
        · exact ⟨.least, .inl rfl, rfl⟩
        · exact ⟨.below, .inr (.inl rfl), rfl⟩
        · exact ⟨.outside, .inr (.inr (.inl rfl)), rfl⟩
        · exact ⟨.first, .inr (.inr (.inr rfl)), rfl⟩
      rintro δ S' ⟨⟨x12', rfl⟩, rfl, -⟩
      refine Nx.forL (by simp only [eSs_cons, eS_if, eS_asg, eS_sub, eS_exp, eS_ret, eS_for, eS_rais, eS_brk, eS_cont, eS_pass, ss_nil', eT_or, eT_and, eT_no, eT_isi, eT_var, eT_cst, eT_op, eT_chn, eT_call, eT_bi, eE_isi, eE_var, eE_op, eE_glo, eE_chn, eE_cst, eE_bi, eE_bif, eE_tup, eE_fre, eE_dic0, eE_neg, eE_no, eE_and, eE_or, eE_ite, eE_call, eE_me, eE_sl, eE_rev, eO_non, eO_som, part_int, eEs_cons, eEs_nil, eF_lst, eF_list, eF_lc, eI_e, eI_f, eI_rng1, eI_enu, eI_z2, eI_z3, src_tup, src_rol, enu_tup, zip_tup, zip_tup3, its_items, List.getElem?_cons_zero, List.getElem?_cons_succ, List.set_cons_zero, List.set_cons_succ, rdVar_some, rb_ok, rb_exn, any_str, any_tup, any_int, any_bl, any_non, tr_bl, pur_at, alloc_at, bnd_at, o_add, o_sub, o_lt, o_le, o_gt, o_ge, o_eqI, o_neI, o_eqS, o_isN, chn_t, chn_f, lf_ok, lf_exn, sq_nx, sq_ret, sq_exn, ctx_glo, ctx_call, ctx_ini, opt_some, o_notinS, o_inS, bi_lenT, bi_intI, bi_intB, bi_abs, bi_max, bi_min, bif_tup, bi_tupT, neg_int', sl_tup, nxO_some, putT_nm, putT_tup, putTs_nil, putTs_cons, Option.bind_some, raiO_1, raiO_2, ix_0, ix_1, beq_self_eq_true, Bool.not_true, Bool.not_false, Bool.false_eq_true, ↓reduceIte, Bool.true_and, Bool.false_and, Bool.and_false, Bool.and_true, decide_true, decide_false, wipe_nil, wipe_cons]; rfl) (fun l' δ S'' => (∃ x12, δ = [some (.ref t), some (.ref a), some (dL m w z), some (.int (k : Int)), some (dL m w fun _ => 2), some (dI m fun _ => 1), some (dI m fun _ => 0), some (dI m fun _ => 2), some (.tup [dI m fun _ => c, .bl b]), some (dI m fun _ => c), some wr, some (.int (j : Int)), x12, none, none]) ∧ S'' = S' ∧ ∀ d ∈ l', ∃ k : Wh, (k = .least ∨ k = .below) ∧ d = .str k.code) (fun _ _ _ _ => rfl) ?_ ⟨⟨_, rfl⟩, rfl, ?_⟩ ?_
      · rintro d r δ S'' ⟨⟨x12, rfl⟩, rfl, hw'⟩
        obtain ⟨kk, hkk, rfl⟩ := hw' d List.mem_cons_self
        have t2 := tc2 HP (fu := fu) (n := n + 1) G2 F2 hkk (wb S''.length) wc
        rw [forB_at rfl]
        simp only [t2, show D.str [99, 111, 117, 110, 116, 115] = sCounts from rfl, hs, eSs_cons, eS_if, eS_asg, eS_sub, eS_exp, eS_ret, eS_for, eS_rais, eS_brk, eS_cont, eS_pass, ss_nil', eT_or, eT_and, eT_no, eT_isi, eT_var, eT_cst, eT_op, eT_chn, eT_call, eT_bi, eE_isi, eE_var, eE_op, eE_glo, eE_chn, eE_cst, eE_bi, eE_bif, eE_tup, eE_fre, eE_dic0, eE_neg, eE_no, eE_and, eE_or, eE_ite, eE_call, eE_me, eE_sl, eE_rev, eO_non, eO_som, part_int, eEs_cons, eEs_nil, eF_lst, eF_list, eF_lc, eI_e, eI_f, eI_rng1, eI_enu, eI_z2, eI_z3, src_tup, src_rol, enu_tup, zip_tup, zip_tup3, its_items, List.getElem?_cons_zero, List.getElem?_cons_succ, List.set_cons_zero, List.set_cons_succ, rdVar_some, rb_ok, rb_exn, any_str, any_tup, any_int, any_bl, any_non, tr_bl, pur_at, alloc_at, bnd_at, o_add, o_sub, o_lt, o_le, o_gt, o_ge, o_eqI, o_neI, o_eqS, o_isN, chn_t, chn_f, lf_ok, lf_exn, sq_nx, sq_ret, sq_exn, ctx_glo, ctx_call, ctx_ini, opt_some, o_notinS, o_inS, bi_lenT, bi_intI, bi_intB, bi_abs, bi_max, bi_min, bif_tup, bi_tupT, neg_int', sl_tup, nxO_some, putT_nm, putT_tup, putTs_nil, putTs_cons, Option.bind_some, raiO_1, raiO_2, ix_0, ix_1, beq_self_eq_true, Bool.not_true, Bool.not_false, Bool.false_eq_true, ↓reduceIte, Bool.true_and, Bool.false_and, Bool.and_false, Bool.and_true, decide_true, decide_false, wipe_nil, wipe_cons]
        exact ⟨_, _, rfl, ⟨_, rfl⟩, rfl, fun x hx => hw' x (List.mem_cons_of_mem _ hx)⟩
      · intro d hd
        simp only [Src.items, List.mem_cons, List.not_mem_nil, or_false] at hd
        rcases hd with rfl | rfl
        · exact ⟨.least, .inl rfl, rfl⟩
        · exact ⟨.below, .inr rfl, rfl⟩
      rintro δ S'' ⟨⟨x12', rfl⟩, rfl, -⟩
      exact ⟨_, _, rfl, ⟨_, _, rfl⟩, (Fr3.trans F4).trans F5, bs5, M5, A5⟩
    · rintro δ S' ⟨⟨x11, x12, rfl⟩, Fr', bs', M', A'⟩
      exact ⟨_, _, rfl, ⟨_, _, _, _, _, rfl⟩, Fr', ⟨bs', M', A'⟩, fun x hx => hl x (List.mem_cons_of_mem _ hx)⟩
  · intro d hd
    simp only [Src.items, List.mem_cons, List.not_mem_nil, or_false] at hd
    rcases hd with rfl | rfl
    · exact ⟨1, true, .inr rfl, rfl⟩
    · exact ⟨0, false, .inl rfl, rfl⟩
  rintro δ S' ⟨⟨x8, x9, x10, x11, x12, rfl⟩, F', ⟨bs', M', A'⟩, -⟩
  simp only [eSs_cons, eS_if, eS_asg, eS_sub, eS_exp, eS_ret, eS_for, eS_rais, eS_brk, eS_cont, eS_pass, ss_nil', eT_or, eT_and, eT_no, eT_isi, eT_var, eT_cst, eT_op, eT_chn, eT_call, eT_bi, eE_isi, eE_var, eE_op, eE_glo, eE_chn, eE_cst, eE_bi, eE_bif, eE_tup, eE_fre, eE_dic0, eE_neg, eE_no, eE_and, eE_or, eE_ite, eE_call, eE_me, eE_sl, eE_rev, eO_non, eO_som, part_int, eEs_cons, eEs_nil, eF_lst, eF_list, eF_lc, eI_e, eI_f, eI_rng1, eI_enu, eI_z2, eI_z3, src_tup, src_rol, enu_tup, zip_tup, zip_tup3, its_items, List.getElem?_cons_zero, List.getElem?_cons_succ, List.set_cons_zero, List.set_cons_succ, rdVar_some, rb_ok, rb_exn, any_str, any_tup, any_int, any_bl, any_non, tr_bl, pur_at, alloc_at, bnd_at, o_add, o_sub, o_lt, o_le, o_gt, o_ge, o_eqI, o_neI, o_eqS, o_isN, chn_t, chn_f, lf_ok, lf_exn, sq_nx, sq_ret, sq_exn, ctx_glo, ctx_call, ctx_ini, opt_some, o_notinS, o_inS, bi_lenT, bi_intI, bi_intB, bi_abs, bi_max, bi_min, bif_tup, bi_tupT, neg_int', sl_tup, nxO_some, putT_nm, putT_tup, putTs_nil, putTs_cons, Option.bind_some, raiO_1, raiO_2, ix_0, ix_1, beq_self_eq_true, Bool.not_true, Bool.not_false, Bool.false_eq_true, ↓reduceIte, Bool.true_and, Bool.false_and, Bool.and_false, Bool.and_true, decide_true, decide_false, wipe_nil, wipe_cons]
  exact ⟨_, _, rfl, bs', ⟨rfl, A'⟩, rfl, M', F'.ext⟩
end
end K03

set_option Elab.async false
set_option linter.all false
set_option maxRecDepth 100000
set_option maxHeartbeats 4000000
/-! k03: a word, lots. -/
namespace Mi
theorem ixS {S : Store} {s : List Nat} {r : Int} (hm : s.length ≤ mx) (h0 : 0 ≤ r) (h1 : r < (s.length : Int)) : ∃ c, opD .ix (.str s) (.int r) S = .ok (.str [c]) S ∧ c ∈ s := by
  obtain ⟨k, rfl⟩ : ∃ k : Nat, r = (k : Int) := ⟨r.toNat, by omega⟩
  have hk : k < s.length := by omega
  refine ⟨s[k], ?_, List.getElem_mem hk⟩
  show (if s.length ≤ mx then (match (ixn s.length (k : Int)).bind fun j => s[j]? with
      | some c => pur (.str [c])
      | none => bad) else bad : M D) S = _
  rw [if_pos hm]
  have : ixn s.length (k : Int) = some k := by
    unfold ixn
    rw [if_pos (by omega), if_pos (by omega), Int.toNat_natCast]
  rw [this]
  show (match s[k]? with
      | some c => pur (.str [c])
      | none => bad : M D) S = _
  rw [List.getElem?_eq_getElem hk]
  rfl
theorem add_str {S : Store} {s u : List Nat} (h : s.length + u.length ≤ mx) : opD .add (.str s) (.str u) S = .ok (.str (s ++ u)) S := by
  show (if s.length + u.length ≤ mx then pur (.str (s ++ u)) else bad : M D) S = _
  rw [if_pos h]
  rfl
theorem scal_strs (ws : List (List Nat)) : (ws.map D.str).all D.scal = true := by
  induction ws with
  | nil => rfl
  | cons w ws ih => rw [List.map_cons, List.all_cons, ih]; rfl
theorem in_words {S : Store} {n : Nat} {s : List Nat} {ws : List (List Nat)} (h : S[n]? = some (.lst (ws.map D.str))) : opD .in_ (.str s) (.ref n) S = .ok (.bl (ws.contains s)) S := by
  show opIn false (.str s) (.ref n) S = _
  unfold opIn
  simp only [h]
  rw [show (D.scal (.str s) && (ws.map D.str).all D.scal) = true from by rw [scal_strs]; rfl, if_pos rfl, inD_str, Bool.false_xor]
theorem notin_words {S : Store} {n : Nat} {s : List Nat} {ws : List (List Nat)} (h : S[n]? = some (.lst (ws.map D.str))) : opD .notin (.str s) (.ref n) S = .ok (.bl (!ws.contains s)) S := by
  show opIn true (.str s) (.ref n) S = _
  unfold opIn
  simp only [h]
  rw [show (D.scal (.str s) && (ws.map D.str).all D.scal) = true from by rw [scal_strs]; rfl, if_pos rfl, inD_str, Bool.true_xor]
theorem holes {α : Type} [BEq α] [LawfulBEq α] {f : Nat → α} : ∀ (n : Nat) (ws : List α), (∀ i j, i < n → j < n → f i = f j → i = j) → (∀ k, k < n → f k ∈ ws) → n ≤ ws.length
  | 0, _, _, _ => Nat.zero_le _
  | n + 1, ws, hi, hm => by
    have h1 := holes n (ws.erase (f n)) (fun i j a b => hi i j (by omega) (by omega)) fun k hk => (List.mem_erase_of_ne (fun e => by have := hi k n (by omega) (by omega) e; omega)).mpr (hm k (by omega))
    rw [List.length_erase_of_mem (hm n (by omega))] at h1
    have : 0 < ws.length := List.length_pos_of_mem (hm n (by omega))
    omega
end Mi
namespace K03
open Mi
def sAll : List Nat := [97, 98, 99, 100, 101, 102, 103, 104, 105, 106, 107, 108, 109, 110, 111, 112, 113, 114, 115, 116, 117, 118, 119, 120, 121, 122, 48, 49, 50, 51, 52, 53, 54, 55, 56, 57]
theorem all_ok : sAll.all okc = true := by decide
/-- the beginning of a word -/
def Beg (s : List Nat) (n : Nat) : Prop := s.length ≤ n ∧ hdc s = true ∧ s.all okc = true
theorem Beg.ne {s : List Nat} {n : Nat} (h : Beg s n) : 1 ≤ s.length := by
  cases s with
  | nil => exact absurd h.2.1 (by decide)
  | cons c s => exact Nat.le_add_left 1 _
theorem Beg.app {s : List Nat} {n c : Nat} (h : Beg s n) (hc : okc c = true) : Beg (s ++ [c]) (n + 1) := by
  refine ⟨by rw [List.length_append]; show s.length + 1 ≤ n + 1; have := h.1; omega, ?_, ?_⟩
  · cases s with
    | nil => exact absurd h.2.1 (by decide)
    | cons d s => exact h.2.1
  · rw [List.all_append, h.2.2]
    show (okc c && true) = true
    rw [hc]
    rfl
theorem Beg.take {s : List Nat} {n : Nat} (h : Beg s n) : Beg (s.take 6) 6 := by
  refine ⟨by rw [List.length_take]; omega, ?_, ?_⟩
  · cases s with
    | nil => exact absurd h.2.1 (by decide)
    | cons d s => exact h.2.1
  · rw [List.all_eq_true]
    exact fun c hc => List.all_eq_true.mp h.2.2 c (List.mem_of_mem_take hc)
theorem Beg.word {s : List Nat} (h : Beg s 8) (hk : wKept.contains s = false) : wordB s = true := by
  unfold wordB
  rw [decide_eq_true h.ne, decide_eq_true h.1, h.2.1, hk, h.2.2]
  rfl
theorem kept_nodig : wKept.all (fun s => !(s.any fun c => decide (c < 58))) = true := by decide
theorem dig_kept {s : List Nat} {k : Nat} (hk : k < 10) : wKept.contains (s ++ [48 + k]) = false := by
  rw [← Bool.not_eq_true, List.contains_iff_mem]
  intro h
  have := List.all_eq_true.mp kept_nodig _ h
  rw [List.any_append] at this
  have e : ([48 + k].any fun c => decide (c < 58)) = true := by
    show (decide (48 + k < 58) || false) = true
    rw [decide_eq_true (by omega)]
    rfl
  rw [e, Bool.or_true] at this
  cases this
theorem figs_k {k : Nat} (hk : k < 10) : figs (k : Int) = [48 + k] := by
  have : k = 0 ∨ k = 1 ∨ k = 2 ∨ k = 3 ∨ k = 4 ∨ k = 5 ∨ k = 6 ∨ k = 7 ∨ k = 8 ∨ k = 9 := by omega
  rcases this with rfl | rfl | rfl | rfl | rfl | rfl | rfl | rfl | rfl | rfl <;> decide
section
variable {P : Prog} (HP : HasL P) {fu n : Nat} {S : Store} {t g a : Nat} {bs : List Int}
include HP
theorem kept_ok : callN P fu (n + 1) "_law_kept" [] S = .ok (.tup (wKept.map D.str)) S := by
  rw [call_eq HP.f__law_kept rfl]
  have e0 : evSs (ctx P fu (callN P fu n)) b__law_kept [] S = .ret (.tup (wKept.map D.str)) S := by
    simp only [b__law_kept, eSs_cons, eS_if, eS_asg, eS_sub, eS_exp, eS_ret, eS_for, eS_rais, eS_brk, eS_cont, eS_pass, ss_nil', eT_or, eT_and, eT_no, eT_isi, eT_var, eT_cst, eT_op, eT_chn, eT_call, eT_bi, eE_isi, eE_var, eE_op, eE_glo, eE_chn, eE_cst, eE_bi, eE_bif, eE_tup, eE_fre, eE_dic0, eE_neg, eE_no, eE_and, eE_or, eE_ite, eE_call, eE_me, eE_sl, eE_rev, eO_non, eO_som, part_int, eEs_cons, eEs_nil, eF_lst, eF_list, eF_lc, eI_e, eI_f, eI_rng1, eI_enu, eI_z2, eI_z3, src_tup, src_rol, enu_tup, zip_tup, zip_tup3, its_items, List.getElem?_cons_zero, List.getElem?_cons_succ, List.set_cons_zero, List.set_cons_succ, rdVar_some, rb_ok, rb_exn, any_str, any_tup, any_int, any_bl, any_non, tr_bl, pur_at, alloc_at, bnd_at, o_add, o_sub, o_lt, o_le, o_gt, o_ge, o_eqI, o_neI, o_eqS, o_isN, chn_t, chn_f, lf_ok, lf_exn, sq_nx, sq_ret, sq_exn, ctx_glo, ctx_call, ctx_ini, opt_some, o_notinS, o_inS, bi_lenT, bi_intI, bi_intB, bi_abs, bi_max, bi_min, bif_tup, bi_tupT, neg_int', sl_tup, nxO_some, putT_nm, putT_tup, putTs_nil, putTs_cons, Option.bind_some, raiO_1, raiO_2, ix_0, ix_1, beq_self_eq_true, Bool.not_true, Bool.not_false, Bool.false_eq_true, ↓reduceIte, Bool.true_and, Bool.false_and, Bool.and_false, Bool.and_true, decide_true, decide_false, wipe_nil, wipe_cons]
    rfl
  exact (congrArg (fun r => fin S (endR r)) e0).trans (fin_ok0 rfl)
theorem word_ok {b : Nat} {ws : List (List Nat)} (M0 : Mem S t g a bs) (hb : S[b]? = some (.lst (ws.map D.str))) (b1 : b ≠ t) (b2 : b ≠ g) (b3 : b ≠ a) (hw : ws.length ≤ 8) :
    Res t g a S (callN P fu (n + 2) "_law_word" [.ref t, .ref b] S) fun d bs' => bs' = bs ∧ ∃ s, d = .str s ∧ wordB s = true ∧ ws.contains s = false := by
  refine res_of HP.f__law_word rfl M0 ?_
  show Ret (evSs _ b__law_word [some (.ref t), some (.ref b), none, none, none] S) _
  unfold b__law_word
  obtain ⟨r, S1, e1, hr, M1, F1⟩ := draw HP (fu := fu) (n := n) M0 (many := 26) (by decide) (by decide)
  obtain ⟨c, hc, hcm⟩ := ixS (S := S1) (s := [97, 98, 99, 100, 101, 102, 103, 104, 105, 106, 107, 108, 109, 110, 111, 112, 113, 114, 115, 116, 117, 118, 119, 120, 121, 122]) (r := r) (show 26 ≤ mx by decide) hr.1 hr.2
  refine Ret.step (by simp only [e1, hc, eSs_cons, eS_if, eS_asg, eS_sub, eS_exp, eS_ret, eS_for, eS_rais, eS_brk, eS_cont, eS_pass, ss_nil', eT_or, eT_and, eT_no, eT_isi, eT_var, eT_cst, eT_op, eT_chn, eT_call, eT_bi, eE_isi, eE_var, eE_op, eE_glo, eE_chn, eE_cst, eE_bi, eE_bif, eE_tup, eE_fre, eE_dic0, eE_neg, eE_no, eE_and, eE_or, eE_ite, eE_call, eE_me, eE_sl, eE_rev, eO_non, eO_som, part_int, eEs_cons, eEs_nil, eF_lst, eF_list, eF_lc, eI_e, eI_f, eI_rng1, eI_enu, eI_z2, eI_z3, src_tup, src_rol, enu_tup, zip_tup, zip_tup3, its_items, List.getElem?_cons_zero, List.getElem?_cons_succ, List.set_cons_zero, List.set_cons_succ, rdVar_some, rb_ok, rb_exn, any_str, any_tup, any_int, any_bl, any_non, tr_bl, pur_at, alloc_at, bnd_at, o_add, o_sub, o_lt, o_le, o_gt, o_ge, o_eqI, o_neI, o_eqS, o_isN, chn_t, chn_f, lf_ok, lf_exn, sq_nx, sq_ret, sq_exn, ctx_glo, ctx_call, ctx_ini, opt_some, o_notinS, o_inS, bi_lenT, bi_intI, bi_intB, bi_abs, bi_max, bi_min, bif_tup, bi_tupT, neg_int', sl_tup, nxO_some, putT_nm, putT_tup, putTs_nil, putTs_cons, Option.bind_some, raiO_1, raiO_2, ix_0, ix_1, beq_self_eq_true, Bool.not_true, Bool.not_false, Bool.false_eq_true, ↓reduceIte, Bool.true_and, Bool.false_and, Bool.and_false, Bool.and_true, decide_true, decide_false, wipe_nil, wipe_cons]; rfl) ?_
  obtain ⟨q, S2, e2, hq, M2, F2⟩ := draw HP (fu := fu) (n := n) M1 (many := 8) (by decide) (by decide)
  obtain ⟨q, rfl⟩ : ∃ k : Nat, q = (k : Int) := ⟨q.toNat, by omega⟩
  have hq8 : q < 8 := by omega
  have hqm : q ≤ mx := Nat.le_trans (Nat.le_of_lt hq8) (by decide)
  have c0 : Beg [c] 1 := ⟨Nat.le_refl _, by
    show sSmall.contains c = true
    rw [List.contains_iff_mem]
    exact hcm, by
    show (okc c && true) = true
    have : okc c = true := by
      unfold okc
      rw [show sSmall.contains c = true from by rw [List.contains_iff_mem]; exact hcm]
      rfl
    rw [this]
    rfl⟩
  refine Ret.forR (m := q) (em := fun (i : Nat) => .int (i : Int)) (S' := S2) (by simp only [e2, rng_R hqm, eSs_cons, eS_if, eS_asg, eS_sub, eS_exp, eS_ret, eS_for, eS_rais, eS_brk, eS_cont, eS_pass, ss_nil', eT_or, eT_and, eT_no, eT_isi, eT_var, eT_cst, eT_op, eT_chn, eT_call, eT_bi, eE_isi, eE_var, eE_op, eE_glo, eE_chn, eE_cst, eE_bi, eE_bif, eE_tup, eE_fre, eE_dic0, eE_neg, eE_no, eE_and, eE_or, eE_ite, eE_call, eE_me, eE_sl, eE_rev, eO_non, eO_som, part_int, eEs_cons, eEs_nil, eF_lst, eF_list, eF_lc, eI_e, eI_f, eI_rng1, eI_enu, eI_z2, eI_z3, src_tup, src_rol, enu_tup, zip_tup, zip_tup3, its_items, List.getElem?_cons_zero, List.getElem?_cons_succ, List.set_cons_zero, List.set_cons_succ, rdVar_some, rb_ok, rb_exn, any_str, any_tup, any_int, any_bl, any_non, tr_bl, pur_at, alloc_at, bnd_at, o_add, o_sub, o_lt, o_le, o_gt, o_ge, o_eqI, o_neI, o_eqS, o_isN, chn_t, chn_f, lf_ok, lf_exn, sq_nx, sq_ret, sq_exn, ctx_glo, ctx_call, ctx_ini, opt_some, o_notinS, o_inS, bi_lenT, bi_intI, bi_intB, bi_abs, bi_max, bi_min, bif_tup, bi_tupT, neg_int', sl_tup, nxO_some, putT_nm, putT_tup, putTs_nil, putTs_cons, Option.bind_some, raiO_1, raiO_2, ix_0, ix_1, beq_self_eq_true, Bool.not_true, Bool.not_false, Bool.false_eq_true, ↓reduceIte, Bool.true_and, Bool.false_and, Bool.and_false, Bool.and_true, decide_true, decide_false, wipe_nil, wipe_cons]) (fun i δ S' => (∃ s x3, δ = [some (.ref t), some (.ref b), some (.str s), x3, none] ∧ Beg s (1 + i)) ∧ Mem S' t g a bs ∧ Fr t g a S S') ?_ ⟨⟨_, _, rfl, c0⟩, M2, F1.trans F2⟩ ?_
  · rintro i δ S3 hi ⟨⟨s, x3, rfl, hs⟩, M3, F3⟩
    obtain ⟨r, S4, e4, hr, M4, F4⟩ := draw HP (fu := fu) (n := n) M3 (many := 36) (by decide) (by decide)
    obtain ⟨c, hc, hcm⟩ := ixS (S := S4) (s := sAll) (r := r) (show 36 ≤ mx by decide) hr.1 hr.2
    have hc : opD .ix (.str [97, 98, 99, 100, 101, 102, 103, 104, 105, 106, 107, 108, 109, 110, 111, 112, 113, 114, 115, 116, 117, 118, 119, 120, 121, 122, 48, 49, 50, 51, 52, 53, 54, 55, 56, 57]) (.int r) S4 = .ok (.str [c]) S4 := hc
    have ha : opD .add (.str s) (.str [c]) S4 = .ok (.str (s ++ [c])) S4 := add_str (by have := hs.1; show s.length + 1 ≤ mx; exact Nat.le_trans (show s.length + 1 ≤ 10 by omega) (by decide))
    rw [forB_at rfl]
    simp only [e4, hc, ha, eSs_cons, eS_if, eS_asg, eS_sub, eS_exp, eS_ret, eS_for, eS_rais, eS_brk, eS_cont, eS_pass, ss_nil', eT_or, eT_and, eT_no, eT_isi, eT_var, eT_cst, eT_op, eT_chn, eT_call, eT_bi, eE_isi, eE_var, eE_op, eE_glo, eE_chn, eE_cst, eE_bi, eE_bif, eE_tup, eE_fre, eE_dic0, eE_neg, eE_no, eE_and, eE_or, eE_ite, eE_call, eE_me, eE_sl, eE_rev, eO_non, eO_som, part_int, eEs_cons, eEs_nil, eF_lst, eF_list, eF_lc, eI_e, eI_f, eI_rng1, eI_enu, eI_z2, eI_z3, src_tup, src_rol, enu_tup, zip_tup, zip_tup3, its_items, List.getElem?_cons_zero, List.getElem?_cons_succ, List.set_cons_zero, List.set_cons_succ, rdVar_some, rb_ok, rb_exn, any_str, any_tup, any_int, any_bl, any_non, tr_bl, pur_at, alloc_at, bnd_at, o_add, o_sub, o_lt, o_le, o_gt, o_ge, o_eqI, o_neI, o_eqS, o_isN, chn_t, chn_f, lf_ok, lf_exn, sq_nx, sq_ret, sq_exn, ctx_glo, ctx_call, ctx_ini, opt_some, o_notinS, o_inS, bi_lenT, bi_intI, bi_intB, bi_abs, bi_max, bi_min, bif_tup, bi_tupT, neg_int', sl_tup, nxO_some, putT_nm, putT_tup, putTs_nil, putTs_cons, Option.bind_some, raiO_1, raiO_2, ix_0, ix_1, beq_self_eq_true, Bool.not_true, Bool.not_false, Bool.false_eq_true, ↓reduceIte, Bool.true_and, Bool.false_and, Bool.and_false, Bool.and_true, decide_true, decide_false, wipe_nil, wipe_cons]
    exact ⟨_, _, rfl, ⟨_, _, rfl, hs.app (List.all_eq_true.mp all_ok c hcm)⟩, M4, F3.trans F4⟩
  rintro δ S3 ⟨⟨s, x3, rfl, hs⟩, M3, F3⟩
  have hs8 : Beg s 8 := ⟨by have := hs.1; omega, hs.2⟩
  have hb3 : S3[b]? = some (.lst (ws.map D.str)) := by rw [F3.same b b1 b2 b3]; exact hb
  have hbel : ∀ s, D.bel S.length (.str s) = true := fun _ => rfl
  have fin1 : wKept.contains s = false → ws.contains s = false → Ret (SR.ret (.str s) S3) fun d S' => ∃ bs', (bs' = bs ∧ ∃ s, d = .str s ∧ wordB s = true ∧ ws.contains s = false) ∧ d.bel S.length = true ∧ Mem S' t g a bs' ∧ Ext t g a S S' := fun k1 k2 => ⟨_, _, rfl, bs, ⟨rfl, s, rfl, hs8.word k1, k2⟩, rfl, M3, F3.ext⟩
  -- ten others
  have ten : ∀ (k : Env → Store → SR), Ret ((lift [some (.ref t), some (.ref b), some (.str s), x3, none] (evI (ctx P fu (callN P fu (n + 1))) [some (.ref t), some (.ref b), some (.str s), x3, none] (.rng1 (.cst (.int 10))) S3) fun src S => forL src (forB (ctx P fu (callN P fu (n + 1))) (.nm 3) (.cons (.asg (.nm 4) (.op .add (.sl (.var 2) .non (.som (.cst (.int 6)))) (.bi .str (.cons (.var 3) .nil)))) (.cons (.if_ (.op .notin (.var 4) (.var 1)) (.cons (.ret (.var 4)) .nil) .nil) .nil))) src.items [some (.ref t), some (.ref b), some (.str s), x3, none] S).sq k) fun d S' => ∃ bs', (bs' = bs ∧ ∃ s, d = .str s ∧ wordB s = true ∧ ws.contains s = false) ∧ d.bel S.length = true ∧ Mem S' t g a bs' ∧ Ext t g a S S' := by
    intro k
    have hi : evI (ctx P fu (callN P fu (n + 1))) [some (.ref t), some (.ref b), some (.str s), x3, none] (.rng1 (.cst (.int 10))) S3 = .ok (.its ((List.range 10).map fun (i : Nat) => .int (i : Int))) S3 := by
      simp only [show rngD (.int 10) S3 = _ from rng_R (m := 10) (by decide), eSs_cons, eS_if, eS_asg, eS_sub, eS_exp, eS_ret, eS_for, eS_rais, eS_brk, eS_cont, eS_pass, ss_nil', eT_or, eT_and, eT_no, eT_isi, eT_var, eT_cst, eT_op, eT_chn, eT_call, eT_bi, eE_isi, eE_var, eE_op, eE_glo, eE_chn, eE_cst, eE_bi, eE_bif, eE_tup, eE_fre, eE_dic0, eE_neg, eE_no, eE_and, eE_or, eE_ite, eE_call, eE_me, eE_sl, eE_rev, eO_non, eO_som, part_int, eEs_cons, eEs_nil, eF_lst, eF_list, eF_lc, eI_e, eI_f, eI_rng1, eI_enu, eI_z2, eI_z3, src_tup, src_rol, enu_tup, zip_tup, zip_tup3, its_items, List.getElem?_cons_zero, List.getElem?_cons_succ, List.set_cons_zero, List.set_cons_succ, rdVar_some, rb_ok, rb_exn, any_str, any_tup, any_int, any_bl, any_non, tr_bl, pur_at, alloc_at, bnd_at, o_add, o_sub, o_lt, o_le, o_gt, o_ge, o_eqI, o_neI, o_eqS, o_isN, chn_t, chn_f, lf_ok, lf_exn, sq_nx, sq_ret, sq_exn, ctx_glo, ctx_call, ctx_ini, opt_some, o_notinS, o_inS, bi_lenT, bi_intI, bi_intB, bi_abs, bi_max, bi_min, bif_tup, bi_tupT, neg_int', sl_tup, nxO_some, putT_nm, putT_tup, putTs_nil, putTs_cons, Option.bind_some, raiO_1, raiO_2, ix_0, ix_1, beq_self_eq_true, Bool.not_true, Bool.not_false, Bool.false_eq_true, ↓reduceIte, Bool.true_and, Bool.false_and, Bool.and_false, Bool.and_true, decide_true, decide_false, wipe_nil, wipe_cons]
    rw [hi, lf_ok]
    have h6 : ∀ S, slD (.str s) none (some 6) S = .ok (.str (s.take 6)) S := fun S => by
      rw [sl_str (Nat.le_trans hs8.1 (by decide))]
      unfold cut sIx
      simp only [Nat.sub_zero, List.drop_zero]
      rw [if_neg (by decide), show (6 : Int).toNat = 6 from rfl]
      congr 2
      by_cases h : s.length ≤ 6
      · rw [Nat.min_eq_right h, List.take_of_length_le (Nat.le_refl _), List.take_of_length_le h]
      · rw [Nat.min_eq_left (by omega)]
    have go : ∀ (nn aa : Nat) (x3 x4 : Option D), aa + nn = 10 → (∀ k, k < aa → ws.contains (s.take 6 ++ [48 + k]) = true) → ∃ j, j < 10 ∧ ws.contains (s.take 6 ++ [48 + j]) = false ∧ forL (.its ((List.range 10).map fun (i : Nat) => .int (i : Int))) (forB (ctx P fu (callN P fu (n + 1))) (.nm 3) (.cons (.asg (.nm 4) (.op .add (.sl (.var 2) .non (.som (.cst (.int 6)))) (.bi .str (.cons (.var 3) .nil)))) (.cons (.if_ (.op .notin (.var 4) (.var 1)) (.cons (.ret (.var 4)) .nil) .nil) .nil))) ((List.range' aa nn).map fun (i : Nat) => D.int (i : Int)) [some (.ref t), some (.ref b), some (.str s), x3, x4] S3 = .ret (.str (s.take 6 ++ [48 + j])) S3 := by
      intro nn
      induction nn with
      | zero =>
        intro aa x3 x4 ha hall
        have := holes (f := fun k => s.take 6 ++ [48 + k]) 10 ws (fun i j _ _ e => by
          have := (List.append_inj e rfl).2
          injection this with this
          omega) fun k hk => List.contains_iff_mem.mp (hall k (by omega))
        omega
      | succ nn ih =>
        intro aa x3 x4 ha hall
        have hst : ∀ S, biD .str [.int (aa : Int)] S = .ok (.str [48 + aa]) S := fun S => by
          show (if (aa : Int).natAbs.log2 < 1920 then pur (.str (figs (aa : Int))) else bad : M D) S = _
          rw [figs_k (by omega), if_pos]
          · rfl
          · have : aa = 0 ∨ aa = 1 ∨ aa = 2 ∨ aa = 3 ∨ aa = 4 ∨ aa = 5 ∨ aa = 6 ∨ aa = 7 ∨ aa = 8 ∨ aa = 9 := by omega
            rcases this with rfl | rfl | rfl | rfl | rfl | rfl | rfl | rfl | rfl | rfl <;> decide
        have hadd : ∀ S, opD .add (.str (s.take 6)) (.str [48 + aa]) S = .ok (.str (s.take 6 ++ [48 + aa])) S := fun S => add_str (by rw [List.length_take]; exact Nat.le_trans (show min 6 s.length + 1 ≤ 7 by omega) (by decide))
        have hni := notin_words (s := s.take 6 ++ [48 + aa]) hb3
        cases hcc : ws.contains (s.take 6 ++ [48 + aa]) with
        | false =>
          refine ⟨aa, by omega, hcc, for_ret rfl ?_⟩
          rw [forB_at rfl]
          simp only [h6, hst, hadd, hni, hcc, eSs_cons, eS_if, eS_asg, eS_sub, eS_exp, eS_ret, eS_for, eS_rais, eS_brk, eS_cont, eS_pass, ss_nil', eT_or, eT_and, eT_no, eT_isi, eT_var, eT_cst, eT_op, eT_chn, eT_call, eT_bi, eE_isi, eE_var, eE_op, eE_glo, eE_chn, eE_cst, eE_bi, eE_bif, eE_tup, eE_fre, eE_dic0, eE_neg, eE_no, eE_and, eE_or, eE_ite, eE_call, eE_me, eE_sl, eE_rev, eO_non, eO_som, part_int, eEs_cons, eEs_nil, eF_lst, eF_list, eF_lc, eI_e, eI_f, eI_rng1, eI_enu, eI_z2, eI_z3, src_tup, src_rol, enu_tup, zip_tup, zip_tup3, its_items, List.getElem?_cons_zero, List.getElem?_cons_succ, List.set_cons_zero, List.set_cons_succ, rdVar_some, rb_ok, rb_exn, any_str, any_tup, any_int, any_bl, any_non, tr_bl, pur_at, alloc_at, bnd_at, o_add, o_sub, o_lt, o_le, o_gt, o_ge, o_eqI, o_neI, o_eqS, o_isN, chn_t, chn_f, lf_ok, lf_exn, sq_nx, sq_ret, sq_exn, ctx_glo, ctx_call, ctx_ini, opt_some, o_notinS, o_inS, bi_lenT, bi_intI, bi_intB, bi_abs, bi_max, bi_min, bif_tup, bi_tupT, neg_int', sl_tup, nxO_some, putT_nm, putT_tup, putTs_nil, putTs_cons, Option.bind_some, raiO_1, raiO_2, ix_0, ix_1, beq_self_eq_true, Bool.not_true, Bool.not_false, Bool.false_eq_true, ↓reduceIte, Bool.true_and, Bool.false_and, Bool.and_false, Bool.and_true, decide_true, decide_false, wipe_nil, wipe_cons]
        | true =>
          obtain ⟨j, j1, j2, j3⟩ := ih (aa + 1) (some (.int (aa : Int))) (some (.str (s.take 6 ++ [48 + aa]))) (by omega) fun k hk => by
            by_cases h : k = aa
            · rw [h]; exact hcc
            · exact hall k (by omega)
          refine ⟨j, j1, j2, (for_nx rfl ?_).trans j3⟩
          rw [forB_at rfl]
          simp only [h6, hst, hadd, hni, hcc, eSs_cons, eS_if, eS_asg, eS_sub, eS_exp, eS_ret, eS_for, eS_rais, eS_brk, eS_cont, eS_pass, ss_nil', eT_or, eT_and, eT_no, eT_isi, eT_var, eT_cst, eT_op, eT_chn, eT_call, eT_bi, eE_isi, eE_var, eE_op, eE_glo, eE_chn, eE_cst, eE_bi, eE_bif, eE_tup, eE_fre, eE_dic0, eE_neg, eE_no, eE_and, eE_or, eE_ite, eE_call, eE_me, eE_sl, eE_rev, eO_non, eO_som, part_int, eEs_cons, eEs_nil, eF_lst, eF_list, eF_lc, eI_e, eI_f, eI_rng1, eI_enu, eI_z2, eI_z3, src_tup, src_rol, enu_tup, zip_tup, zip_tup3, its_items, List.getElem?_cons_zero, List.getElem?_cons_succ, List.set_cons_zero, List.set_cons_succ, rdVar_some, rb_ok, rb_exn, any_str, any_tup, any_int, any_bl, any_non, tr_bl, pur_at, alloc_at, bnd_at, o_add, o_sub, o_lt, o_le, o_gt, o_ge, o_eqI, o_neI, o_eqS, o_isN, chn_t, chn_f, lf_ok, lf_exn, sq_nx, sq_ret, sq_exn, ctx_glo, ctx_call, ctx_ini, opt_some, o_notinS, o_inS, bi_lenT, bi_intI, bi_intB, bi_abs, bi_max, bi_min, bif_tup, bi_tupT, neg_int', sl_tup, nxO_some, putT_nm, putT_tup, putTs_nil, putTs_cons, Option.bind_some, raiO_1, raiO_2, ix_0, ix_1, beq_self_eq_true, Bool.not_true, Bool.not_false, Bool.false_eq_true, ↓reduceIte, Bool.true_and, Bool.false_and, Bool.and_false, Bool.and_true, decide_true, decide_false, wipe_nil, wipe_cons]
    obtain ⟨j, j1, j2, j3⟩ := go 10 0 x3 none rfl fun k hk => by omega
    show Ret (SR.sq (forL (.its _) _ ((List.range 10).map fun (i : Nat) => D.int (i : Int)) _ _) _) _
    rw [List.range_eq_range'] at j3 ⊢
    rw [j3]
    have hw8 : Beg (s.take 6 ++ [48 + j]) 8 := by
      have := hs8.take.app (c := 48 + j) (by
        have : j = 0 ∨ j = 1 ∨ j = 2 ∨ j = 3 ∨ j = 4 ∨ j = 5 ∨ j = 6 ∨ j = 7 ∨ j = 8 ∨ j = 9 := by omega
        rcases this with rfl | rfl | rfl | rfl | rfl | rfl | rfl | rfl | rfl | rfl <;> decide)
      exact ⟨by have := this.1; omega, this.2⟩
    exact ⟨_, _, rfl, bs, ⟨rfl, _, rfl, hw8.word (dig_kept j1), j2⟩, rfl, M3, F3.ext⟩
  have hin := in_words (s := s) hb3
  have hkp : opD .in_ (.str s) (.tup (wKept.map D.str)) S3 = .ok (.bl (wKept.contains s)) S3 := in_kept s
  have tail : ∀ (cond : Bool), (cond = false → wKept.contains s = false ∧ ws.contains s = false) → evT (ctx P fu (callN P fu (n + 1))) [some (.ref t), some (.ref b), some (.str s), x3, none] (.or2 (.op .in_ (.var 2) (.call "_law_kept" .nil)) (.op .in_ (.var 2) (.var 1))) S3 = .ok cond S3 → Ret (evSs (ctx P fu (callN P fu (n + 1))) (.cons (.if_ (.or2 (.op .in_ (.var 2) (.call "_law_kept" .nil)) (.op .in_ (.var 2) (.var 1))) (.cons (.for_ (.nm 3) (.rng1 (.cst (.int 10))) (.cons (.asg (.nm 4) (.op .add (.sl (.var 2) .non (.som (.cst (.int 6)))) (.bi .str (.cons (.var 3) .nil)))) (.cons (.if_ (.op .notin (.var 4) (.var 1)) (.cons (.ret (.var 4)) .nil) .nil) .nil))) .nil) .nil) (.cons (.ret (.var 2)) .nil)) [some (.ref t), some (.ref b), some (.str s), x3, none] S3) fun d S' => ∃ bs', (bs' = bs ∧ ∃ s, d = .str s ∧ wordB s = true ∧ ws.contains s = false) ∧ d.bel S.length = true ∧ Mem S' t g a bs' ∧ Ext t g a S S' := by
    intro cond hcond he
    rw [eSs_cons, eS_if, he, lf_ok]
    cases cond with
    | true =>
      obtain ⟨d, S5, e5, h5⟩ := ten fun δ S => .nx δ S
      have e6 : (lift [some (.ref t), some (.ref b), some (.str s), x3, none] (evI (ctx P fu (callN P fu (n + 1))) [some (.ref t), some (.ref b), some (.str s), x3, none] (.rng1 (.cst (.int 10))) S3) fun src S => forL src (forB (ctx P fu (callN P fu (n + 1))) (.nm 3) (.cons (.asg (.nm 4) (.op .add (.sl (.var 2) .non (.som (.cst (.int 6)))) (.bi .str (.cons (.var 3) .nil)))) (.cons (.if_ (.op .notin (.var 4) (.var 1)) (.cons (.ret (.var 4)) .nil) .nil) .nil))) src.items [some (.ref t), some (.ref b), some (.str s), x3, none] S) = .ret d S5 := by
        revert e5
        cases (lift [some (.ref t), some (.ref b), some (.str s), x3, none] (evI (ctx P fu (callN P fu (n + 1))) [some (.ref t), some (.ref b), some (.str s), x3, none] (.rng1 (.cst (.int 10))) S3) fun src S => forL src (forB (ctx P fu (callN P fu (n + 1))) (.nm 3) (.cons (.asg (.nm 4) (.op .add (.sl (.var 2) .non (.som (.cst (.int 6)))) (.bi .str (.cons (.var 3) .nil)))) (.cons (.if_ (.op .notin (.var 4) (.var 1)) (.cons (.ret (.var 4)) .nil) .nil) .nil))) src.items [some (.ref t), some (.ref b), some (.str s), x3, none] S) <;> intro e <;> first | exact e | cases e
      refine ⟨d, S5, ?_, h5⟩
      rw [if_pos rfl, eSs_cons, eS_for, e6]
      rfl
    | false =>
      rw [if_neg Bool.false_ne_true]
      simp only [eSs_cons, eS_if, eS_asg, eS_sub, eS_exp, eS_ret, eS_for, eS_rais, eS_brk, eS_cont, eS_pass, ss_nil', eT_or, eT_and, eT_no, eT_isi, eT_var, eT_cst, eT_op, eT_chn, eT_call, eT_bi, eE_isi, eE_var, eE_op, eE_glo, eE_chn, eE_cst, eE_bi, eE_bif, eE_tup, eE_fre, eE_dic0, eE_neg, eE_no, eE_and, eE_or, eE_ite, eE_call, eE_me, eE_sl, eE_rev, eO_non, eO_som, part_int, eEs_cons, eEs_nil, eF_lst, eF_list, eF_lc, eI_e, eI_f, eI_rng1, eI_enu, eI_z2, eI_z3, src_tup, src_rol, enu_tup, zip_tup, zip_tup3, its_items, List.getElem?_cons_zero, List.getElem?_cons_succ, List.set_cons_zero, List.set_cons_succ, rdVar_some, rb_ok, rb_exn, any_str, any_tup, any_int, any_bl, any_non, tr_bl, pur_at, alloc_at, bnd_at, o_add, o_sub, o_lt, o_le, o_gt, o_ge, o_eqI, o_neI, o_eqS, o_isN, chn_t, chn_f, lf_ok, lf_exn, sq_nx, sq_ret, sq_exn, ctx_glo, ctx_call, ctx_ini, opt_some, o_notinS, o_inS, bi_lenT, bi_intI, bi_intB, bi_abs, bi_max, bi_min, bif_tup, bi_tupT, neg_int', sl_tup, nxO_some, putT_nm, putT_tup, putTs_nil, putTs_cons, Option.bind_some, raiO_1, raiO_2, ix_0, ix_1, beq_self_eq_true, Bool.not_true, Bool.not_false, Bool.false_eq_true, ↓reduceIte, Bool.true_and, Bool.false_and, Bool.and_false, Bool.and_true, decide_true, decide_false, wipe_nil, wipe_cons]
      exact fin1 (hcond rfl).1 (hcond rfl).2
  cases h1 : wKept.contains s with
  | true =>
    rw [h1] at hkp
    exact tail true (fun h => nomatch h) (by simp only [kept_ok HP, hkp, eSs_cons, eS_if, eS_asg, eS_sub, eS_exp, eS_ret, eS_for, eS_rais, eS_brk, eS_cont, eS_pass, ss_nil', eT_or, eT_and, eT_no, eT_isi, eT_var, eT_cst, eT_op, eT_chn, eT_call, eT_bi, eE_isi, eE_var, eE_op, eE_glo, eE_chn, eE_cst, eE_bi, eE_bif, eE_tup, eE_fre, eE_dic0, eE_neg, eE_no, eE_and, eE_or, eE_ite, eE_call, eE_me, eE_sl, eE_rev, eO_non, eO_som, part_int, eEs_cons, eEs_nil, eF_lst, eF_list, eF_lc, eI_e, eI_f, eI_rng1, eI_enu, eI_z2, eI_z3, src_tup, src_rol, enu_tup, zip_tup, zip_tup3, its_items, List.getElem?_cons_zero, List.getElem?_cons_succ, List.set_cons_zero, List.set_cons_succ, rdVar_some, rb_ok, rb_exn, any_str, any_tup, any_int, any_bl, any_non, tr_bl, pur_at, alloc_at, bnd_at, o_add, o_sub, o_lt, o_le, o_gt, o_ge, o_eqI, o_neI, o_eqS, o_isN, chn_t, chn_f, lf_ok, lf_exn, sq_nx, sq_ret, sq_exn, ctx_glo, ctx_call, ctx_ini, opt_some, o_notinS, o_inS, bi_lenT, bi_intI, bi_intB, bi_abs, bi_max, bi_min, bif_tup, bi_tupT, neg_int', sl_tup, nxO_some, putT_nm, putT_tup, putTs_nil, putTs_cons, Option.bind_some, raiO_1, raiO_2, ix_0, ix_1, beq_self_eq_true, Bool.not_true, Bool.not_false, Bool.false_eq_true, ↓reduceIte, Bool.true_and, Bool.false_and, Bool.and_false, Bool.and_true, decide_true, decide_false, wipe_nil, wipe_cons])
  | false =>
    rw [h1] at hkp
    exact tail (ws.contains s) (fun h => ⟨h1, h⟩) (by simp only [kept_ok HP, hkp, hin, eSs_cons, eS_if, eS_asg, eS_sub, eS_exp, eS_ret, eS_for, eS_rais, eS_brk, eS_cont, eS_pass, ss_nil', eT_or, eT_and, eT_no, eT_isi, eT_var, eT_cst, eT_op, eT_chn, eT_call, eT_bi, eE_isi, eE_var, eE_op, eE_glo, eE_chn, eE_cst, eE_bi, eE_bif, eE_tup, eE_fre, eE_dic0, eE_neg, eE_no, eE_and, eE_or, eE_ite, eE_call, eE_me, eE_sl, eE_rev, eO_non, eO_som, part_int, eEs_cons, eEs_nil, eF_lst, eF_list, eF_lc, eI_e, eI_f, eI_rng1, eI_enu, eI_z2, eI_z3, src_tup, src_rol, enu_tup, zip_tup, zip_tup3, its_items, List.getElem?_cons_zero, List.getElem?_cons_succ, List.set_cons_zero, List.set_cons_succ, rdVar_some, rb_ok, rb_exn, any_str, any_tup, any_int, any_bl, any_non, tr_bl, pur_at, alloc_at, bnd_at, o_add, o_sub, o_lt, o_le, o_gt, o_ge, o_eqI, o_neI, o_eqS, o_isN, chn_t, chn_f, lf_ok, lf_exn, sq_nx, sq_ret, sq_exn, ctx_glo, ctx_call, ctx_ini, opt_some, o_notinS, o_inS, bi_lenT, bi_intI, bi_intB, bi_abs, bi_max, bi_min, bif_tup, bi_tupT, neg_int', sl_tup, nxO_some, putT_nm, putT_tup, putTs_nil, putTs_cons, Option.bind_some, raiO_1, raiO_2, ix_0, ix_1, beq_self_eq_true, Bool.not_true, Bool.not_false, Bool.false_eq_true, ↓reduceIte, Bool.true_and, Bool.false_and, Bool.and_false, Bool.and_true, decide_true, decide_false, wipe_nil, wipe_cons])
end
end K03

set_option Elab.async false
set_option linter.all false
set_option maxRecDepth 100000
set_option maxHeartbeats 4000000
/-! k03: lots, the tape, the law. -/
namespace K03
open Mi
section
variable {P : Prog} (HP : HasL P) {fu n : Nat} {S : Store} {t g a : Nat} {bs : List Int}
include HP
theorem lots_ok (M0 : Mem S t g a bs) {many : Nat} (h1 : 1 ≤ many) (h2 : many ≤ 8) :
    Res t g a S (callN P fu (n + 3) "_law_lots" [.ref t, .int (many : Int)] S) fun d bs' => bs' = bs ∧ ∃ w z, d = dL many w z ∧ GL many w z ∧ ∀ i, i < many → z i ≤ 10 ^ 12 := by
  refine res_of HP.f__law_lots rfl M0 ?_
  show Ret (evSs _ b__law_lots [some (.ref t), some (.int (many : Int)), none, none, none, none] S) _
  have tlt := M0.tlt
  have glt := M0.glt
  have alt := M0.alt
  have hmx : many ≤ mx := Nat.le_trans h2 (by decide)
  unfold b__law_lots
  refine Ret.step (by simp only [eSs_cons, eS_if, eS_asg, eS_sub, eS_exp, eS_ret, eS_for, eS_rais, eS_brk, eS_cont, eS_pass, ss_nil', eT_or, eT_and, eT_no, eT_isi, eT_var, eT_cst, eT_op, eT_chn, eT_call, eT_bi, eE_isi, eE_var, eE_op, eE_glo, eE_chn, eE_cst, eE_bi, eE_bif, eE_tup, eE_fre, eE_dic0, eE_neg, eE_no, eE_and, eE_or, eE_ite, eE_call, eE_me, eE_sl, eE_rev, eO_non, eO_som, part_int, eEs_cons, eEs_nil, eF_lst, eF_list, eF_lc, eI_e, eI_f, eI_rng1, eI_enu, eI_z2, eI_z3, src_tup, src_rol, enu_tup, zip_tup, zip_tup3, its_items, List.getElem?_cons_zero, List.getElem?_cons_succ, List.set_cons_zero, List.set_cons_succ, rdVar_some, rb_ok, rb_exn, any_str, any_tup, any_int, any_bl, any_non, tr_bl, pur_at, alloc_at, bnd_at, o_add, o_sub, o_lt, o_le, o_gt, o_ge, o_eqI, o_neI, o_eqS, o_isN, chn_t, chn_f, lf_ok, lf_exn, sq_nx, sq_ret, sq_exn, ctx_glo, ctx_call, ctx_ini, opt_some, o_notinS, o_inS, bi_lenT, bi_intI, bi_intB, bi_abs, bi_max, bi_min, bif_tup, bi_tupT, neg_int', sl_tup, nxO_some, putT_nm, putT_tup, putTs_nil, putTs_cons, Option.bind_some, raiO_1, raiO_2, ix_0, ix_1, beq_self_eq_true, Bool.not_true, Bool.not_false, Bool.false_eq_true, ↓reduceIte, Bool.true_and, Bool.false_and, Bool.and_false, Bool.and_true, decide_true, decide_false, wipe_nil, wipe_cons]; rfl) ?_
  refine Ret.step (by simp only [eSs_cons, eS_if, eS_asg, eS_sub, eS_exp, eS_ret, eS_for, eS_rais, eS_brk, eS_cont, eS_pass, ss_nil', eT_or, eT_and, eT_no, eT_isi, eT_var, eT_cst, eT_op, eT_chn, eT_call, eT_bi, eE_isi, eE_var, eE_op, eE_glo, eE_chn, eE_cst, eE_bi, eE_bif, eE_tup, eE_fre, eE_dic0, eE_neg, eE_no, eE_and, eE_or, eE_ite, eE_call, eE_me, eE_sl, eE_rev, eO_non, eO_som, part_int, eEs_cons, eEs_nil, eF_lst, eF_list, eF_lc, eI_e, eI_f, eI_rng1, eI_enu, eI_z2, eI_z3, src_tup, src_rol, enu_tup, zip_tup, zip_tup3, its_items, List.getElem?_cons_zero, List.getElem?_cons_succ, List.set_cons_zero, List.set_cons_succ, rdVar_some, rb_ok, rb_exn, any_str, any_tup, any_int, any_bl, any_non, tr_bl, pur_at, alloc_at, bnd_at, o_add, o_sub, o_lt, o_le, o_gt, o_ge, o_eqI, o_neI, o_eqS, o_isN, chn_t, chn_f, lf_ok, lf_exn, sq_nx, sq_ret, sq_exn, ctx_glo, ctx_call, ctx_ini, opt_some, o_notinS, o_inS, bi_lenT, bi_intI, bi_intB, bi_abs, bi_max, bi_min, bif_tup, bi_tupT, neg_int', sl_tup, nxO_some, putT_nm, putT_tup, putTs_nil, putTs_cons, Option.bind_some, raiO_1, raiO_2, ix_0, ix_1, beq_self_eq_true, Bool.not_true, Bool.not_false, Bool.false_eq_true, ↓reduceIte, Bool.true_and, Bool.false_and, Bool.and_false, Bool.and_true, decide_true, decide_false, wipe_nil, wipe_cons]; rfl) ?_
  have l1 : (S ++ [O.lst []]).length = S.length + 1 := by simp
  refine Ret.forR (m := many) (em := fun (i : Nat) => .int (i : Int)) (S' := S ++ [O.lst []] ++ [O.lst []]) (by simp only [rng_R hmx, eSs_cons, eS_if, eS_asg, eS_sub, eS_exp, eS_ret, eS_for, eS_rais, eS_brk, eS_cont, eS_pass, ss_nil', eT_or, eT_and, eT_no, eT_isi, eT_var, eT_cst, eT_op, eT_chn, eT_call, eT_bi, eE_isi, eE_var, eE_op, eE_glo, eE_chn, eE_cst, eE_bi, eE_bif, eE_tup, eE_fre, eE_dic0, eE_neg, eE_no, eE_and, eE_or, eE_ite, eE_call, eE_me, eE_sl, eE_rev, eO_non, eO_som, part_int, eEs_cons, eEs_nil, eF_lst, eF_list, eF_lc, eI_e, eI_f, eI_rng1, eI_enu, eI_z2, eI_z3, src_tup, src_rol, enu_tup, zip_tup, zip_tup3, its_items, List.getElem?_cons_zero, List.getElem?_cons_succ, List.set_cons_zero, List.set_cons_succ, rdVar_some, rb_ok, rb_exn, any_str, any_tup, any_int, any_bl, any_non, tr_bl, pur_at, alloc_at, bnd_at, o_add, o_sub, o_lt, o_le, o_gt, o_ge, o_eqI, o_neI, o_eqS, o_isN, chn_t, chn_f, lf_ok, lf_exn, sq_nx, sq_ret, sq_exn, ctx_glo, ctx_call, ctx_ini, opt_some, o_notinS, o_inS, bi_lenT, bi_intI, bi_intB, bi_abs, bi_max, bi_min, bif_tup, bi_tupT, neg_int', sl_tup, nxO_some, putT_nm, putT_tup, putTs_nil, putTs_cons, Option.bind_some, raiO_1, raiO_2, ix_0, ix_1, beq_self_eq_true, Bool.not_true, Bool.not_false, Bool.false_eq_true, ↓reduceIte, Bool.true_and, Bool.false_and, Bool.and_false, Bool.and_true, decide_true, decide_false, wipe_nil, wipe_cons])
    (fun i δ S' => (∃ x4 x5, δ = [some (.ref t), some (.int (many : Int)), some (.ref S.length), some (.ref (S ++ [O.lst []]).length), x4, x5]) ∧ Mem S' t g a bs ∧ Ext t g a S S' ∧ S'.length = S.length + 2 ∧ ∃ w z, S'[S.length]? = some (.lst ((List.range i).map fun j => D.tup [.str (w j), .int (z j)])) ∧ S'[S.length + 1]? = some (.lst (((List.range i).map w).map D.str)) ∧ (∀ j, j < i → wordB (w j) = true ∧ 1 ≤ z j ∧ z j ≤ 10 ^ 12) ∧ ∀ j l, j < i → l < i → w j = w l → j = l) ?_ ⟨⟨_, _, rfl⟩, (M0.app _).app _, (Ext.app _).trans (Ext.app _), by simp, fun _ => [], fun _ => 0, ?_, ?_, fun j hj => by omega, fun j l hj => by omega⟩ ?_
  · rintro i δ S3 hi ⟨⟨x4, x5, rfl⟩, M3, E3, l3, w, z, ga, gb, hw, hj⟩
    have gb' : S3[(S ++ [O.lst []]).length]? = some (.lst (((List.range i).map w).map D.str)) := by rw [l1]; exact gb
    obtain ⟨_, S4, bs4, e4, ⟨rfl, s, rfl, hs, hns⟩, M4, F4⟩ := word_ok HP (fu := fu) (n := n) M3 gb' (by omega) (by omega) (by omega) (by rw [List.length_map, List.length_range]; omega)
    rw [forB_at (δ' := [some (.ref t), some (.int (many : Int)), some (.ref S.length), some (.ref (S ++ [O.lst []]).length), some (.int (i : Int)), x5]) rfl]
    refine Nx.step (by simp only [e4, eSs_cons, eS_if, eS_asg, eS_sub, eS_exp, eS_ret, eS_for, eS_rais, eS_brk, eS_cont, eS_pass, ss_nil', eT_or, eT_and, eT_no, eT_isi, eT_var, eT_cst, eT_op, eT_chn, eT_call, eT_bi, eE_isi, eE_var, eE_op, eE_glo, eE_chn, eE_cst, eE_bi, eE_bif, eE_tup, eE_fre, eE_dic0, eE_neg, eE_no, eE_and, eE_or, eE_ite, eE_call, eE_me, eE_sl, eE_rev, eO_non, eO_som, part_int, eEs_cons, eEs_nil, eF_lst, eF_list, eF_lc, eI_e, eI_f, eI_rng1, eI_enu, eI_z2, eI_z3, src_tup, src_rol, enu_tup, zip_tup, zip_tup3, its_items, List.getElem?_cons_zero, List.getElem?_cons_succ, List.set_cons_zero, List.set_cons_succ, rdVar_some, rb_ok, rb_exn, any_str, any_tup, any_int, any_bl, any_non, tr_bl, pur_at, alloc_at, bnd_at, o_add, o_sub, o_lt, o_le, o_gt, o_ge, o_eqI, o_neI, o_eqS, o_isN, chn_t, chn_f, lf_ok, lf_exn, sq_nx, sq_ret, sq_exn, ctx_glo, ctx_call, ctx_ini, opt_some, o_notinS, o_inS, bi_lenT, bi_intI, bi_intB, bi_abs, bi_max, bi_min, bif_tup, bi_tupT, neg_int', sl_tup, nxO_some, putT_nm, putT_tup, putTs_nil, putTs_cons, Option.bind_some, raiO_1, raiO_2, ix_0, ix_1, beq_self_eq_true, Bool.not_true, Bool.not_false, Bool.false_eq_true, ↓reduceIte, Bool.true_and, Bool.false_and, Bool.and_false, Bool.and_true, decide_true, decide_false, wipe_nil, wipe_cons]; rfl) ?_
    have gb4 : S4[(S ++ [O.lst []]).length]? = some (.lst (((List.range i).map w).map D.str)) := by rw [F4.same _ (by omega) (by omega) (by omega)]; exact gb'
    have ap1 := app_L (x := .str s) gb4 (by rw [List.length_map, List.length_map, List.length_range]; omega)
    refine Nx.step (by simp only [isL_L gb4, ap1, eE_me, eSs_cons, eS_if, eS_asg, eS_sub, eS_exp, eS_ret, eS_for, eS_rais, eS_brk, eS_cont, eS_pass, ss_nil', eT_or, eT_and, eT_no, eT_isi, eT_var, eT_cst, eT_op, eT_chn, eT_call, eT_bi, eE_isi, eE_var, eE_op, eE_glo, eE_chn, eE_cst, eE_bi, eE_bif, eE_tup, eE_fre, eE_dic0, eE_neg, eE_no, eE_and, eE_or, eE_ite, eE_call, eE_me, eE_sl, eE_rev, eO_non, eO_som, part_int, eEs_cons, eEs_nil, eF_lst, eF_list, eF_lc, eI_e, eI_f, eI_rng1, eI_enu, eI_z2, eI_z3, src_tup, src_rol, enu_tup, zip_tup, zip_tup3, its_items, List.getElem?_cons_zero, List.getElem?_cons_succ, List.set_cons_zero, List.set_cons_succ, rdVar_some, rb_ok, rb_exn, any_str, any_tup, any_int, any_bl, any_non, tr_bl, pur_at, alloc_at, bnd_at, o_add, o_sub, o_lt, o_le, o_gt, o_ge, o_eqI, o_neI, o_eqS, o_isN, chn_t, chn_f, lf_ok, lf_exn, sq_nx, sq_ret, sq_exn, ctx_glo, ctx_call, ctx_ini, opt_some, o_notinS, o_inS, bi_lenT, bi_intI, bi_intB, bi_abs, bi_max, bi_min, bif_tup, bi_tupT, neg_int', sl_tup, nxO_some, putT_nm, putT_tup, putTs_nil, putTs_cons, Option.bind_some, raiO_1, raiO_2, ix_0, ix_1, beq_self_eq_true, Bool.not_true, Bool.not_false, Bool.false_eq_true, ↓reduceIte, Bool.true_and, Bool.false_and, Bool.and_false, Bool.and_true, decide_true, decide_false, wipe_nil, wipe_cons]; rfl) ?_
    have M5 := M4.set (k := (S ++ [O.lst []]).length) (by omega) (by omega) (by omega) (O.lst (((List.range i).map w).map D.str ++ [.str s]))
    have ga5 : (S4.set (S ++ [O.lst []]).length (O.lst (((List.range i).map w).map D.str ++ [.str s])))[S.length]? = some (.lst ((List.range i).map fun j => D.tup [.str (w j), .int (z j)])) := by
      rw [List.getElem?_set_ne (by omega), F4.same _ (by omega) (by omega) (by omega)]
      exact ga
    have gb5 : (S4.set (S ++ [O.lst []]).length (O.lst (((List.range i).map w).map D.str ++ [.str s])))[S.length + 1]? = some (O.lst (((List.range i).map w).map D.str ++ [.str s])) := by
      rw [l1]
      exact List.getElem?_set_self (by rw [F4.len]; omega)
    have E5 : Ext t g a S (S4.set (S ++ [O.lst []]).length (O.lst (((List.range i).map w).map D.str ++ [.str s]))) := (E3.trans F4.ext).setN (by omega)
    have l5 : (S4.set (S ++ [O.lst []]).length (O.lst (((List.range i).map w).map D.str ++ [.str s]))).length = S.length + 2 := by rw [List.length_set, F4.len]; exact l3
    generalize S4.set (S ++ [O.lst []]).length (O.lst (((List.range i).map w).map D.str ++ [.str s])) = S5 at M5 ga5 gb5 E5 l5 ⊢
    obtain ⟨_, S6, bs6, e6, ⟨rfl, r, rfl, hr⟩, M6, F6⟩ := size_ok HP (fu := fu) (n := n) M5
    have ga6 : S6[S.length]? = some (.lst ((List.range i).map fun j => D.tup [.str (w j), .int (z j)])) := by rw [F6.same _ (by omega) (by omega) (by omega)]; exact ga5
    have gb6 : S6[S.length + 1]? = some (O.lst (((List.range i).map w).map D.str ++ [.str s])) := by rw [F6.same _ (by omega) (by omega) (by omega)]; exact gb5
    have ap2 := app_L (x := .tup [.str s, .int r]) ga6 (by rw [len_R]; omega)
    simp only [isL_L ga5, e6, ap2, eE_me, eSs_cons, eS_if, eS_asg, eS_sub, eS_exp, eS_ret, eS_for, eS_rais, eS_brk, eS_cont, eS_pass, ss_nil', eT_or, eT_and, eT_no, eT_isi, eT_var, eT_cst, eT_op, eT_chn, eT_call, eT_bi, eE_isi, eE_var, eE_op, eE_glo, eE_chn, eE_cst, eE_bi, eE_bif, eE_tup, eE_fre, eE_dic0, eE_neg, eE_no, eE_and, eE_or, eE_ite, eE_call, eE_me, eE_sl, eE_rev, eO_non, eO_som, part_int, eEs_cons, eEs_nil, eF_lst, eF_list, eF_lc, eI_e, eI_f, eI_rng1, eI_enu, eI_z2, eI_z3, src_tup, src_rol, enu_tup, zip_tup, zip_tup3, its_items, List.getElem?_cons_zero, List.getElem?_cons_succ, List.set_cons_zero, List.set_cons_succ, rdVar_some, rb_ok, rb_exn, any_str, any_tup, any_int, any_bl, any_non, tr_bl, pur_at, alloc_at, bnd_at, o_add, o_sub, o_lt, o_le, o_gt, o_ge, o_eqI, o_neI, o_eqS, o_isN, chn_t, chn_f, lf_ok, lf_exn, sq_nx, sq_ret, sq_exn, ctx_glo, ctx_call, ctx_ini, opt_some, o_notinS, o_inS, bi_lenT, bi_intI, bi_intB, bi_abs, bi_max, bi_min, bif_tup, bi_tupT, neg_int', sl_tup, nxO_some, putT_nm, putT_tup, putTs_nil, putTs_cons, Option.bind_some, raiO_1, raiO_2, ix_0, ix_1, beq_self_eq_true, Bool.not_true, Bool.not_false, Bool.false_eq_true, ↓reduceIte, Bool.true_and, Bool.false_and, Bool.and_false, Bool.and_true, decide_true, decide_false, wipe_nil, wipe_cons]
    have r1 : (List.range i).map (fun j => D.tup [.str (w j), .int (z j)]) ++ [.tup [.str s, .int r]] = (List.range (i + 1)).map fun j => D.tup [.str (if j = i then s else w j), .int (if j = i then r else z j)] := by
      rw [List.range_succ, List.map_append]
      show _ = _ ++ [D.tup [.str (if i = i then s else w i), .int (if i = i then r else z i)]]
      rw [if_pos rfl, if_pos rfl]
      congr 1
      refine List.map_congr_left fun j hj => ?_
      have := List.mem_range.mp hj
      rw [if_neg (by omega), if_neg (by omega)]
    have r2 : ((List.range i).map w).map D.str ++ [.str s] = ((List.range (i + 1)).map fun j => if j = i then s else w j).map D.str := by
      rw [List.range_succ, List.map_append, List.map_append]
      show _ = _ ++ [D.str (if i = i then s else w i)]
      rw [if_pos rfl]
      congr 2
      refine List.map_congr_left fun j hj => ?_
      have := List.mem_range.mp hj
      rw [if_neg (by omega)]
    refine ⟨_, _, rfl, ⟨_, _, rfl⟩, M6.set (by omega) (by omega) (by omega) _, (E5.trans F6.ext).setN (Nat.le_refl _), by rw [List.length_set, F6.len]; exact l5, fun j => if j = i then s else w j, fun j => if j = i then r else z j, ?_, ?_, ?_, ?_⟩
    · rw [List.getElem?_set_self (by rw [F6.len]; omega), r1]
    · rw [List.getElem?_set_ne (by omega), gb6, r2]
    · intro j hj'
      by_cases h : j = i
      · simp only [if_pos h]
        exact ⟨hs, hr⟩
      · simp only [if_neg h]
        exact hw j (by omega)
    · have hnot : ∀ j, j < i → w j ≠ s := fun j hj' e => by
        rw [← Bool.not_eq_true, List.contains_iff_mem] at hns
        exact hns (List.mem_map.mpr ⟨j, List.mem_range.mpr hj', e⟩)
      intro j l hj' hl' e
      by_cases h : j = i
      · by_cases h' : l = i
        · omega
        · simp only [if_pos h, if_neg h'] at e
          exact absurd e.symm (hnot l (by omega))
      · by_cases h' : l = i
        · simp only [if_neg h, if_pos h'] at e
          exact absurd e (hnot j (by omega))
        · simp only [if_neg h, if_neg h'] at e
          exact hj j l (by omega) (by omega) e
  · rw [List.getElem?_append_left (by simp)]
    exact get_app
  · rw [← l1]
    exact get_app
  rintro δ S3 ⟨⟨x4, x5, rfl⟩, M3, E3, l3, w, z, ga, gb, hw, hj⟩
  have ht : biD .tuple [.ref S.length] S3 = .ok (dL many w z) S3 := bi_tupL ga
  simp only [ht, eSs_cons, eS_if, eS_asg, eS_sub, eS_exp, eS_ret, eS_for, eS_rais, eS_brk, eS_cont, eS_pass, ss_nil', eT_or, eT_and, eT_no, eT_isi, eT_var, eT_cst, eT_op, eT_chn, eT_call, eT_bi, eE_isi, eE_var, eE_op, eE_glo, eE_chn, eE_cst, eE_bi, eE_bif, eE_tup, eE_fre, eE_dic0, eE_neg, eE_no, eE_and, eE_or, eE_ite, eE_call, eE_me, eE_sl, eE_rev, eO_non, eO_som, part_int, eEs_cons, eEs_nil, eF_lst, eF_list, eF_lc, eI_e, eI_f, eI_rng1, eI_enu, eI_z2, eI_z3, src_tup, src_rol, enu_tup, zip_tup, zip_tup3, its_items, List.getElem?_cons_zero, List.getElem?_cons_succ, List.set_cons_zero, List.set_cons_succ, rdVar_some, rb_ok, rb_exn, any_str, any_tup, any_int, any_bl, any_non, tr_bl, pur_at, alloc_at, bnd_at, o_add, o_sub, o_lt, o_le, o_gt, o_ge, o_eqI, o_neI, o_eqS, o_isN, chn_t, chn_f, lf_ok, lf_exn, sq_nx, sq_ret, sq_exn, ctx_glo, ctx_call, ctx_ini, opt_some, o_notinS, o_inS, bi_lenT, bi_intI, bi_intB, bi_abs, bi_max, bi_min, bif_tup, bi_tupT, neg_int', sl_tup, nxO_some, putT_nm, putT_tup, putTs_nil, putTs_cons, Option.bind_some, raiO_1, raiO_2, ix_0, ix_1, beq_self_eq_true, Bool.not_true, Bool.not_false, Bool.false_eq_true, ↓reduceIte, Bool.true_and, Bool.false_and, Bool.and_false, Bool.and_true, decide_true, decide_false, wipe_nil, wipe_cons]
  exact ⟨_, _, rfl, bs, ⟨rfl, w, z, rfl, ⟨h1, hmx, fun i hi => (hw i hi).1, hj, fun i hi => (hw i hi).2.1⟩, fun i hi => (hw i hi).2.2⟩, bel_dL, M3, E3⟩
theorem tape_ok {ns : List Int} (hn : ns.length ≤ 63) : ∃ st gs, callN P fu (n + 1) "_law_tape" [.rol (ns.map D.int)] [] = .ok (.ref 2) [.lst (List.map D.int gs), .lst (gs.map D.int).reverse, .lst [.int st, .int 0, .ref 1]] := by
  rw [call_eq HP.f__law_tape rfl]
  have e0 : Ret (evSs (ctx P fu (callN P fu n)) b__law_tape [some (.rol (ns.map D.int)), none, none, none] []) fun d S' => d = .ref 2 ∧ ∃ st gs, S' = [.lst (List.map D.int gs), .lst (gs.map D.int).reverse, .lst [.int st, .int 0, .ref 1]] := by
    unfold b__law_tape
    refine Ret.step (by simp only [eSs_cons, eS_if, eS_asg, eS_sub, eS_exp, eS_ret, eS_for, eS_rais, eS_brk, eS_cont, eS_pass, ss_nil', eT_or, eT_and, eT_no, eT_isi, eT_var, eT_cst, eT_op, eT_chn, eT_call, eT_bi, eE_isi, eE_var, eE_op, eE_glo, eE_chn, eE_cst, eE_bi, eE_bif, eE_tup, eE_fre, eE_dic0, eE_neg, eE_no, eE_and, eE_or, eE_ite, eE_call, eE_me, eE_sl, eE_rev, eO_non, eO_som, part_int, eEs_cons, eEs_nil, eF_lst, eF_list, eF_lc, eI_e, eI_f, eI_rng1, eI_enu, eI_z2, eI_z3, src_tup, src_rol, enu_tup, zip_tup, zip_tup3, its_items, List.getElem?_cons_zero, List.getElem?_cons_succ, List.set_cons_zero, List.set_cons_succ, rdVar_some, rb_ok, rb_exn, any_str, any_tup, any_int, any_bl, any_non, tr_bl, pur_at, alloc_at, bnd_at, o_add, o_sub, o_lt, o_le, o_gt, o_ge, o_eqI, o_neI, o_eqS, o_isN, chn_t, chn_f, lf_ok, lf_exn, sq_nx, sq_ret, sq_exn, ctx_glo, ctx_call, ctx_ini, opt_some, o_notinS, o_inS, bi_lenT, bi_intI, bi_intB, bi_abs, bi_max, bi_min, bif_tup, bi_tupT, neg_int', sl_tup, nxO_some, putT_nm, putT_tup, putTs_nil, putTs_cons, Option.bind_some, raiO_1, raiO_2, ix_0, ix_1, beq_self_eq_true, Bool.not_true, Bool.not_false, Bool.false_eq_true, ↓reduceIte, Bool.true_and, Bool.false_and, Bool.and_false, Bool.and_true, decide_true, decide_false, wipe_nil, wipe_cons]; rfl) ?_
    refine Ret.step (by simp only [eSs_cons, eS_if, eS_asg, eS_sub, eS_exp, eS_ret, eS_for, eS_rais, eS_brk, eS_cont, eS_pass, ss_nil', eT_or, eT_and, eT_no, eT_isi, eT_var, eT_cst, eT_op, eT_chn, eT_call, eT_bi, eE_isi, eE_var, eE_op, eE_glo, eE_chn, eE_cst, eE_bi, eE_bif, eE_tup, eE_fre, eE_dic0, eE_neg, eE_no, eE_and, eE_or, eE_ite, eE_call, eE_me, eE_sl, eE_rev, eO_non, eO_som, part_int, eEs_cons, eEs_nil, eF_lst, eF_list, eF_lc, eI_e, eI_f, eI_rng1, eI_enu, eI_z2, eI_z3, src_tup, src_rol, enu_tup, zip_tup, zip_tup3, its_items, List.getElem?_cons_zero, List.getElem?_cons_succ, List.set_cons_zero, List.set_cons_succ, rdVar_some, rb_ok, rb_exn, any_str, any_tup, any_int, any_bl, any_non, tr_bl, pur_at, alloc_at, bnd_at, o_add, o_sub, o_lt, o_le, o_gt, o_ge, o_eqI, o_neI, o_eqS, o_isN, chn_t, chn_f, lf_ok, lf_exn, sq_nx, sq_ret, sq_exn, ctx_glo, ctx_call, ctx_ini, opt_some, o_notinS, o_inS, bi_lenT, bi_intI, bi_intB, bi_abs, bi_max, bi_min, bif_tup, bi_tupT, neg_int', sl_tup, nxO_some, putT_nm, putT_tup, putTs_nil, putTs_cons, Option.bind_some, raiO_1, raiO_2, ix_0, ix_1, beq_self_eq_true, Bool.not_true, Bool.not_false, Bool.false_eq_true, ↓reduceIte, Bool.true_and, Bool.false_and, Bool.and_false, Bool.and_true, decide_true, decide_false, wipe_nil, wipe_cons]; rfl) ?_
    have hpw : ∀ S, opD .pow (.int 10) (.int 18) S = .ok (.int (10 ^ 18)) S := fun S => o_pow (by decide)
    refine Ret.forL (by simp only [eSs_cons, eS_if, eS_asg, eS_sub, eS_exp, eS_ret, eS_for, eS_rais, eS_brk, eS_cont, eS_pass, ss_nil', eT_or, eT_and, eT_no, eT_isi, eT_var, eT_cst, eT_op, eT_chn, eT_call, eT_bi, eE_isi, eE_var, eE_op, eE_glo, eE_chn, eE_cst, eE_bi, eE_bif, eE_tup, eE_fre, eE_dic0, eE_neg, eE_no, eE_and, eE_or, eE_ite, eE_call, eE_me, eE_sl, eE_rev, eO_non, eO_som, part_int, eEs_cons, eEs_nil, eF_lst, eF_list, eF_lc, eI_e, eI_f, eI_rng1, eI_enu, eI_z2, eI_z3, src_tup, src_rol, enu_tup, zip_tup, zip_tup3, its_items, List.getElem?_cons_zero, List.getElem?_cons_succ, List.set_cons_zero, List.set_cons_succ, rdVar_some, rb_ok, rb_exn, any_str, any_tup, any_int, any_bl, any_non, tr_bl, pur_at, alloc_at, bnd_at, o_add, o_sub, o_lt, o_le, o_gt, o_ge, o_eqI, o_neI, o_eqS, o_isN, chn_t, chn_f, lf_ok, lf_exn, sq_nx, sq_ret, sq_exn, ctx_glo, ctx_call, ctx_ini, opt_some, o_notinS, o_inS, bi_lenT, bi_intI, bi_intB, bi_abs, bi_max, bi_min, bif_tup, bi_tupT, neg_int', sl_tup, nxO_some, putT_nm, putT_tup, putTs_nil, putTs_cons, Option.bind_some, raiO_1, raiO_2, ix_0, ix_1, beq_self_eq_true, Bool.not_true, Bool.not_false, Bool.false_eq_true, ↓reduceIte, Bool.true_and, Bool.false_and, Bool.and_false, Bool.and_true, decide_true, decide_false, wipe_nil, wipe_cons]; rfl) (fun l δ S' => (∃ st x3, δ = [some (.rol (ns.map D.int)), some (.int st), some (.ref 0), x3]) ∧ ∃ gs : List Int, S' = [O.lst (List.map D.int gs)] ∧ gs.length + l.length ≤ 63 ∧ ∃ ms : List Int, l = ms.map D.int) (fun _ _ _ _ => rfl) ?_ ⟨⟨_, _, rfl⟩, [], rfl, by show 0 + (ns.map D.int).length ≤ 63; rw [List.length_map]; omega, ns, rfl⟩ ?_
    · rintro d r δ S' ⟨⟨st, x3, rfl⟩, gs, rfl, hl, ms, hms⟩
      obtain ⟨c, ms', rfl, rfl⟩ : ∃ c ms', d = D.int c ∧ r = List.map D.int ms' := by
        cases ms with
        | nil => cases hms
        | cons c ms' => injection hms with e1 e2; exact ⟨c, ms', e1, e2⟩
      rw [List.length_cons] at hl
      have m1 : ∀ S, opD .mul (.int st) (.int 1181783497276652981) S = .ok (.int (st * 1181783497276652981)) S := fun S => o_mul (by decide)
      have m2 : ∀ S, opD .mul (.int c) (.int 16807) S = .ok (.int (c * 16807)) S := fun S => o_mul (by decide)
      have m3 : ∀ S i, opD .mod (.int i) (.int 2305843009213693951) S = .ok (.int (i % 2305843009213693951)) S := fun S i => o_mod (by decide)
      rw [forB_at rfl]
      have g0 : ([O.lst (List.map D.int gs)] : Store)[0]? = some (.lst (List.map D.int gs)) := rfl
      have ap := fun x => app_L (x := x) g0 (by rw [List.length_map]; exact Nat.lt_of_le_of_lt (show gs.length ≤ 63 by omega) (by decide))
      by_cases hb : (10 : Int) ^ 18 ≤ (if c < 0 then -c else c)
      · simp only [m1, m2, m3, hpw, decide_eq_true hb, isL_L g0, ap, eE_me, eSs_cons, eS_if, eS_asg, eS_sub, eS_exp, eS_ret, eS_for, eS_rais, eS_brk, eS_cont, eS_pass, ss_nil', eT_or, eT_and, eT_no, eT_isi, eT_var, eT_cst, eT_op, eT_chn, eT_call, eT_bi, eE_isi, eE_var, eE_op, eE_glo, eE_chn, eE_cst, eE_bi, eE_bif, eE_tup, eE_fre, eE_dic0, eE_neg, eE_no, eE_and, eE_or, eE_ite, eE_call, eE_me, eE_sl, eE_rev, eO_non, eO_som, part_int, eEs_cons, eEs_nil, eF_lst, eF_list, eF_lc, eI_e, eI_f, eI_rng1, eI_enu, eI_z2, eI_z3, src_tup, src_rol, enu_tup, zip_tup, zip_tup3, its_items, List.getElem?_cons_zero, List.getElem?_cons_succ, List.set_cons_zero, List.set_cons_succ, rdVar_some, rb_ok, rb_exn, any_str, any_tup, any_int, any_bl, any_non, tr_bl, pur_at, alloc_at, bnd_at, o_add, o_sub, o_lt, o_le, o_gt, o_ge, o_eqI, o_neI, o_eqS, o_isN, chn_t, chn_f, lf_ok, lf_exn, sq_nx, sq_ret, sq_exn, ctx_glo, ctx_call, ctx_ini, opt_some, o_notinS, o_inS, bi_lenT, bi_intI, bi_intB, bi_abs, bi_max, bi_min, bif_tup, bi_tupT, neg_int', sl_tup, nxO_some, putT_nm, putT_tup, putTs_nil, putTs_cons, Option.bind_some, raiO_1, raiO_2, ix_0, ix_1, beq_self_eq_true, Bool.not_true, Bool.not_false, Bool.false_eq_true, ↓reduceIte, Bool.true_and, Bool.false_and, Bool.and_false, Bool.and_true, decide_true, decide_false, wipe_nil, wipe_cons]
        refine ⟨_, _, rfl, ⟨_, _, rfl⟩, gs ++ [if c < 0 then -c else c], by rw [List.map_append]; rfl, ?_, ms', rfl⟩
        rw [List.length_append]
        show gs.length + 1 + _ ≤ 63
        omega
      · simp only [m1, m2, m3, hpw, decide_eq_false hb, eSs_cons, eS_if, eS_asg, eS_sub, eS_exp, eS_ret, eS_for, eS_rais, eS_brk, eS_cont, eS_pass, ss_nil', eT_or, eT_and, eT_no, eT_isi, eT_var, eT_cst, eT_op, eT_chn, eT_call, eT_bi, eE_isi, eE_var, eE_op, eE_glo, eE_chn, eE_cst, eE_bi, eE_bif, eE_tup, eE_fre, eE_dic0, eE_neg, eE_no, eE_and, eE_or, eE_ite, eE_call, eE_me, eE_sl, eE_rev, eO_non, eO_som, part_int, eEs_cons, eEs_nil, eF_lst, eF_list, eF_lc, eI_e, eI_f, eI_rng1, eI_enu, eI_z2, eI_z3, src_tup, src_rol, enu_tup, zip_tup, zip_tup3, its_items, List.getElem?_cons_zero, List.getElem?_cons_succ, List.set_cons_zero, List.set_cons_succ, rdVar_some, rb_ok, rb_exn, any_str, any_tup, any_int, any_bl, any_non, tr_bl, pur_at, alloc_at, bnd_at, o_add, o_sub, o_lt, o_le, o_gt, o_ge, o_eqI, o_neI, o_eqS, o_isN, chn_t, chn_f, lf_ok, lf_exn, sq_nx, sq_ret, sq_exn, ctx_glo, ctx_call, ctx_ini, opt_some, o_notinS, o_inS, bi_lenT, bi_intI, bi_intB, bi_abs, bi_max, bi_min, bif_tup, bi_tupT, neg_int', sl_tup, nxO_some, putT_nm, putT_tup, putTs_nil, putTs_cons, Option.bind_some, raiO_1, raiO_2, ix_0, ix_1, beq_self_eq_true, Bool.not_true, Bool.not_false, Bool.false_eq_true, ↓reduceIte, Bool.true_and, Bool.false_and, Bool.and_false, Bool.and_true, decide_true, decide_false, wipe_nil, wipe_cons]
        exact ⟨_, _, rfl, ⟨_, _, rfl⟩, gs, rfl, by omega, ms', rfl⟩
    rintro δ S' ⟨⟨st, x3, rfl⟩, gs, rfl, -, -⟩
    have hrev : revD (.ref 0) [O.lst (List.map D.int gs)] = .ok (.ref 1) [.lst (List.map D.int gs), .lst (gs.map D.int).reverse] := rfl
    simp only [hrev, eSs_cons, eS_if, eS_asg, eS_sub, eS_exp, eS_ret, eS_for, eS_rais, eS_brk, eS_cont, eS_pass, ss_nil', eT_or, eT_and, eT_no, eT_isi, eT_var, eT_cst, eT_op, eT_chn, eT_call, eT_bi, eE_isi, eE_var, eE_op, eE_glo, eE_chn, eE_cst, eE_bi, eE_bif, eE_tup, eE_fre, eE_dic0, eE_neg, eE_no, eE_and, eE_or, eE_ite, eE_call, eE_me, eE_sl, eE_rev, eO_non, eO_som, part_int, eEs_cons, eEs_nil, eF_lst, eF_list, eF_lc, eI_e, eI_f, eI_rng1, eI_enu, eI_z2, eI_z3, src_tup, src_rol, enu_tup, zip_tup, zip_tup3, its_items, List.getElem?_cons_zero, List.getElem?_cons_succ, List.set_cons_zero, List.set_cons_succ, rdVar_some, rb_ok, rb_exn, any_str, any_tup, any_int, any_bl, any_non, tr_bl, pur_at, alloc_at, bnd_at, o_add, o_sub, o_lt, o_le, o_gt, o_ge, o_eqI, o_neI, o_eqS, o_isN, chn_t, chn_f, lf_ok, lf_exn, sq_nx, sq_ret, sq_exn, ctx_glo, ctx_call, ctx_ini, opt_some, o_notinS, o_inS, bi_lenT, bi_intI, bi_intB, bi_abs, bi_max, bi_min, bif_tup, bi_tupT, neg_int', sl_tup, nxO_some, putT_nm, putT_tup, putTs_nil, putTs_cons, Option.bind_some, raiO_1, raiO_2, ix_0, ix_1, beq_self_eq_true, Bool.not_true, Bool.not_false, Bool.false_eq_true, ↓reduceIte, Bool.true_and, Bool.false_and, Bool.and_false, Bool.and_true, decide_true, decide_false, wipe_nil, wipe_cons]
    exact ⟨_, _, rfl, rfl, st, gs, rfl⟩
  obtain ⟨_, _, e1, rfl, st, gs, rfl⟩ := e0
  exact ⟨st, gs, congrArg (fun r => fin [] (endR r)) e1⟩
theorem law_ok {ns : List Int} (hn : ns.length ≤ 63) : ∃ S', callN P fu (n + 8) "law" [.rol (ns.map D.int)] [] = .ok (.bl true) S' := by
  rw [call_eq HP.f_law rfl]
  have e0 : Ret (evSs (ctx P fu (callN P fu (n + 7))) b_law [some (.rol (ns.map D.int)), none, none, none, none, none, none, none] []) fun d S' => d = .bl true := by
    obtain ⟨st, gs, e1⟩ := tape_ok HP (fu := fu) (n := n + 6) hn
    unfold b_law
    refine Ret.step (by simp only [e1, eSs_cons, eS_if, eS_asg, eS_sub, eS_exp, eS_ret, eS_for, eS_rais, eS_brk, eS_cont, eS_pass, ss_nil', eT_or, eT_and, eT_no, eT_isi, eT_var, eT_cst, eT_op, eT_chn, eT_call, eT_bi, eE_isi, eE_var, eE_op, eE_glo, eE_chn, eE_cst, eE_bi, eE_bif, eE_tup, eE_fre, eE_dic0, eE_neg, eE_no, eE_and, eE_or, eE_ite, eE_call, eE_me, eE_sl, eE_rev, eO_non, eO_som, part_int, eEs_cons, eEs_nil, eF_lst, eF_list, eF_lc, eI_e, eI_f, eI_rng1, eI_enu, eI_z2, eI_z3, src_tup, src_rol, enu_tup, zip_tup, zip_tup3, its_items, List.getElem?_cons_zero, List.getElem?_cons_succ, List.set_cons_zero, List.set_cons_succ, rdVar_some, rb_ok, rb_exn, any_str, any_tup, any_int, any_bl, any_non, tr_bl, pur_at, alloc_at, bnd_at, o_add, o_sub, o_lt, o_le, o_gt, o_ge, o_eqI, o_neI, o_eqS, o_isN, chn_t, chn_f, lf_ok, lf_exn, sq_nx, sq_ret, sq_exn, ctx_glo, ctx_call, ctx_ini, opt_some, o_notinS, o_inS, bi_lenT, bi_intI, bi_intB, bi_abs, bi_max, bi_min, bif_tup, bi_tupT, neg_int', sl_tup, nxO_some, putT_nm, putT_tup, putTs_nil, putTs_cons, Option.bind_some, raiO_1, raiO_2, ix_0, ix_1, beq_self_eq_true, Bool.not_true, Bool.not_false, Bool.false_eq_true, ↓reduceIte, Bool.true_and, Bool.false_and, Bool.and_false, Bool.and_true, decide_true, decide_false, wipe_nil, wipe_cons]; rfl) ?_
    refine Ret.step (by simp only [eSs_cons, eS_if, eS_asg, eS_sub, eS_exp, eS_ret, eS_for, eS_rais, eS_brk, eS_cont, eS_pass, ss_nil', eT_or, eT_and, eT_no, eT_isi, eT_var, eT_cst, eT_op, eT_chn, eT_call, eT_bi, eE_isi, eE_var, eE_op, eE_glo, eE_chn, eE_cst, eE_bi, eE_bif, eE_tup, eE_fre, eE_dic0, eE_neg, eE_no, eE_and, eE_or, eE_ite, eE_call, eE_me, eE_sl, eE_rev, eO_non, eO_som, part_int, eEs_cons, eEs_nil, eF_lst, eF_list, eF_lc, eI_e, eI_f, eI_rng1, eI_enu, eI_z2, eI_z3, src_tup, src_rol, enu_tup, zip_tup, zip_tup3, its_items, List.getElem?_cons_zero, List.getElem?_cons_succ, List.set_cons_zero, List.set_cons_succ, rdVar_some, rb_ok, rb_exn, any_str, any_tup, any_int, any_bl, any_non, tr_bl, pur_at, alloc_at, bnd_at, o_add, o_sub, o_lt, o_le, o_gt, o_ge, o_eqI, o_neI, o_eqS, o_isN, chn_t, chn_f, lf_ok, lf_exn, sq_nx, sq_ret, sq_exn, ctx_glo, ctx_call, ctx_ini, opt_some, o_notinS, o_inS, bi_lenT, bi_intI, bi_intB, bi_abs, bi_max, bi_min, bif_tup, bi_tupT, neg_int', sl_tup, nxO_some, putT_nm, putT_tup, putTs_nil, putTs_cons, Option.bind_some, raiO_1, raiO_2, ix_0, ix_1, beq_self_eq_true, Bool.not_true, Bool.not_false, Bool.false_eq_true, ↓reduceIte, Bool.true_and, Bool.false_and, Bool.and_false, Bool.and_true, decide_true, decide_false, wipe_nil, wipe_cons]; rfl) ?_
    show Ret (evSs _ _ [some (.rol (ns.map D.int)), some (.ref 2), some (.ref 3), none, none, none, none, none] [O.lst (List.map D.int gs), .lst (gs.map D.int).reverse, .lst [.int st, .int 0, .ref 1], .lst [.int 0, .int 0, .int 0, .int 0]]) _
    have M1 : Mem [O.lst (List.map D.int gs), .lst (gs.map D.int).reverse, .lst [.int st, .int 0, .ref 1], .lst [.int 0, .int 0, .int 0, .int 0]] 2 1 3 [0, 0, 0, 0] := ⟨⟨st, 0, rfl⟩, ⟨gs.reverse, by rw [List.map_reverse]; rfl⟩, rfl, by decide, by decide, by decide⟩
    generalize ([O.lst (List.map D.int gs), .lst (gs.map D.int).reverse, .lst [.int st, .int 0, .ref 1], .lst [.int 0, .int 0, .int 0, .int 0]] : Store) = S1 at M1 ⊢
    have A1 : As 0 0 0 0 [0, 0, 0, 0] := ⟨0, 0, 0, 0, rfl, Int.le_refl _, Int.le_refl _, Int.le_refl _, Int.le_refl _⟩
    obtain ⟨q, S2, e2, hq, M2, F2⟩ := draw HP (fu := fu) (n := n + 6) M1 (many := 8) (by decide) (by decide)
    obtain ⟨m, hm⟩ : ∃ m : Nat, 1 + q = (m : Int) := ⟨(1 + q).toNat, by omega⟩
    obtain ⟨_, S3, bs3, e3, ⟨rfl, w, z, rfl, G, hz⟩, M3, F3⟩ := lots_ok HP (fu := fu) (n := n + 4) M2 (many := m) (by omega) (by omega)
    have hmm : m < 1000 := by omega
    have hmx : m < mx := Nat.lt_trans hmm (by decide)
    refine Ret.step (by simp only [e2, hm, e3, eSs_cons, eS_if, eS_asg, eS_sub, eS_exp, eS_ret, eS_for, eS_rais, eS_brk, eS_cont, eS_pass, ss_nil', eT_or, eT_and, eT_no, eT_isi, eT_var, eT_cst, eT_op, eT_chn, eT_call, eT_bi, eE_isi, eE_var, eE_op, eE_glo, eE_chn, eE_cst, eE_bi, eE_bif, eE_tup, eE_fre, eE_dic0, eE_neg, eE_no, eE_and, eE_or, eE_ite, eE_call, eE_me, eE_sl, eE_rev, eO_non, eO_som, part_int, eEs_cons, eEs_nil, eF_lst, eF_list, eF_lc, eI_e, eI_f, eI_rng1, eI_enu, eI_z2, eI_z3, src_tup, src_rol, enu_tup, zip_tup, zip_tup3, its_items, List.getElem?_cons_zero, List.getElem?_cons_succ, List.set_cons_zero, List.set_cons_succ, rdVar_some, rb_ok, rb_exn, any_str, any_tup, any_int, any_bl, any_non, tr_bl, pur_at, alloc_at, bnd_at, o_add, o_sub, o_lt, o_le, o_gt, o_ge, o_eqI, o_neI, o_eqS, o_isN, chn_t, chn_f, lf_ok, lf_exn, sq_nx, sq_ret, sq_exn, ctx_glo, ctx_call, ctx_ini, opt_some, o_notinS, o_inS, bi_lenT, bi_intI, bi_intB, bi_abs, bi_max, bi_min, bif_tup, bi_tupT, neg_int', sl_tup, nxO_some, putT_nm, putT_tup, putTs_nil, putTs_cons, Option.bind_some, raiO_1, raiO_2, ix_0, ix_1, beq_self_eq_true, Bool.not_true, Bool.not_false, Bool.false_eq_true, ↓reduceIte, Bool.true_and, Bool.false_and, Bool.and_false, Bool.and_true, decide_true, decide_false, wipe_nil, wipe_cons]; rfl) ?_
    have sr : ∀ S, srcD (dL m w z) S = .ok (.its ((List.range m).map fun i => D.tup [.str (w i), .int (z i)])) S := fun S => src_tup
    obtain ⟨f, S4, e4, hf, M4⟩ := evF_fun (c := ctx P fu (callN P fu (n + 7))) (δ := [some (.rol (ns.map D.int)), some (.ref 2), some (.ref 3), some (dL m w z), none, none, none, none]) (own := [6]) (elt := .call "_law_upto" (.cons (.var 1) (.cons (.op .ix (.var 6) (.cst (.int 1))) .nil))) (tg := .nm 6) (it := .e (.var 3)) (m := m) (em := fun i => .tup [.str (w i), .int (z i)]) (em2 := fun i r => .int r) (S := S3) (S0 := S3) (fun i r => 0 ≤ r ∧ r ≤ z i) (fun S' => Mem S' 2 1 3 [0, 0, 0, 0]) G.top (by simp only [sr, eSs_cons, eS_if, eS_asg, eS_sub, eS_exp, eS_ret, eS_for, eS_rais, eS_brk, eS_cont, eS_pass, ss_nil', eT_or, eT_and, eT_no, eT_isi, eT_var, eT_cst, eT_op, eT_chn, eT_call, eT_bi, eE_isi, eE_var, eE_op, eE_glo, eE_chn, eE_cst, eE_bi, eE_bif, eE_tup, eE_fre, eE_dic0, eE_neg, eE_no, eE_and, eE_or, eE_ite, eE_call, eE_me, eE_sl, eE_rev, eO_non, eO_som, part_int, eEs_cons, eEs_nil, eF_lst, eF_list, eF_lc, eI_e, eI_f, eI_rng1, eI_enu, eI_z2, eI_z3, src_tup, src_rol, enu_tup, zip_tup, zip_tup3, its_items, List.getElem?_cons_zero, List.getElem?_cons_succ, List.set_cons_zero, List.set_cons_succ, rdVar_some, rb_ok, rb_exn, any_str, any_tup, any_int, any_bl, any_non, tr_bl, pur_at, alloc_at, bnd_at, o_add, o_sub, o_lt, o_le, o_gt, o_ge, o_eqI, o_neI, o_eqS, o_isN, chn_t, chn_f, lf_ok, lf_exn, sq_nx, sq_ret, sq_exn, ctx_glo, ctx_call, ctx_ini, opt_some, o_notinS, o_inS, bi_lenT, bi_intI, bi_intB, bi_abs, bi_max, bi_min, bif_tup, bi_tupT, neg_int', sl_tup, nxO_some, putT_nm, putT_tup, putTs_nil, putTs_cons, Option.bind_some, raiO_1, raiO_2, ix_0, ix_1, beq_self_eq_true, Bool.not_true, Bool.not_false, Bool.false_eq_true, ↓reduceIte, Bool.true_and, Bool.false_and, Bool.and_false, Bool.and_true, decide_true, decide_false, wipe_nil, wipe_cons]) M3 (by
      rintro i hi S' M'
      have h1 := G.size i hi
      have h2 := hz i hi
      obtain ⟨_, S5, bs5, e5, ⟨rfl, r, rfl, hr⟩, M5, F5⟩ := upto_ok HP (fu := fu) (n := n + 5) M' (top := z i) (by omega) (by omega)
      exact ⟨r, S5, lcF_at rfl (by simp only [e5, eSs_cons, eS_if, eS_asg, eS_sub, eS_exp, eS_ret, eS_for, eS_rais, eS_brk, eS_cont, eS_pass, ss_nil', eT_or, eT_and, eT_no, eT_isi, eT_var, eT_cst, eT_op, eT_chn, eT_call, eT_bi, eE_isi, eE_var, eE_op, eE_glo, eE_chn, eE_cst, eE_bi, eE_bif, eE_tup, eE_fre, eE_dic0, eE_neg, eE_no, eE_and, eE_or, eE_ite, eE_call, eE_me, eE_sl, eE_rev, eO_non, eO_som, part_int, eEs_cons, eEs_nil, eF_lst, eF_list, eF_lc, eI_e, eI_f, eI_rng1, eI_enu, eI_z2, eI_z3, src_tup, src_rol, enu_tup, zip_tup, zip_tup3, its_items, List.getElem?_cons_zero, List.getElem?_cons_succ, List.set_cons_zero, List.set_cons_succ, rdVar_some, rb_ok, rb_exn, any_str, any_tup, any_int, any_bl, any_non, tr_bl, pur_at, alloc_at, bnd_at, o_add, o_sub, o_lt, o_le, o_gt, o_ge, o_eqI, o_neI, o_eqS, o_isN, chn_t, chn_f, lf_ok, lf_exn, sq_nx, sq_ret, sq_exn, ctx_glo, ctx_call, ctx_ini, opt_some, o_notinS, o_inS, bi_lenT, bi_intI, bi_intB, bi_abs, bi_max, bi_min, bif_tup, bi_tupT, neg_int', sl_tup, nxO_some, putT_nm, putT_tup, putTs_nil, putTs_cons, Option.bind_some, raiO_1, raiO_2, ix_0, ix_1, beq_self_eq_true, Bool.not_true, Bool.not_false, Bool.false_eq_true, ↓reduceIte, Bool.true_and, Bool.false_and, Bool.and_false, Bool.and_true, decide_true, decide_false, wipe_nil, wipe_cons]), hr, M5⟩)
    refine Ret.step (asg_fun e4) ?_
    have ixL : ∀ {j : Nat} {S : Store}, j < m → opD .ix (dL m w z) (.int (j : Int)) S = .ok (.tup [.str (w j), .int (z j)]) S := fun h => ix_R h
    have ixf : ∀ {j : Nat} {S : Store}, j < m → opD .ix (dI m f) (.int (j : Int)) S = .ok (.int (f j)) S := fun h => ix_R h
    have hlen : ∀ S, biD .len [dL m w z] S = .ok (.int (m : Int)) S := fun S => len_mR
    obtain ⟨h, S5, e5, hh, M5⟩ := evF_fun (c := ctx P fu (callN P fu (n + 7))) (δ := [some (.rol (ns.map D.int)), some (.ref 2), some (.ref 3), some (dL m w z), some (dI m f), none, none, none]) (own := [7]) (elt := .call "_law_second" (.cons (.var 1) (.cons (.op .ix (.op .ix (.var 3) (.var 7)) (.cst (.int 1))) (.cons (.op .ix (.var 4) (.var 7)) .nil)))) (tg := .nm 7) (it := .rng1 (.bi .len (.cons (.var 3) .nil))) (m := m) (em := fun (i : Nat) => .int (i : Int)) (em2 := fun i r => .int r) (S := S4) (S0 := S4) (fun i r => 0 ≤ r ∧ r ≤ z i) (fun S' => Mem S' 2 1 3 [0, 0, 0, 0]) G.top (by simp only [hlen, rng_R G.top, eSs_cons, eS_if, eS_asg, eS_sub, eS_exp, eS_ret, eS_for, eS_rais, eS_brk, eS_cont, eS_pass, ss_nil', eT_or, eT_and, eT_no, eT_isi, eT_var, eT_cst, eT_op, eT_chn, eT_call, eT_bi, eE_isi, eE_var, eE_op, eE_glo, eE_chn, eE_cst, eE_bi, eE_bif, eE_tup, eE_fre, eE_dic0, eE_neg, eE_no, eE_and, eE_or, eE_ite, eE_call, eE_me, eE_sl, eE_rev, eO_non, eO_som, part_int, eEs_cons, eEs_nil, eF_lst, eF_list, eF_lc, eI_e, eI_f, eI_rng1, eI_enu, eI_z2, eI_z3, src_tup, src_rol, enu_tup, zip_tup, zip_tup3, its_items, List.getElem?_cons_zero, List.getElem?_cons_succ, List.set_cons_zero, List.set_cons_succ, rdVar_some, rb_ok, rb_exn, any_str, any_tup, any_int, any_bl, any_non, tr_bl, pur_at, alloc_at, bnd_at, o_add, o_sub, o_lt, o_le, o_gt, o_ge, o_eqI, o_neI, o_eqS, o_isN, chn_t, chn_f, lf_ok, lf_exn, sq_nx, sq_ret, sq_exn, ctx_glo, ctx_call, ctx_ini, opt_some, o_notinS, o_inS, bi_lenT, bi_intI, bi_intB, bi_abs, bi_max, bi_min, bif_tup, bi_tupT, neg_int', sl_tup, nxO_some, putT_nm, putT_tup, putTs_nil, putTs_cons, Option.bind_some, raiO_1, raiO_2, ix_0, ix_1, beq_self_eq_true, Bool.not_true, Bool.not_false, Bool.false_eq_true, ↓reduceIte, Bool.true_and, Bool.false_and, Bool.and_false, Bool.and_true, decide_true, decide_false, wipe_nil, wipe_cons]) M4 (by
      rintro i hi S' M'
      have h1 := hf i hi
      have h2 := hz i hi
      obtain ⟨_, S6, bs6, e6, ⟨rfl, r, rfl, hr⟩, M6, F6⟩ := second_ok HP (fu := fu) (n := n + 4) M' (sz := z i) (fi := f i) h1.1 h1.2 (by omega)
      exact ⟨r, S6, lcF_at rfl (by simp only [ixL hi, ixf hi, e6, eSs_cons, eS_if, eS_asg, eS_sub, eS_exp, eS_ret, eS_for, eS_rais, eS_brk, eS_cont, eS_pass, ss_nil', eT_or, eT_and, eT_no, eT_isi, eT_var, eT_cst, eT_op, eT_chn, eT_call, eT_bi, eE_isi, eE_var, eE_op, eE_glo, eE_chn, eE_cst, eE_bi, eE_bif, eE_tup, eE_fre, eE_dic0, eE_neg, eE_no, eE_and, eE_or, eE_ite, eE_call, eE_me, eE_sl, eE_rev, eO_non, eO_som, part_int, eEs_cons, eEs_nil, eF_lst, eF_list, eF_lc, eI_e, eI_f, eI_rng1, eI_enu, eI_z2, eI_z3, src_tup, src_rol, enu_tup, zip_tup, zip_tup3, its_items, List.getElem?_cons_zero, List.getElem?_cons_succ, List.set_cons_zero, List.set_cons_succ, rdVar_some, rb_ok, rb_exn, any_str, any_tup, any_int, any_bl, any_non, tr_bl, pur_at, alloc_at, bnd_at, o_add, o_sub, o_lt, o_le, o_gt, o_ge, o_eqI, o_neI, o_eqS, o_isN, chn_t, chn_f, lf_ok, lf_exn, sq_nx, sq_ret, sq_exn, ctx_glo, ctx_call, ctx_ini, opt_some, o_notinS, o_inS, bi_lenT, bi_intI, bi_intB, bi_abs, bi_max, bi_min, bif_tup, bi_tupT, neg_int', sl_tup, nxO_some, putT_nm, putT_tup, putTs_nil, putTs_cons, Option.bind_some, raiO_1, raiO_2, ix_0, ix_1, beq_self_eq_true, Bool.not_true, Bool.not_false, Bool.false_eq_true, ↓reduceIte, Bool.true_and, Bool.false_and, Bool.and_false, Bool.and_true, decide_true, decide_false, wipe_nil, wipe_cons]), hr, M6⟩)
    refine Ret.step (asg_fun e5) ?_
    have Ff : FitC m z f := hf
    have Fh : FitC m z h := hh
    obtain ⟨_, S6, bs6, e6, ⟨rfl, A6⟩, M6, F6⟩ := pair_ok HP (fu := fu) (n := n) G hmx Ff Fh M5 A1
    refine Ret.step (by
      show evS _ _ [some (.rol (ns.map D.int)), some (.ref 2), some (.ref 3), some (dL m w z), some (dI m f), some (dI m h), none, none] _ = _
      simp only [e6, eSs_cons, eS_if, eS_asg, eS_sub, eS_exp, eS_ret, eS_for, eS_rais, eS_brk, eS_cont, eS_pass, ss_nil', eT_or, eT_and, eT_no, eT_isi, eT_var, eT_cst, eT_op, eT_chn, eT_call, eT_bi, eE_isi, eE_var, eE_op, eE_glo, eE_chn, eE_cst, eE_bi, eE_bif, eE_tup, eE_fre, eE_dic0, eE_neg, eE_no, eE_and, eE_or, eE_ite, eE_call, eE_me, eE_sl, eE_rev, eO_non, eO_som, part_int, eEs_cons, eEs_nil, eF_lst, eF_list, eF_lc, eI_e, eI_f, eI_rng1, eI_enu, eI_z2, eI_z3, src_tup, src_rol, enu_tup, zip_tup, zip_tup3, its_items, List.getElem?_cons_zero, List.getElem?_cons_succ, List.set_cons_zero, List.set_cons_succ, rdVar_some, rb_ok, rb_exn, any_str, any_tup, any_int, any_bl, any_non, tr_bl, pur_at, alloc_at, bnd_at, o_add, o_sub, o_lt, o_le, o_gt, o_ge, o_eqI, o_neI, o_eqS, o_isN, chn_t, chn_f, lf_ok, lf_exn, sq_nx, sq_ret, sq_exn, ctx_glo, ctx_call, ctx_ini, opt_some, o_notinS, o_inS, bi_lenT, bi_intI, bi_intB, bi_abs, bi_max, bi_min, bif_tup, bi_tupT, neg_int', sl_tup, nxO_some, putT_nm, putT_tup, putTs_nil, putTs_cons, Option.bind_some, raiO_1, raiO_2, ix_0, ix_1, beq_self_eq_true, Bool.not_true, Bool.not_false, Bool.false_eq_true, ↓reduceIte, Bool.true_and, Bool.false_and, Bool.and_false, Bool.and_true, decide_true, decide_false, wipe_nil, wipe_cons]
      rfl) ?_
    refine Ret.step (by simp only [first_last_ok HP (n := n + 1) G Ff Fh, first_last_ok HP (n := n + 1) G Fh Ff, eSs_cons, eS_if, eS_asg, eS_sub, eS_exp, eS_ret, eS_for, eS_rais, eS_brk, eS_cont, eS_pass, ss_nil', eT_or, eT_and, eT_no, eT_isi, eT_var, eT_cst, eT_op, eT_chn, eT_call, eT_bi, eE_isi, eE_var, eE_op, eE_glo, eE_chn, eE_cst, eE_bi, eE_bif, eE_tup, eE_fre, eE_dic0, eE_neg, eE_no, eE_and, eE_or, eE_ite, eE_call, eE_me, eE_sl, eE_rev, eO_non, eO_som, part_int, eEs_cons, eEs_nil, eF_lst, eF_list, eF_lc, eI_e, eI_f, eI_rng1, eI_enu, eI_z2, eI_z3, src_tup, src_rol, enu_tup, zip_tup, zip_tup3, its_items, List.getElem?_cons_zero, List.getElem?_cons_succ, List.set_cons_zero, List.set_cons_succ, rdVar_some, rb_ok, rb_exn, any_str, any_tup, any_int, any_bl, any_non, tr_bl, pur_at, alloc_at, bnd_at, o_add, o_sub, o_lt, o_le, o_gt, o_ge, o_eqI, o_neI, o_eqS, o_isN, chn_t, chn_f, lf_ok, lf_exn, sq_nx, sq_ret, sq_exn, ctx_glo, ctx_call, ctx_ini, opt_some, o_notinS, o_inS, bi_lenT, bi_intI, bi_intB, bi_abs, bi_max, bi_min, bif_tup, bi_tupT, neg_int', sl_tup, nxO_some, putT_nm, putT_tup, putTs_nil, putTs_cons, Option.bind_some, raiO_1, raiO_2, ix_0, ix_1, beq_self_eq_true, Bool.not_true, Bool.not_false, Bool.false_eq_true, ↓reduceIte, Bool.true_and, Bool.false_and, Bool.and_false, Bool.and_true, decide_true, decide_false, wipe_nil, wipe_cons]; rfl) ?_
    obtain ⟨_, S7, bs7, e7, ⟨rfl, A7⟩, M7, F7⟩ := small_ok HP (fu := fu) (n := n) G M6 A6
    refine Ret.step (by simp only [e7, eSs_cons, eS_if, eS_asg, eS_sub, eS_exp, eS_ret, eS_for, eS_rais, eS_brk, eS_cont, eS_pass, ss_nil', eT_or, eT_and, eT_no, eT_isi, eT_var, eT_cst, eT_op, eT_chn, eT_call, eT_bi, eE_isi, eE_var, eE_op, eE_glo, eE_chn, eE_cst, eE_bi, eE_bif, eE_tup, eE_fre, eE_dic0, eE_neg, eE_no, eE_and, eE_or, eE_ite, eE_call, eE_me, eE_sl, eE_rev, eO_non, eO_som, part_int, eEs_cons, eEs_nil, eF_lst, eF_list, eF_lc, eI_e, eI_f, eI_rng1, eI_enu, eI_z2, eI_z3, src_tup, src_rol, enu_tup, zip_tup, zip_tup3, its_items, List.getElem?_cons_zero, List.getElem?_cons_succ, List.set_cons_zero, List.set_cons_succ, rdVar_some, rb_ok, rb_exn, any_str, any_tup, any_int, any_bl, any_non, tr_bl, pur_at, alloc_at, bnd_at, o_add, o_sub, o_lt, o_le, o_gt, o_ge, o_eqI, o_neI, o_eqS, o_isN, chn_t, chn_f, lf_ok, lf_exn, sq_nx, sq_ret, sq_exn, ctx_glo, ctx_call, ctx_ini, opt_some, o_notinS, o_inS, bi_lenT, bi_intI, bi_intB, bi_abs, bi_max, bi_min, bif_tup, bi_tupT, neg_int', sl_tup, nxO_some, putT_nm, putT_tup, putTs_nil, putTs_cons, Option.bind_some, raiO_1, raiO_2, ix_0, ix_1, beq_self_eq_true, Bool.not_true, Bool.not_false, Bool.false_eq_true, ↓reduceIte, Bool.true_and, Bool.false_and, Bool.and_false, Bool.and_true, decide_true, decide_false, wipe_nil, wipe_cons]; rfl) ?_
    obtain ⟨_, S8, bs8, e8, ⟨rfl, A8⟩, M8, F8⟩ := doors_ok HP (fu := fu) (n := n) G hmm hz Ff M7 A7
    obtain ⟨_, S9, bs9, e9, ⟨rfl, A9⟩, M9, F9⟩ := between_ok HP (fu := fu) (n := n) G hmm M8 A8
    refine Ret.step (by simp only [e8, e9, eSs_cons, eS_if, eS_asg, eS_sub, eS_exp, eS_ret, eS_for, eS_rais, eS_brk, eS_cont, eS_pass, ss_nil', eT_or, eT_and, eT_no, eT_isi, eT_var, eT_cst, eT_op, eT_chn, eT_call, eT_bi, eE_isi, eE_var, eE_op, eE_glo, eE_chn, eE_cst, eE_bi, eE_bif, eE_tup, eE_fre, eE_dic0, eE_neg, eE_no, eE_and, eE_or, eE_ite, eE_call, eE_me, eE_sl, eE_rev, eO_non, eO_som, part_int, eEs_cons, eEs_nil, eF_lst, eF_list, eF_lc, eI_e, eI_f, eI_rng1, eI_enu, eI_z2, eI_z3, src_tup, src_rol, enu_tup, zip_tup, zip_tup3, its_items, List.getElem?_cons_zero, List.getElem?_cons_succ, List.set_cons_zero, List.set_cons_succ, rdVar_some, rb_ok, rb_exn, any_str, any_tup, any_int, any_bl, any_non, tr_bl, pur_at, alloc_at, bnd_at, o_add, o_sub, o_lt, o_le, o_gt, o_ge, o_eqI, o_neI, o_eqS, o_isN, chn_t, chn_f, lf_ok, lf_exn, sq_nx, sq_ret, sq_exn, ctx_glo, ctx_call, ctx_ini, opt_some, o_notinS, o_inS, bi_lenT, bi_intI, bi_intB, bi_abs, bi_max, bi_min, bif_tup, bi_tupT, neg_int', sl_tup, nxO_some, putT_nm, putT_tup, putTs_nil, putTs_cons, Option.bind_some, raiO_1, raiO_2, ix_0, ix_1, beq_self_eq_true, Bool.not_true, Bool.not_false, Bool.false_eq_true, ↓reduceIte, Bool.true_and, Bool.false_and, Bool.and_false, Bool.and_true, decide_true, decide_false, wipe_nil, wipe_cons]; rfl) ?_
    refine Ret.step (by simp only [ask_least_ok HP (n := n + 1) G Ff Fh, eSs_cons, eS_if, eS_asg, eS_sub, eS_exp, eS_ret, eS_for, eS_rais, eS_brk, eS_cont, eS_pass, ss_nil', eT_or, eT_and, eT_no, eT_isi, eT_var, eT_cst, eT_op, eT_chn, eT_call, eT_bi, eE_isi, eE_var, eE_op, eE_glo, eE_chn, eE_cst, eE_bi, eE_bif, eE_tup, eE_fre, eE_dic0, eE_neg, eE_no, eE_and, eE_or, eE_ite, eE_call, eE_me, eE_sl, eE_rev, eO_non, eO_som, part_int, eEs_cons, eEs_nil, eF_lst, eF_list, eF_lc, eI_e, eI_f, eI_rng1, eI_enu, eI_z2, eI_z3, src_tup, src_rol, enu_tup, zip_tup, zip_tup3, its_items, List.getElem?_cons_zero, List.getElem?_cons_succ, List.set_cons_zero, List.set_cons_succ, rdVar_some, rb_ok, rb_exn, any_str, any_tup, any_int, any_bl, any_non, tr_bl, pur_at, alloc_at, bnd_at, o_add, o_sub, o_lt, o_le, o_gt, o_ge, o_eqI, o_neI, o_eqS, o_isN, chn_t, chn_f, lf_ok, lf_exn, sq_nx, sq_ret, sq_exn, ctx_glo, ctx_call, ctx_ini, opt_some, o_notinS, o_inS, bi_lenT, bi_intI, bi_intB, bi_abs, bi_max, bi_min, bif_tup, bi_tupT, neg_int', sl_tup, nxO_some, putT_nm, putT_tup, putTs_nil, putTs_cons, Option.bind_some, raiO_1, raiO_2, ix_0, ix_1, beq_self_eq_true, Bool.not_true, Bool.not_false, Bool.false_eq_true, ↓reduceIte, Bool.true_and, Bool.false_and, Bool.and_false, Bool.and_true, decide_true, decide_false, wipe_nil, wipe_cons]; rfl) ?_
    obtain ⟨b0, b1, b2, b3, rfl, q0, q1, q2, q3⟩ := A9
    have hmin : biD .min1 [.ref 3] S9 = .ok (.int (min (min (min b0 b1) b2) b3)) S9 := by
      show (getL 3 S9).bind _ = _
      unfold getL
      rw [M9.ha]
      rfl
    have hpos : decide (0 < min (min (min b0 b1) b2) b3) = true := decide_eq_true (by omega)
    simp only [hmin, hpos, eSs_cons, eS_if, eS_asg, eS_sub, eS_exp, eS_ret, eS_for, eS_rais, eS_brk, eS_cont, eS_pass, ss_nil', eT_or, eT_and, eT_no, eT_isi, eT_var, eT_cst, eT_op, eT_chn, eT_call, eT_bi, eE_isi, eE_var, eE_op, eE_glo, eE_chn, eE_cst, eE_bi, eE_bif, eE_tup, eE_fre, eE_dic0, eE_neg, eE_no, eE_and, eE_or, eE_ite, eE_call, eE_me, eE_sl, eE_rev, eO_non, eO_som, part_int, eEs_cons, eEs_nil, eF_lst, eF_list, eF_lc, eI_e, eI_f, eI_rng1, eI_enu, eI_z2, eI_z3, src_tup, src_rol, enu_tup, zip_tup, zip_tup3, its_items, List.getElem?_cons_zero, List.getElem?_cons_succ, List.set_cons_zero, List.set_cons_succ, rdVar_some, rb_ok, rb_exn, any_str, any_tup, any_int, any_bl, any_non, tr_bl, pur_at, alloc_at, bnd_at, o_add, o_sub, o_lt, o_le, o_gt, o_ge, o_eqI, o_neI, o_eqS, o_isN, chn_t, chn_f, lf_ok, lf_exn, sq_nx, sq_ret, sq_exn, ctx_glo, ctx_call, ctx_ini, opt_some, o_notinS, o_inS, bi_lenT, bi_intI, bi_intB, bi_abs, bi_max, bi_min, bif_tup, bi_tupT, neg_int', sl_tup, nxO_some, putT_nm, putT_tup, putTs_nil, putTs_cons, Option.bind_some, raiO_1, raiO_2, ix_0, ix_1, beq_self_eq_true, Bool.not_true, Bool.not_false, Bool.false_eq_true, ↓reduceIte, Bool.true_and, Bool.false_and, Bool.and_false, Bool.and_true, decide_true, decide_false, wipe_nil, wipe_cons]
    exact ⟨_, _, rfl, rfl⟩
  obtain ⟨_, S', e1, rfl⟩ := e0
  exact ⟨_, (congrArg (fun r => fin [] (endR r)) e1).trans rfl⟩
end
end K03

set_option Elab.async false
set_option linter.all false
set_option maxRecDepth 100000
set_option maxHeartbeats 0
/-! k03: the trees, the tables. -/
namespace K03
open PySem PySem.Spec PyProof.Rows L2 Mi
def b_is_integer : Ss := (.cons (.ret (.and2 (.isi (.var 0) [.int]) (.no (.isi (.var 0) [.bool])))) .nil)
def b_is_number : Ss := (.cons (.ret (.and2 (.call "is_integer" (.cons (.var 0) .nil)) (.op .ge (.var 0) (.cst (.int 0))))) .nil)
def b_is_word : Ss := (.cons (.if_ (.or2 (.no (.isi (.var 0) [.str])) (.no (.chn .le .le (.cst (.int 1)) (.bi .len (.cons (.var 0) .nil)) (.cst (.int 8))))) (.cons (.ret (.cst (.bl false))) .nil) .nil) (.cons (.if_ (.or2 (.op .notin (.op .ix (.var 0) (.cst (.int 0))) (.glo "SMALL_LETTERS")) (.op .in_ (.var 0) (.glo "KEPT_WORDS"))) (.cons (.ret (.cst (.bl false))) .nil) .nil) (.cons (.for_ (.nm 1) (.e (.var 0)) (.cons (.if_ (.and2 (.op .notin (.var 1) (.glo "SMALL_LETTERS")) (.op .notin (.var 1) (.glo "FIGURES"))) (.cons (.ret (.cst (.bl false))) .nil) .nil) .nil)) (.cons (.ret (.cst (.bl true))) .nil))))
def b_check_lots : Ss := (.cons (.if_ (.or2 (.no (.isi (.var 0) [.tuple])) (.op .eq (.bi .len (.cons (.var 0) .nil)) (.cst (.int 0)))) (.cons (.rais "BadLots" (.cons (.neg (.cst (.int 1))) (.cons (.cst (.str [115, 104, 97, 112, 101])) .nil))) .nil) .nil) (.cons (.asg (.nm 1) .dic0) (.cons (.for_ (.tup (.cons (.nm 2) (.cons (.nm 3) .nil))) (.enu (.var 0)) (.cons (.if_ (.or2 (.no (.isi (.var 3) [.tuple])) (.op .ne (.bi .len (.cons (.var 3) .nil)) (.cst (.int 2)))) (.cons (.rais "BadLots" (.cons (.var 2) (.cons (.cst (.str [115, 104, 97, 112, 101])) .nil))) .nil) .nil) (.cons (.asg (.tup (.cons (.nm 4) (.cons (.nm 5) .nil))) (.var 3)) (.cons (.if_ (.no (.call "is_word" (.cons (.var 4) .nil))) (.cons (.rais "BadLots" (.cons (.var 2) (.cons (.cst (.str [119, 111, 114, 100])) .nil))) .nil) .nil) (.cons (.if_ (.op .in_ (.var 4) (.var 1)) (.cons (.rais "BadLots" (.cons (.var 2) (.cons (.cst (.str [116, 119, 105, 99, 101])) .nil))) .nil) .nil) (.cons (.if_ (.or2 (.no (.call "is_integer" (.cons (.var 5) .nil))) (.op .lt (.var 5) (.cst (.int 1)))) (.cons (.rais "BadLots" (.cons (.var 2) (.cons (.cst (.str [115, 105, 122, 101])) .nil))) .nil) .nil) (.cons (.sub (.var 1) (.var 4) (.cst (.bl true))) .nil))))))) (.cons (.ret (.bi .len (.cons (.var 0) .nil))) .nil))))
def b_everyone : Ss := (.cons (.exp (.call "check_lots" (.cons (.var 0) .nil))) (.cons (.ret (.bif .tuple (.lc [1] (.op .ix (.var 1) (.cst (.int 1))) (.nm 1) (.e (.var 0)) .nil))) .nil))
def b_nobody : Ss := (.cons (.exp (.call "check_lots" (.cons (.var 0) .nil))) (.cons (.ret (.bif .tuple (.lc [1] (.cst (.int 0)) (.nm 1) (.e (.var 0)) .nil))) .nil))
def b_need_counts : Ss := (.cons (.if_ (.or2 (.no (.isi (.var 1) [.tuple])) (.op .ne (.bi .len (.cons (.var 1) .nil)) (.bi .len (.cons (.var 0) .nil)))) (.cons (.rais "BadCounts" (.cons (.neg (.cst (.int 1))) .nil)) .nil) .nil) (.cons (.for_ (.tup (.cons (.nm 2) (.cons (.nm 3) .nil))) (.enu (.var 0)) (.cons (.if_ (.or2 (.no (.call "is_number" (.cons (.op .ix (.var 1) (.var 2)) .nil))) (.op .gt (.op .ix (.var 1) (.var 2)) (.op .ix (.var 3) (.cst (.int 1))))) (.cons (.rais "BadCounts" (.cons (.var 2) .nil)) .nil) .nil) .nil)) (.cons (.ret (.bi .sum (.cons (.var 1) .nil))) .nil)))
def b_is_below : Ss := (.cons (.for_ (.tup (.cons (.nm 2) (.cons (.nm 3) .nil))) (.zip2 (.var 0) (.var 1)) (.cons (.if_ (.op .gt (.var 2) (.var 3)) (.cons (.ret (.cst (.bl false))) .nil) .nil) .nil)) (.cons (.ret (.cst (.bl true))) .nil))
def b_common_counts : Ss := (.cons (.ret (.bif .tuple (.lc [3, 4, 5] (.bi .max2 (.cons (.cst (.int 0)) (.cons (.op .sub (.op .add (.var 3) (.var 4)) (.op .ix (.var 5) (.cst (.int 1)))) .nil))) (.tup (.cons (.nm 3) (.cons (.nm 4) (.cons (.nm 5) .nil)))) (.zip3 (.var 1) (.var 2) (.var 0)) .nil))) .nil)
def b_below : Ss := (.cons (.exp (.call "check_lots" (.cons (.var 0) .nil))) (.cons (.exp (.call "need_counts" (.cons (.var 0) (.cons (.var 1) .nil)))) (.cons (.exp (.call "need_counts" (.cons (.var 0) (.cons (.var 2) .nil)))) (.cons (.ret (.call "is_below" (.cons (.var 1) (.cons (.var 2) .nil)))) .nil))))
def b_least_common : Ss := (.cons (.exp (.call "check_lots" (.cons (.var 0) .nil))) (.cons (.exp (.call "need_counts" (.cons (.var 0) (.cons (.var 1) .nil)))) (.cons (.exp (.call "need_counts" (.cons (.var 0) (.cons (.var 2) .nil)))) (.cons (.ret (.call "common_counts" (.cons (.var 0) (.cons (.var 1) (.cons (.var 2) .nil))))) .nil))))
def b_outside : Ss := (.cons (.exp (.call "check_lots" (.cons (.var 0) .nil))) (.cons (.exp (.call "need_counts" (.cons (.var 0) (.cons (.var 1) .nil)))) (.cons (.ret (.bif .tuple (.lc [2, 3] (.op .sub (.op .ix (.var 2) (.cst (.int 1))) (.var 3)) (.tup (.cons (.nm 2) (.cons (.nm 3) .nil))) (.zip2 (.var 0) (.var 1)) .nil))) .nil)))
def b_first_houses : Ss := (.cons (.exp (.call "check_lots" (.cons (.var 0) .nil))) (.cons (.exp (.call "need_counts" (.cons (.var 0) (.cons (.var 1) .nil)))) (.cons (.ret (.bif .tuple (.lc [2] (.ite (.op .gt (.var 2) (.cst (.int 0))) (.tup (.cons (.tup (.cons (.cst (.int 0)) (.cons (.var 2) .nil))) .nil)) (.tup .nil)) (.nm 2) (.e (.var 1)) .nil))) .nil)))
def ents : List FnE := [⟨"is_integer", ["thing"], ["thing"], ⟨1, 1, b_is_integer⟩⟩,
  ⟨"is_number", ["thing"], ["thing"], ⟨1, 1, b_is_number⟩⟩,
  ⟨"is_word", ["thing", "sign"], ["thing"], ⟨1, 2, b_is_word⟩⟩,
  ⟨"check_lots", ["thing", "known", "place", "lot", "word", "size"], ["thing"], ⟨1, 6, b_check_lots⟩⟩,
  ⟨"everyone", ["lots", "lot"], ["lots"], ⟨1, 2, b_everyone⟩⟩,
  ⟨"nobody", ["lots", "_"], ["lots"], ⟨1, 2, b_nobody⟩⟩,
  ⟨"need_counts", ["lots", "thing", "place", "lot"], ["lots", "thing"], ⟨2, 4, b_need_counts⟩⟩,
  ⟨"is_below", ["one", "two", "less", "more"], ["one", "two"], ⟨2, 4, b_is_below⟩⟩,
  ⟨"common_counts", ["lots", "one", "two", "left", "right", "lot"], ["lots", "one", "two"], ⟨3, 6, b_common_counts⟩⟩,
  ⟨"below", ["lots", "one", "two"], ["lots", "one", "two"], ⟨3, 3, b_below⟩⟩,
  ⟨"least_common", ["lots", "one", "two"], ["lots", "one", "two"], ⟨3, 3, b_least_common⟩⟩,
  ⟨"outside", ["lots", "counts", "lot", "many"], ["lots", "counts"], ⟨2, 4, b_outside⟩⟩,
  ⟨"first_houses", ["lots", "counts", "many"], ["lots", "counts"], ⟨2, 3, b_first_houses⟩⟩,
  ⟨"_law_tape", ["script", "state", "greats", "cell"], ["script"], ⟨1, 4, b__law_tape⟩⟩,
  ⟨"_law_draw", ["tape", "many", "told"], ["tape", "many"], ⟨2, 3, b__law_draw⟩⟩,
  ⟨"_law_upto", ["tape", "top", "way"], ["tape", "top"], ⟨2, 3, b__law_upto⟩⟩,
  ⟨"_law_kept", [], [], ⟨0, 0, b__law_kept⟩⟩,
  ⟨"_law_word", ["tape", "before", "told", "k", "other"], ["tape", "before"], ⟨2, 5, b__law_word⟩⟩,
  ⟨"_law_size", ["tape", "way"], ["tape"], ⟨1, 2, b__law_size⟩⟩,
  ⟨"_law_lots", ["tape", "many", "told", "words", "k", "word"], ["tape", "many"], ⟨2, 6, b__law_lots⟩⟩,
  ⟨"_law_with", ["row", "at", "item"], ["row", "at", "item"], ⟨3, 3, b__law_with⟩⟩,
  ⟨"_law_same", ["told", "due", "at"], ["told", "due"], ⟨2, 3, b__law_same⟩⟩,
  ⟨"_law_told", ["which", "lots", "one", "two", "unlike", "wrong", "told"], ["which", "lots", "one", "two"], ⟨4, 7, b__law_told⟩⟩,
  ⟨"_law_sizes", ["lots", "lot"], ["lots"], ⟨1, 2, b__law_sizes⟩⟩,
  ⟨"_law_part", ["lots", "one", "two", "at"], ["lots", "one", "two"], ⟨3, 4, b__law_part⟩⟩,
  ⟨"_law_is_below", ["one", "two", "at"], ["one", "two"], ⟨2, 3, b__law_is_below⟩⟩,
  ⟨"_law_bits", ["mask", "told", "bit"], ["mask"], ⟨1, 3, b__law_bits⟩⟩,
  ⟨"_law_subsets", ["size", "many", "mask"], ["size", "many"], ⟨2, 3, b__law_subsets⟩⟩,
  ⟨"_law_fewest", ["size", "first", "second", "told", "one", "two"], ["size", "first", "second"], ⟨3, 6, b__law_fewest⟩⟩,
  ⟨"_law_fits", ["size", "first", "second", "fall", "one", "two"], ["size", "first", "second", "fall"], ⟨4, 6, b__law_fits⟩⟩,
  ⟨"_law_ask_below", ["asked", "lots", "one", "two", "due"], ["asked", "lots", "one", "two"], ⟨4, 5, b__law_ask_below⟩⟩,
  ⟨"_law_ask_least", ["lots", "one", "two", "due"], ["lots", "one", "two"], ⟨3, 4, b__law_ask_least⟩⟩,
  ⟨"_law_second", ["tape", "size", "first", "way", "near"], ["tape", "size", "first"], ⟨3, 5, b__law_second⟩⟩,
  ⟨"_law_pair", ["tape", "asked", "lots", "one", "two", "sizes", "empty", "rest", "at", "more", "less", "pair", "lot"], ["tape", "asked", "lots", "one", "two"], ⟨5, 13, b__law_pair⟩⟩,
  ⟨"_law_first_last", ["lots", "one", "two", "told", "due", "shared", "at", "low", "many", "span", "number"], ["lots", "one", "two"], ⟨3, 11, b__law_first_last⟩⟩,
  ⟨"_law_small", ["tape", "asked", "lots", "room", "k", "one", "two", "fall", "due", "fits", "at", "lot", "mask"], ["tape", "asked", "lots"], ⟨3, 13, b__law_small⟩⟩,
  ⟨"_law_doors", ["tape", "asked", "lots", "one", "at", "size", "late", "wrongs", "item", "wrong", "pair", "other", "which", "due"], ["tape", "asked", "lots", "one"], ⟨4, 14, b__law_doors⟩⟩,
  ⟨"_law_between", ["tape", "asked", "lots", "at", "pair", "ones", "none", "twos", "question", "one", "wrong", "k", "which", "lot", "number"], ["tape", "asked", "lots"], ⟨3, 15, b__law_between⟩⟩,
  ⟨"law", ["script", "tape", "asked", "lots", "one", "two", "lot", "at"], ["script"], ⟨1, 8, b_law⟩⟩]
def glos : List (String × Mi.D) := [("SMALL_LETTERS", (.str [97, 98, 99, 100, 101, 102, 103, 104, 105, 106, 107, 108, 109, 110, 111, 112, 113, 114, 115, 116, 117, 118, 119, 120, 121, 122])), ("FIGURES", (.str [48, 49, 50, 51, 52, 53, 54, 55, 56, 57])), ("KEPT_WORDS", (.tup [(.str [111, 102]), (.str [105, 110]), (.str [109, 111, 115, 116]), (.str [97, 108, 108]), (.str [111, 110, 101]), (.str [104, 101, 97, 118, 121]), (.str [108, 101, 97, 115, 116]), (.str [115, 112, 97, 114, 101]), (.str [109, 105, 114, 114, 111, 114]), (.str [110, 111, 98, 111, 100, 121]), (.str [109, 97, 110, 110, 101, 114]), (.str [114, 117, 108, 101]), (.str [108, 111, 116]), (.str [116, 114, 117, 115, 116]), (.str [99, 104, 97, 114, 116, 101, 114]), (.str [114, 111, 119]), (.str [97, 115, 107]), (.str [101, 99, 104, 111]), (.str [118, 111, 116, 101]), (.str [108, 111, 111, 107]), (.str [104, 111, 108, 100]), (.str [99, 104, 97, 110, 103, 101]), (.str [116, 111])]))]
def hd : HD := ⟨ents, glos, [("BadLots", ["at", "word"]), ("BadCounts", ["at"])], ["AssentError", "BadCounts", "BadLots"]⟩
def top (i : Nat) : Stmt := PySem.Challenge.pw_assentwhole_k03_whole_least_common_count.main.body.getD i (.Pass ⟨0, 0, 0, 0⟩)
def mkD (x : Str) (i : Nat) : He.DefD := ⟨(x, none), x, x, defArgs (top i), defBody (top i), defScope (top i), [], []⟩
def clsB : Stmt → List Stmt
  | .ClassDef _ _ _ b _ _ _ _ _ _ _ => b
  | _ => []
def iniD (x : Str) (i j : Nat) : He.DefD := ⟨(x, some ("__init__" : Str)), "__init__", x ++ ".__init__", defArgs ((clsB (top i)).getD j (.Pass ⟨0, 0, 0, 0⟩)), defBody ((clsB (top i)).getD j (.Pass ⟨0, 0, 0, 0⟩)), defScope ((clsB (top i)).getD j (.Pass ⟨0, 0, 0, 0⟩)), [], []⟩
def fn : List He.DefD := [mkD "is_integer" 9, mkD "is_number" 10, mkD "is_word" 11, mkD "check_lots" 12, mkD "everyone" 13, mkD "nobody" 14, mkD "need_counts" 16, mkD "is_below" 17, mkD "common_counts" 18, mkD "below" 19, mkD "least_common" 20, mkD "outside" 21, mkD "first_houses" 23, mkD "_law_tape" 25, mkD "_law_draw" 26, mkD "_law_upto" 27, mkD "_law_kept" 28, mkD "_law_word" 29, mkD "_law_size" 30, mkD "_law_lots" 31, mkD "_law_with" 32, mkD "_law_same" 33, mkD "_law_told" 34, mkD "_law_sizes" 35, mkD "_law_part" 36, mkD "_law_is_below" 37, mkD "_law_bits" 38, mkD "_law_subsets" 39, mkD "_law_fewest" 40, mkD "_law_fits" 41, mkD "_law_ask_below" 42, mkD "_law_ask_least" 43, mkD "_law_second" 44, mkD "_law_pair" 45, mkD "_law_first_last" 46, mkD "_law_small" 47, mkD "_law_doors" 48, mkD "_law_between" 49, mkD "law" 50, iniD "BadLots" 3 0, iniD "BadCounts" 4 0]
abbrev R : PySem.W.OpenRow := PySem.W.OpenLaw.row PySem.Challenge.rw_assentwhole_k03_whole_least_common_count
def loose0 : List Str := ["__name__", "AssentError", "DataError", "BadLots", "BadCounts", "SMALL_LETTERS", "FIGURES", "KEPT_WORDS", "is_integer", "is_number", "is_word", "check_lots", "everyone", "nobody", "need_counts", "is_below", "common_counts", "below", "least_common", "outside", "first_houses", "_law_tape", "_law_draw", "_law_upto", "_law_kept", "_law_word", "_law_size", "_law_lots", "_law_with", "_law_same"]
def loose1 : List Str := ["_law_told", "_law_sizes", "_law_part", "_law_is_below", "_law_bits", "_law_subsets", "_law_fewest", "_law_fits", "_law_ask_below", "_law_ask_least", "_law_second", "_law_pair", "_law_first_last", "_law_small", "_law_doors", "_law_between"]
def loose : List Str := loose0 ++ loose1
abbrev hk : PySem.W.Hook := hookM 6 hd fn
def ob (s : PySem.W.SharedT) : He.AlD := obsM 6 hd fn (HandSHeadRun.getT s)
theorem ob_eq (s : PySem.W.SharedT) : ob s = hk.obs s.abs := obsM_eq (HandSHeadRun.getT_eq s)
theorem chk : hd.chk fn = true := by kernel_rfl
theorem run (w : World) : HandSHeadRun.RunEq R (PySem.W.view R.prog [50]) hk ob 6000 loose w := by
  intro os
  kernel_rfl
abbrev eLaw : FnE := ents.getD 38 ⟨"", [], [], ⟨0, 0, .nil⟩⟩
/-- the law, from its meaning -/
theorem holds (math : ∀ ns : List Int, ns.length ≤ 63 → ∃ fu n S', n ≤ 100 ∧ callN hd.pr fu (n + 1) "law" [scr ns] [] = .ok (.bl true) S') : PySem.Challenge.rw_assentwhole_k03_whole_least_common_count.Holds := by
  open PySem.W PySem.Calls in
  w_on; o_law
  refine HandSHeadRun.head_any (r := PySem.W.OpenLaw.row PySem.Challenge.rw_assentwhole_k03_whole_least_common_count) (q := PySem.W.view (PySem.W.OpenLaw.row PySem.Challenge.rw_assentwhole_k03_whole_least_common_count).prog [50]) (H := hk) (ob := ob) (M := 6000) (loose := loose) (d := HandSHeadRun.topDef (PySem.W.OpenLaw.row PySem.Challenge.rw_assentwhole_k03_whole_least_common_count).prog 50) (kwd := []) ob_eq
    (by kernel_rfl) (fun s => by kernel_rfl) run (by kernel_rfl) (by kernel_rfl) (by kernel_rfl) (by rfl) (by first | assumption | decide +kernel) (by decide +kernel) ⟨rfl, rfl, rfl, rfl, rfl, by decide +kernel⟩ ?hw ?hc
  case hw => w_witness2
  case hc => exact walk_mi (l := PySem.Challenge.rw_assentwhole_k03_whole_least_common_count) (h := hd) (fn := fn) (m := 6) (N0 := 100) (i := 38) (e := eLaw) (y := "script") rfl (by kernel_rfl) (by kernel_rfl) ⟨rfl, by decide, by decide⟩ chk rfl rfl rfl math
theorem hasP : Has hd.pr := by
  constructor <;> kernel_rfl
theorem hasL : HasL hd.pr := by
  constructor
  · exact hasP
  all_goals kernel_rfl
theorem mathL : ∀ ns : List Int, ns.length ≤ 63 → ∃ fu n S', n ≤ 100 ∧ callN hd.pr fu (n + 1) "law" [scr ns] [] = .ok (.bl true) S' := fun ns hn => by
  obtain ⟨S', h⟩ := law_ok hasL (fu := 0) (n := 0) hn
  exact ⟨0, 7, S', by decide, h⟩
end K03
theorem PySem.Challenge.cw_assentwhole_k03_whole_least_common_count_holds : PySem.Challenge.rw_assentwhole_k03_whole_least_common_count.Holds := by
  exact K03.holds K03.mathL
