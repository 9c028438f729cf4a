import PyProof.Rows.All
import Wide.All
import OpenK.AllK
import Wide.FinOn
import HandS.ForMost
import HandS.ForExc
import HandS.CallSlots
import HandS.TryMany
import HandS.Defaults
import HandS.HeadHook3
import HandS.TupAny
import HandS.TupMul
import PyProof.StrOps2
import HandS.Rev
import HandS.IsInst
import HandS.SetFor
import HandS.Property
import HandS.Text
import HandS.HeadHook4
import HandS.HeadEnd
import PySem.Challenge.RW_mobileair_k81_air
import HandS.Head0
import HandS.Head1
import HandS.Head2
import KE.KStateDown

section
/-! M: a small language for what the program's defs do, and its evaluator over a logical heap. Core Lean only. -/
set_option linter.all false
namespace M

abbrev Sg := List Nat

/-- values: tuples by value, objects by their logical address -/
inductive Val where
  | non | bl (b : Bool) | int (i : Int) | str (s : Sg) | ref (a : Nat) | tup (vs : List Val)
  /-- an object of the module: a table, a list -/
  | glb (n : Nat)
  deriving Inhabited, Repr

mutual
def Val.beq : Val → Val → Bool
  | .non, .non => true
  | .bl a, .bl b => a == b
  | .int a, .int b => decide (a = b)
  | .str a, .str b => decide (a = b)
  | .ref a, .ref b => decide (a = b)
  | .tup a, .tup b => Val.beqs a b
  | .glb a, .glb b => decide (a = b)
  | _, _ => false
def Val.beqs : List Val → List Val → Bool
  | [], [] => true
  | a :: as, b :: bs => Val.beq a b && Val.beqs as bs
  | _, _ => false
end

/-- a key's atom; a key of a dict is an atom or a tuple of atoms -/
inductive K where
  | i (n : Int) | s (x : Sg)
  deriving DecidableEq, Repr, Inhabited

inductive Obj where
  | lst (vs : List Val)
  | dct (kvs : List (K × Val))
  | dcT (kvs : List (List K × Val))
  | ins (c : Nat) (fs : List (Nat × Val))
  deriving Inhabited, Repr

/-- the module's tables -/
def tMOVED : List (K × Val) := [(.s [64], .int 0), (.s [36], .int 2), (.s [95], .int 17)]
def tEXTENDED : List (K × Val) := [(.s [94], .int 20), (.s [123], .int 40), (.s [125], .int 41), (.s [92], .int 47), (.s [91], .int 60), (.s [126], .int 61), (.s [93], .int 62), (.s [124], .int 64)]
def tPLAIN : List (K × Val) := [(.s [115, 101, 114, 118, 105, 99, 101, 32, 97, 99, 99, 101, 112, 116], .tup [.int 5, .int 33]), (.s [114, 101, 108, 101, 97, 115, 101], .tup [.int 6, .int 13]), (.s [104, 97, 110, 100, 111, 118, 101, 114, 32, 100, 111, 110, 101], .tup [.int 6, .int 44]), (.s [112, 114, 111, 99, 101, 101, 100, 105, 110, 103], .tup [.int 3, .int 2]), (.s [97, 108, 101, 114, 116, 105, 110, 103], .tup [.int 3, .int 1]), (.s [99, 111, 110, 110, 101, 99, 116], .tup [.int 3, .int 7]), (.s [99, 111, 110, 110, 101, 99, 116, 32, 100, 111, 110, 101], .tup [.int 3, .int 15]), (.s [115, 116, 111, 114, 101, 100], .tup [.int 9, .int 4]), (.s [114, 101, 102, 117, 115, 101, 100], .tup [.int 9, .int 16]), (.s [116, 97, 107, 101, 110], .tup [.int 9, .int 5])]
def tPURPOSES : List (K × Val) := [(.s [99, 97, 108, 108], .int 1), (.s [116, 101, 120, 116, 115], .int 4)]
def tNEXT : List (List K × Val) := [([.s [115, 116, 97, 114, 116, 105, 110, 103], .s [112, 114, 111, 99, 101, 101, 100, 105, 110, 103]], .str [108, 111, 111, 107, 105, 110, 103]), ([.s [108, 111, 111, 107, 105, 110, 103], .s [97, 108, 101, 114, 116, 105, 110, 103]], .str [97, 108, 101, 114, 116, 105, 110, 103]), ([.s [108, 111, 111, 107, 105, 110, 103], .s [99, 111, 110, 110, 101, 99, 116]], .str [97, 99, 116, 105, 118, 101]), ([.s [97, 108, 101, 114, 116, 105, 110, 103], .s [99, 111, 110, 110, 101, 99, 116]], .str [97, 99, 116, 105, 118, 101]), ([.s [105, 100, 108, 101], .s [115, 101, 116, 117, 112]], .str [114, 105, 110, 103, 105, 110, 103])]
def glbObj : Nat → Option Obj
  | 0 => some (.dct tMOVED)
  | 1 => some (.dct tEXTENDED)
  | 2 => some (.dct tPLAIN)
  | 3 => some (.dct tPURPOSES)
  | 4 => some (.dcT tNEXT)
  | 5 => some (.lst [.int 0, .int 0, .int 0, .int 0])
  | _ => none

/-- the objects; the script (which stands at .glb 6) -/
structure Heap where
  objs : Array Obj
  scr : List Val
  deriving Inhabited

def Heap.get (h : Heap) (a : Nat) : Option Obj := h.objs[a]?
def Heap.set (h : Heap) (a : Nat) (o : Obj) : Heap := ⟨h.objs.setIfInBounds a o, h.scr⟩
def Heap.push (h : Heap) (o : Obj) : Heap := ⟨h.objs.push o, h.scr⟩
def Heap.size (h : Heap) : Nat := h.objs.size

theorem Heap.get_lt {h : Heap} {a : Nat} {o : Obj} (e : h.get a = some o) : a < h.size := by
  unfold Heap.get at e
  exact (Array.getElem?_eq_some_iff.mp e).1
theorem Heap.get_push (h : Heap) (o : Obj) (a : Nat) : (h.push o).get a = if a = h.size then some o else h.get a := by
  unfold Heap.push Heap.get Heap.size
  simp only
  rw [Array.getElem?_push]
theorem Heap.get_set (h : Heap) (a b : Nat) (o : Obj) (ha : a < h.size) : (h.set a o).get b = if b = a then some o else h.get b := by
  unfold Heap.set Heap.get
  simp only [Array.getElem?_setIfInBounds]
  unfold Heap.size at ha
  by_cases e : a = b
  · subst e; simp [ha]
  · rw [if_neg e, if_neg (Ne.symm e)]
theorem Heap.size_push (h : Heap) (o : Obj) : (h.push o).size = h.size + 1 := by unfold Heap.push Heap.size; simp
theorem Heap.size_set (h : Heap) (a : Nat) (o : Obj) : (h.set a o).size = h.size := by unfold Heap.set Heap.size; simp
theorem Heap.get_ge {h : Heap} {a : Nat} (e : h.size ≤ a) : h.get a = none := by
  unfold Heap.get
  exact Array.getElem?_eq_none_iff.mpr e

/-- a result: a value, an exception (its class, its fields), or nothing that this evaluator speaks of -/
inductive R (α : Type) where
  | ok (v : α) (h : Heap)
  | exc (c : Nat) (vs : List Val) (h : Heap)
  | bad

@[inline] def R.bind {α β : Type} (r : R α) (f : α → Heap → R β) : R β := match r with
  | .ok v h => f v h
  | .exc c vs h => .exc c vs h
  | .bad => .bad

/-! ### operations on values -/
inductive Op where
  | add | sub | mul | fdiv | mod | pow | shr | band | bxor
  deriving DecidableEq, Repr, Inhabited
inductive Cm where
  | eq | ne | lt | le | gt | ge | isin | notin
  deriving DecidableEq, Repr, Inhabited

/-- the bounds of the machine: the longest sequence, the greatest factor -/
abbrev sizeLine : Nat := 16777216

def lstOf (h : Heap) : Val → Option (List Val)
  | .ref a => match h.get a with
    | some (.lst vs) => some vs
    | _ => none
  | .glb n => if n = 6 then some h.scr else none
  | _ => none

def rep (n : Nat) (xs : List Val) : List Val := match n with
  | 0 => []
  | n + 1 => xs ++ rep n xs
def repS (n : Nat) (xs : Sg) : Sg := match n with
  | 0 => []
  | n + 1 => xs ++ repS n xs

def in62 (i : Int) : Bool := decide (-(2 ^ 62) ≤ i) && decide (i < 2 ^ 62)
def small64 (i : Int) : Bool := decide (-(2 ^ 64) < i) && decide (i < 2 ^ 64)

/-- bitwise operations of numbers that are not negative -/
def natXor (a b : Int) : Int := ((a.toNat ^^^ b.toNat : Nat) : Int)
def natAnd (a b : Int) : Int := ((a.toNat &&& b.toNat : Nat) : Int)

def binI (op : Op) (i j : Int) : Option Int := match op with
  | .add => some (i + j)
  | .sub => some (i - j)
  | .mul => if small64 i || small64 j then some (i * j) else none
  | .fdiv => if 0 < j ∧ j < 1073741824 then some (i / j) else none
  | .mod => if 0 < j then some (i % j) else none
  | .pow => if 0 ≤ j ∧ j ≤ 1000000 ∧ i.natAbs < 2 ^ 64 then some (i ^ j.toNat) else none
  | .shr => if 0 ≤ j then some (i / 2 ^ j.toNat) else none
  | .band => if 0 ≤ i ∧ 0 ≤ j then some (natAnd i j) else none
  | .bxor => if 0 ≤ i ∧ 0 ≤ j then some (natXor i j) else none

def binV (op : Op) (x y : Val) (h : Heap) : R Val := match x, y with
  | .int i, .int j => match binI op i j with
    | some k => .ok (.int k) h
    | none => .bad
  | .str a, .str b => match op with
    | .add => if a.length + b.length ≤ sizeLine then .ok (.str (a ++ b)) h else .bad
    | _ => .bad
  | .str a, .int n => match op with
    | .mul => if a.length * n.toNat ≤ sizeLine ∧ in62 n = true then .ok (.str (repS n.toNat a)) h else .bad
    | _ => .bad
  | .tup a, .tup b => match op with
    | .add => if a.length + b.length ≤ sizeLine then .ok (.tup (a ++ b)) h else .bad
    | _ => .bad
  | .tup a, .int n => match op with
    | .mul => if 2 ≤ n ∧ n ≤ 1000 ∧ a ≠ [] ∧ a.length ≤ 1000 then .ok (.tup (rep n.toNat a)) h else .bad
    | _ => .bad
  | .ref a, .ref b => match op, lstOf h (.ref a), lstOf h (.ref b) with
    | .add, some xs, some ys => if xs.length + ys.length ≤ sizeLine then .ok (.ref h.size) (h.push (.lst (xs ++ ys))) else .bad
    | _, _, _ => .bad
  | .ref a, .int n => match op, lstOf h (.ref a) with
    | .mul, some xs => if xs.length * n.toNat ≤ sizeLine ∧ in62 n = true then .ok (.ref h.size) (h.push (.lst (rep n.toNat xs))) else .bad
    | _, _ => .bad
  | _, _ => .bad

/-- data -/
inductive D where
  | non | bl (b : Bool) | int (i : Int) | str (s : Sg) | lst (ds : List D) | tup (ds : List D)
def toDs (f : Val → Option D) : List Val → Option (List D)
  | [] => some []
  | v :: vs => match f v, toDs f vs with
    | some d, some ds => some (d :: ds)
    | _, _ => none
def strOkB (s : Sg) : Bool := decide (s.length ≤ sizeLine) && s.all fun c => decide (c < 55296)
/-- a value as data, to a depth -/
def toD (h : Heap) : Nat → Val → Option D
  | 0, _ => none
  | n + 1, v => match v with
    | .non => some .non
    | .bl b => some (.bl b)
    | .int i => some (.int i)
    | .str s => if strOkB s then some (.str s) else none
    | .tup vs => (toDs (toD h n) vs).map D.tup
    | .ref a => match lstOf h (.ref a) with
      | some vs => (toDs (toD h n) vs).map D.lst
      | none => none
    | .glb _ => none
mutual
def D.eqv : D → D → Bool
  | .non, .non => true
  | .bl a, .bl b => a == b
  | .bl a, .int j => (if a then 1 else 0) == j
  | .int i, .bl b => i == (if b then 1 else 0)
  | .int i, .int j => i == j
  | .str x, .str y => decide (x = y)
  | .lst xs, .lst ys => D.eqvs xs ys
  | .tup xs, .tup ys => D.eqvs xs ys
  | _, _ => false
def D.eqvs : List D → List D → Bool
  | [], [] => true
  | x :: xs, y :: ys => D.eqv x y && D.eqvs xs ys
  | _, _ => false
end
/-- flat things of kinds that == tells apart -/
def scal : Val → Val → Bool
  | .non, .non => true | .non, .int _ => true | .int _, .non => true | .non, .str _ => true | .str _, .non => true
  | .non, .bl _ => true | .bl _, .non => true
  | .int _, .int _ => true | .bl _, .bl _ => true | .str _, .str _ => true
  | .int _, .str _ => true | .str _, .int _ => true
  | _, _ => false
/-- == of data: none: not told -/
def eqV (h : Heap) (n : Nat) (x y : Val) : Option Bool :=
  if scal x y then some (Val.beq x y) else match toD h n x, toD h n y with
    | some a, some b => some (D.eqv a b)
    | _, _ => none

/-- the depth to which data is compared -/
abbrev eqDepth : Nat := 8

/-- < of rows of ints -/
def lexLt : List Int → List Int → Bool
  | [], [] => false
  | [], _ :: _ => true
  | _ :: _, [] => false
  | x :: xs, y :: ys => if x = y then lexLt xs ys else decide (x < y)
def intsOf : List Val → Option (List Int)
  | [] => some []
  | .int i :: r => (intsOf r).map (i :: ·)
  | _ :: _ => none
def ltInts (a b : List Val) : Option Bool := match intsOf a, intsOf b with
  | some ns, some ms => some (lexLt ns ms)
  | _, _ => none

def atomOf : Val → Option K
  | .int i => some (.i i)
  | .str s => some (.s s)
  | _ => none
def atomsOf : List Val → Option (List K)
  | [] => some []
  | v :: vs => match atomOf v, atomsOf vs with
    | some k, some ks => some (k :: ks)
    | _, _ => none
def valK : K → Val
  | .i n => .int n
  | .s x => .str x

/-- the module's own tuples -/
def statL : List (List Val) := [[.int 5, .int 0, .int 3], List.replicate 23 (.int 43), [.str [97, 108, 119, 97, 121, 115], .str [98, 117, 115, 121], .str [117, 110, 97, 110, 115, 119, 101, 114, 101, 100], .str [117, 110, 114, 101, 97, 99, 104, 97, 98, 108, 101]],
  [.int 5, .int 33], [.int 6, .int 13], [.int 6, .int 44], [.int 3, .int 2], [.int 3, .int 1], [.int 3, .int 7], [.int 3, .int 15], [.int 9, .int 4], [.int 9, .int 16], [.int 9, .int 5],
  [1, 0, 0, 0, 0, 0, 0, 0, 0, 0, 0, 0, 0, 0, 1, 0, 0, 1, 0, 0, 0, 0, 0, 1, 0, 0, 0, 0, 0, 0, 0, 0, 0, 0, 0, 0, 0, 1, 0, 0, 1].map Val.int, [1, 0, 1, 0, 1, 1, 1, 0, 1, 0, 1].map Val.int, [1, 1, 0, 1, 1, 1, 1].map Val.int, [1, 0, 1, 1].map Val.int]
def isStat (vs : List Val) : Bool := statL.any fun x => Val.beqs x vs
def lookK {κ : Type} [DecidableEq κ] (k : κ) : List (κ × Val) → Option Val
  | [] => none
  | (k', v) :: r => if k = k' then some v else lookK k r
def putK {κ : Type} [DecidableEq κ] (k : κ) (v : Val) (kvs : List (κ × Val)) : List (κ × Val) :=
  if kvs.any fun p => decide (p.1 = k) then kvs.map fun p => if p.1 = k then (p.1, v) else p else kvs ++ [(k, v)]

/-- what a dict holds at a key: none: not told; some none: the key is not there -/
def dGet (o : Obj) (k : Val) : Option (Option Val) := match o with
  | .dct kvs => (atomOf k).map fun a => lookK a kvs
  | .dcT kvs => match k with
    | .tup vs => if isStat vs then none else (atomsOf vs).map fun a => lookK a kvs
    | _ => none
  | _ => none
def dPut (o : Obj) (k v : Val) : Option Obj := match o with
  | .dct kvs => if kvs.length < sizeLine then (atomOf k).map fun a => .dct (putK a v kvs) else none
  | .dcT kvs => match k with
    | .tup vs => if isStat vs = false ∧ kvs.length < sizeLine then (atomsOf vs).map fun a => .dcT (putK a v kvs) else none
    | _ => none
  | _ => none

/-- items compared by in: flat things alone -/
def flat : Val → Bool
  | .non => true | .bl _ => true | .int _ => true | .str _ => true
  | _ => false
def memV (x : Val) : List Val → Option Bool
  | [] => some false
  | y :: ys => if scal x y then (if Val.beq x y then some true else memV x ys) else none
/-- a sign in a text -/
def isinV (h : Heap) (x c : Val) : Option Bool := match c with
  | .tup vs => if flat x && vs.all flat then memV x vs else none
  | .str s => match x with
    | .str [k] => some (s.contains k)
    | _ => none
  | .ref a => match h.get a with
    | some (.lst vs) => if flat x && vs.all flat then memV x vs else none
    | some o => (dGet o x).map (·.isSome)
    | none => none
  | .glb n => (glbObj n).bind fun o => (dGet o x).map (·.isSome)
  | _ => none

def cmpV (c : Cm) (x y : Val) (h : Heap) : Option Bool := match c with
  | .eq => eqV h eqDepth x y
  | .ne => (eqV h eqDepth x y).map (!·)
  | .isin => isinV h x y
  | .notin => (isinV h x y).map (!·)
  | .lt => match x, y with
    | .int i, .int j => some (decide (i < j))
    | .tup a, .tup b => ltInts a b
    | _, _ => none
  | .le => match x, y with
    | .int i, .int j => some (decide (i ≤ j))
    | _, _ => none
  | .gt => match x, y with
    | .int i, .int j => some (decide (j < i))
    | _, _ => none
  | .ge => match x, y with
    | .int i, .int j => some (decide (j ≤ i))
    | _, _ => none

/-- an index of any sign -/
def ixN (n : Nat) (i : Int) : Option Nat :=
  if 0 ≤ i then (if i < n then some i.toNat else none) else (if 0 ≤ i + n then some (i + n).toNat else none)
def ixV (h : Heap) (o i : Val) : Option Val := match o with
  | .tup vs => match i with
    | .int i => (ixN vs.length i).bind fun k => vs[k]?
    | _ => none
  | .str s => match i with
    | .int i => if s.length ≤ sizeLine then (ixN s.length i).bind fun k => (s[k]?).map fun c => .str [c] else none
    | _ => none
  | .ref a => match h.get a with
    | some (.lst vs) => match i with
      | .int i => (ixN vs.length i).bind fun k => vs[k]?
      | _ => none
    | some o => (dGet o i).bind id
    | none => none
  | .glb n => if n = 6 then (match i with
      | .int i => (ixN h.scr.length i).bind fun k => h.scr[k]?
      | _ => none) else (glbObj n).bind fun o => (dGet o i).bind id
  | _ => none

/-- a bound of a slice, clipped -/
def clip (n : Nat) (dflt : Nat) : Option Int → Nat
  | none => dflt
  | some i => if i < 0 then (i + n).toNat else min i.toNat n
def cutL {α : Type} (xs : List α) (lo hi : Option Int) : List α := (xs.drop (clip xs.length 0 lo)).take (clip xs.length xs.length hi - clip xs.length 0 lo)
def slV (h : Heap) (o : Val) (a b : Option Int) : R Val := match o with
  | .tup vs => .ok (.tup (cutL vs a b)) h
  | .str s => if s.length ≤ sizeLine then .ok (.str (cutL s a b)) h else .bad
  | o => match lstOf h o with
    | some vs => .ok (.ref h.size) (h.push (.lst (cutL vs a b)))
    | none => .bad

def setV (h : Heap) (o i v : Val) : Option Heap := match o with
  | .ref a => match h.get a with
    | some (.lst vs) => match i with
      | .int i => (ixN vs.length i).map fun k => h.set a (.lst (vs.set k v))
      | _ => none
    | some o => (dPut o i v).map fun o' => h.set a o'
    | none => none
  | _ => none

/-! ### texts of numbers -/
def digitsR : Nat → Nat → Sg
  | 0, _ => []
  | f + 1, n => if n < 10 then [48 + n] else digitsR f (n / 10) ++ [48 + n % 10]
def strInt (i : Int) : Sg := (Nat.toDigits 10 i.toNat).map Char.toNat
def isDig (c : Nat) : Bool := decide (48 ≤ c) && decide (c ≤ 57)
def digVal : Sg → Int → Int
  | [], n => n
  | c :: r, n => digVal r (10 * n + ((c : Int) - 48))
def intText (s : Sg) : Option Int := if s.isEmpty || !(s.all isDig) || decide (640 < s.length) then none else some (digVal s 0)

/-- the stable order by a number -/
def insBy (f : Val → Int) (x : Val) : List Val → List Val
  | [] => [x]
  | y :: ys => if f y ≤ f x then y :: insBy f x ys else x :: y :: ys
def sortBy (f : Val → Int) : List Val → List Val
  | [] => []
  | x :: xs => insBy' f x (sortBy f xs)
where
  insBy' (f : Val → Int) (x : Val) : List Val → List Val
    | [] => [x]
    | y :: ys => if f x ≤ f y then x :: y :: ys else y :: insBy' f x ys

/-! ### built-ins -/
inductive B where
  | len | list | tuple | int | str | max | min | ord | sortedI | sortedK (i : Nat)
  | isList | isInt | isBool | isTuple | isStr | repr | revList
  /-- methods of built-in types: the receiver is the first argument -/
  | append | extend | count | get | join
  deriving DecidableEq, Repr, Inhabited

def seqOf (h : Heap) : Val → Option (List Val)
  | .tup vs => some vs
  | o => lstOf h o
def extOf (h : Heap) : Val → Option (List Val)
  | .tup vs => some vs
  | .ref a => lstOf h (.ref a)
  | _ => none
def strsOf : List Val → Option (List Sg)
  | [] => some []
  | .str i :: r => (strsOf r).map (i :: ·)
  | _ :: _ => none
def joinS (sep : Sg) : List Sg → Sg
  | [] => []
  | [x] => x
  | x :: r => x ++ sep ++ joinS sep r

def unint : Val → Int
  | .int i => i
  | _ => 0
def keyAt (k : Nat) : Val → Option Int
  | .tup vs => match vs[k]? with
    | some (.int i) => some i
    | _ => none
  | _ => none
def keyAtD (k : Nat) (v : Val) : Int := (keyAt k v).getD 0

def dictOf (h : Heap) : Val → Option Obj
  | .ref a => h.get a
  | .glb n => glbObj n
  | _ => none
inductive Ty where
  | none | bool | int | str | list | tuple
  deriving DecidableEq
def tyOf (h : Heap) : Val → Option Ty
  | .non => some .none
  | .bl _ => some .bool
  | .int _ => some .int
  | .str _ => some .str
  | .tup _ => some .tuple
  | .ref a => match h.get a with
    | some (.lst _) => some .list
    | _ => Option.none
  | .glb n => if n = 6 then some .list else Option.none

def on1 (f : Val → Heap → R Val) (vs : List Val) (h : Heap) : R Val := match vs with
  | [x] => f x h
  | _ => .bad
def on2 (f : Val → Val → Heap → R Val) (vs : List Val) (h : Heap) : R Val := match vs with
  | [x, y] => f x y h
  | _ => .bad
def bLen (x : Val) (h : Heap) : R Val := match x with
  | .tup vs => .ok (.int vs.length) h
  | .str s => if s.length ≤ sizeLine then .ok (.int s.length) h else .bad
  | .ref a => match h.get a with
    | some (.lst vs) => .ok (.int vs.length) h
    | some (.dct kvs) => .ok (.int kvs.length) h
    | _ => .bad
  | .glb n => if n = 6 then .ok (.int h.scr.length) h else .bad
  | _ => .bad
def bList (x : Val) (h : Heap) : R Val := match seqOf h x with
  | some vs => .ok (.ref h.size) (h.push (.lst vs))
  | none => .bad
def bTuple (x : Val) (h : Heap) : R Val := match seqOf h x with
  | some vs => .ok (.tup vs) h
  | none => .bad
def bInt (x : Val) (h : Heap) : R Val := match x with
  | .int i => .ok (.int i) h
  | .bl b => .ok (.int (if b then 1 else 0)) h
  | _ => .bad
def bStr (x : Val) (h : Heap) : R Val := match x with
  | .int i => if 0 ≤ i ∧ i < 2 ^ 64 then .ok (.str (strInt i)) h else .bad
  | _ => .bad
def bMax (x y : Val) (h : Heap) : R Val := match x, y with
  | .int i, .int j => .ok (.int (if j > i then j else i)) h
  | _, _ => .bad
def bMin (x y : Val) (h : Heap) : R Val := match x, y with
  | .int i, .int j => .ok (.int (if j < i then j else i)) h
  | _, _ => .bad
def bOrd (x : Val) (h : Heap) : R Val := match x with
  | .str [c] => .ok (.int c) h
  | _ => .bad
def bSortedI (x : Val) (h : Heap) : R Val := match lstOf h x with
  | some vs => match intsOf vs with
    | some _ => if vs.length < 64 then .ok (.ref h.size) (h.push (.lst (sortBy unint vs))) else .bad
    | none => .bad
  | none => .bad
def bSortedK (k : Nat) (x : Val) (h : Heap) : R Val := match lstOf h x with
  | some vs => if vs.length < 64 ∧ vs.all (fun v => (keyAt k v).isSome) then .ok (.ref h.size) (h.push (.lst (sortBy (keyAtD k) vs))) else .bad
  | none => .bad
def bRevList (x : Val) (h : Heap) : R Val := match lstOf h x with
  | some vs => .ok (.ref h.size) (h.push (.lst vs.reverse))
  | none => .bad
def bIs (ts : List Ty) (x : Val) (h : Heap) : R Val := match tyOf h x with
  | some t => .ok (.bl (decide (t ∈ ts))) h
  | none => .bad
def bAppend (x y : Val) (h : Heap) : R Val := match x with
  | .ref a => match h.get a with
    | some (.lst vs) => if vs.length < sizeLine then .ok .non (h.set a (.lst (vs ++ [y]))) else .bad
    | _ => .bad
  | _ => .bad
def bExtend (x y : Val) (h : Heap) : R Val := match x with
  | .ref a => match h.get a with
    | some (.lst vs) => match extOf h y with
      | some ws => if vs.length + ws.length ≤ sizeLine ∧ ¬ (Val.beq x y = true) then .ok .non (h.set a (.lst (vs ++ ws))) else .bad
      | none => .bad
    | _ => .bad
  | _ => .bad
def bCount (x y : Val) (h : Heap) : R Val := match lstOf h x with
  | some vs => match y with
    | .int n => match intsOf vs with
      | some ns => .ok (.int (ns.count n)) h
      | none => .bad
    | _ => .bad
  | none => .bad
def bGet (d k y : Val) (h : Heap) : R Val := match (dictOf h d).bind (dGet · k) with
  | some (some v) => .ok v h
  | some none => .ok y h
  | none => .bad
def bJoin (s x : Val) (h : Heap) : R Val := match s with
  | .str sep => match lstOf h x with
    | some vs => match strsOf vs with
      | some ss => if (joinS sep ss).length ≤ sizeLine then .ok (.str (joinS sep ss)) h else .bad
      | none => .bad
    | none => .bad
  | _ => .bad
def blt (b : B) (vs : List Val) (h : Heap) : R Val := match b with
  | .len => on1 bLen vs h
  | .list => on1 bList vs h
  | .tuple => on1 bTuple vs h
  | .int => on1 bInt vs h
  | .str => on1 bStr vs h
  | .max => on2 bMax vs h
  | .min => on2 bMin vs h
  | .ord => on1 bOrd vs h
  | .sortedI => on1 bSortedI vs h
  | .sortedK k => on1 (bSortedK k) vs h
  | .revList => on1 bRevList vs h
  | .isList => on1 (bIs [.list]) vs h
  | .isInt => on1 (bIs [.int, .bool]) vs h
  | .isBool => on1 (bIs [.bool]) vs h
  | .isTuple => on1 (bIs [.tuple]) vs h
  | .isStr => on1 (bIs [.str]) vs h
  | .repr => .bad
  | .append => on2 bAppend vs h
  | .extend => on2 bExtend vs h
  | .count => on2 bCount vs h
  | .get => match vs with
    | [d, k] => bGet d k .non h
    | [d, k, y] => bGet d k y h
    | _ => .bad
  | .join => on2 bJoin vs h

/-! ### the language -/
mutual
inductive E where
  | loc (i : Nat)
  | cint (i : Int) | cstr (s : Sg) | cbl (b : Bool) | cnon
  /-- a module's constant -/
  | cval (v : Val)
  | bin (op : Op) (a b : E)
  | neg (a : E)
  | nt (a : E)
  | cmp (c : Cm) (a b : E)
  | chain (c d : Cm) (x y z : E)
  /-- is None, is not None; is True ..: the constant -/
  | is_ (a : E) (c : Val) (yes : Bool)
  | and_ (a b : E) | or_ (a b : E)
  | ife (c a b : E)
  | fld (o : E) (f : Nat)
  | ix (o i : E)
  | sl (o : E) (a b : Option_E)
  | tup (es : Es) | lst (es : Es)
  | dnew (t : Bool)
  | call (f : Nat) (args : Es) (dvs : List Val)
  | mk (c : Nat) (args : Es)
  | meth (o : E) (m : Nat) (args : Es)
  /-- a method with keyword-only parameters, given (or none) behind the positional ones -/
  | methK (o : E) (m : Nat) (args : Es) (kws : Es) (dvs : List Val)
  | blt (b : B) (args : Es)
  /-- a method of a built-in type -/
  | bm (b : B) (o : E) (args : Es)
  | comp (elt : E) (tg : Tg) (it : It) (cond : Option_E)
  | comp2 (elt : E) (t1 : Tg) (i1 : It) (t2 : Tg) (i2 : It)
  | dcomp (k v : E) (tg : Tg) (it : It) (cond : Option_E)
inductive Option_E where
  | no | yes (e : E)
inductive Es where
  | nil | cons (e : E) (es : Es)
inductive It where
  /-- a list, a tuple, a text -/
  | over (e : E)
  | range1 (a : E) | range2 (a b : E) | range3 (a b c : E)
  | enum (e : E)
  | rev (e : E)
inductive Tg where
  | one (i : Nat) | many (is : List Nat)
end

/-- an except suite's expressions: the caught error's field, constants -/
inductive HE where
  | fld (f : Nat) | cst (v : Val) | tup2 (a b : HE) | eqc (f : Nat) (v : Val)
inductive Hd where
  | ret (e : HE) | set (i : Nat) (e : HE)

mutual
inductive St where
  | ex (e : E)
  | set (tg : Tg) (e : E)
  | setf (o : E) (f : Nat) (e : E)
  | seti (o i e : E)
  /-- a, .., o.f = a tuple -/
  | setTF (is : List Nat) (o : E) (f : Nat) (e : E)
  | ret (e : E)
  | retn
  | if_ (c : E) (a b : Bk)
  | for_ (tg : Tg) (it : It) (b : Bk)
  | while_ (c : E) (b : Bk)
  | raise (c : Nat) (args : Es)
  /-- handlers: (class, suite) in order -/
  | try_ (b : Bk) (hs : List (Nat × Hd))
  | mat (e : E) (cs : Cs)
  | pass | brk | cnt
inductive Bk where
  | nil | cons (s : St) (b : Bk)
/-- the cases of a match: a text ahead, then names -/
inductive Cs where
  | nil | cons (x : Sg) (is : List Nat) (b : Bk) (cs : Cs)
end

structure Fn where
  np : Nat
  slots : Nat
  body : Bk

/-- what the program's names stand for -/
structure Tab where
  fn : Nat → Option Fn
  /-- a class's method, its __init__, a property's getter -/
  meth : Nat → Nat → Option Nat
  init : Nat → Option Nat
  prop : Nat → Nat → Option Nat
  /-- an exception class: how many fields; is it caught by another one -/
  exf : Nat → Option (List Nat)
  sub : Nat → Nat → Bool
  /-- a class's fields -/
  fld : Nat → Nat → Bool

abbrev Slots := List (Option Val)

def lookF (f : Nat) : List (Nat × Val) → Option Val
  | [] => none
  | (g, v) :: r => if f = g then some v else lookF f r
def putF (f : Nat) (v : Val) : List (Nat × Val) → List (Nat × Val)
  | [] => [(f, v)]
  | (g, w) :: r => if f = g then (g, v) :: r else (g, w) :: putF f v r

/-- what is walked: the list that must stand as it is, the items -/
structure Src where
  own : Option (Nat × List Val)
  items : List Val

def rangeL (lo : Int) (step : Int) : Nat → List Val
  | 0 => []
  | n + 1 => .int lo :: rangeL (lo + step) step n
def rangeN (a b c : Int) : Nat := if 0 < c then (if a < b then ((b - a + c - 1) / c).toNat else 0) else (if b < a then ((a - b + (-c) - 1) / (-c)).toNat else 0)
def enumL (k : Int) : List Val → List Val
  | [] => []
  | v :: vs => .tup [.int k, v] :: enumL (k + 1) vs

def setSlots : List Nat → List Val → Slots → Option Slots
  | [], [], σ => some σ
  | i :: is, v :: vs, σ => setSlots is vs (σ.set i (some v))
  | _, _, _ => none
def assignT (tg : Tg) (v : Val) (σ : Slots) : Option Slots := match tg with
  | .one i => some (σ.set i (some v))
  | .many is => match v with
    | .tup vs => setSlots is vs σ
    | _ => none
def wipeT (tg : Tg) (σ : Slots) : Slots := match tg with
  | .one i => σ.set i none
  | .many is => is.foldr (fun i σ => σ.set i none) σ

/-- a walked list stands as it was -/
def stands (h : Heap) (src : Src) : Bool := match src.own with
  | none => true
  | some (a, vs) => match h.get a with
    | some (.lst ws) => Val.beqs ws vs
    | _ => false

/-- a comprehension's walk: what is made so far -/
def compL (src : Src) (tg : Tg) (σ : Slots) (cond : Slots → Heap → R Bool) (elt : Slots → Heap → R Val) : List Val → List Val → Heap → R (List Val)
  | [], acc, h => if stands h src then .ok acc h else .bad
  | v :: vs, acc, h => if stands h src then match assignT tg v σ with
      | some σ1 => match cond σ1 h with
        | .ok true h1 => match elt σ1 h1 with
          | .ok y h2 => compL src tg σ cond elt vs (acc ++ [y]) h2
          | _ => .bad
        | .ok false h1 => compL src tg σ cond elt vs acc h1
        | _ => .bad
      | none => .bad
    else .bad

/-- a comprehension of two walks, the second one over what the first one's names tell -/
def compL2 (src : Src) (tg : Tg) (σ : Slots) (inner : Slots → Heap → R (List Val)) : List Val → List Val → Heap → R (List Val)
  | [], acc, h => if stands h src then .ok acc h else .bad
  | v :: vs, acc, h => if stands h src then match assignT tg v σ with
      | some σ1 => match inner σ1 h with
        | .ok ys h2 => compL2 src tg σ inner vs (acc ++ ys) h2
        | _ => .bad
      | none => .bad
    else .bad
/-- a dict comprehension's walk -/
def dcompL (src : Src) (tg : Tg) (σ : Slots) (cond : Slots → Heap → R Bool) (key val : Slots → Heap → R Val) : List Val → List (K × Val) → Heap → R (List (K × Val))
  | [], acc, h => if stands h src then .ok acc h else .bad
  | v :: vs, acc, h => if stands h src then match assignT tg v σ with
      | some σ1 => match cond σ1 h with
        | .ok true h1 => match key σ1 h1 with
          | .ok k h2 => match val σ1 h2 with
            | .ok y h3 => match atomOf k with
              | some a => dcompL src tg σ cond key val vs (putK a y acc) h3
              | none => .bad
            | _ => .bad
          | _ => .bad
        | .ok false h1 => dcompL src tg σ cond key val vs acc h1
        | _ => .bad
      | none => .bad
    else .bad

/-- what a method of a built-in type is asked of -/
def recv (b : B) (x : Val) (h : Heap) : Bool := match b with
  | .append => match x with
    | .ref a => match h.get a with
      | some (.lst _) => true
      | _ => false
    | _ => false
  | .extend => match x with
    | .ref a => match h.get a with
      | some (.lst _) => true
      | _ => false
    | _ => false
  | .count => (lstOf h x).isSome
  | .get => match dictOf h x with
    | some (.dct _) => true
    | some (.dcT _) => true
    | _ => false
  | .join => match x with
    | .str _ => true
    | _ => false
  | _ => false

def asBool : R Val → R Bool
  | .ok (.bl b) h => .ok b h
  | .ok _ _ => .bad
  | .exc c vs h => .exc c vs h
  | .bad => .bad

section
variable (T : Tab) (call : Nat → List Val → Heap → R Val)

/-- C(..): a new instance, then __init__ -/
def make (c : Nat) (vs : List Val) (h : Heap) : R Val := match T.init c with
  | some f => match call f (.ref h.size :: vs) (h.push (.ins c [])) with
    | .ok .non h1 => .ok (.ref h.size) h1
    | .ok _ _ => .bad
    | .exc c vs h1 => .exc c vs h1
    | .bad => .bad
  | none => .bad
/-- the method m of the instance o: the def -/
def methOf (o : Val) (m : Nat) (h : Heap) : Option Nat := match o with
  | .ref a => match h.get a with
    | some (.ins c fs) => match lookF m fs with
      | none => T.meth c m
      | some _ => none
    | _ => none
  | _ => none
def getF (o : Val) (f : Nat) (h : Heap) : R Val := match o with
  | .ref a => match h.get a with
    | some (.ins c fs) => match lookF f fs with
      | some v => .ok v h
      | none => match T.prop c f with
        | some g => match call g [.ref a] h with
          | .ok v h1 => .ok v h1
          | _ => .bad
        | none => .bad
    | _ => .bad
  | _ => .bad
def setF (o : Val) (f : Nat) (v : Val) (h : Heap) : Option Heap := match o with
  | .ref a => match h.get a with
    | some (.ins c fs) => if T.fld c f = true ∧ fs.length < 1000 then some (h.set a (.ins c (putF f v fs))) else none
    | _ => none
  | _ => none

mutual
def evE : E → Slots → Heap → R Val
  | .loc i, σ, h => match σ[i]? with
    | some (some v) => .ok v h
    | _ => .bad
  | .cint i, _, h => .ok (.int i) h
  | .cstr s, _, h => .ok (.str s) h
  | .cbl b, _, h => .ok (.bl b) h
  | .cnon, _, h => .ok .non h
  | .cval v, _, h => .ok v h
  | .bin op a b, σ, h => (evE a σ h).bind fun x h1 => (evE b σ h1).bind fun y h2 => binV op x y h2
  | .neg a, σ, h => (evE a σ h).bind fun x h1 => match x with
    | .int i => .ok (.int (-i)) h1
    | _ => .bad
  | .nt a, σ, h => (evE a σ h).bind fun x h1 => match x with
    | .bl b => .ok (.bl (!b)) h1
    | _ => .bad
  | .cmp c a b, σ, h => (evE a σ h).bind fun x h1 => (evE b σ h1).bind fun y h2 => match cmpV c x y h2 with
    | some r => .ok (.bl r) h2
    | none => .bad
  | .chain c d x y z, σ, h => (evE x σ h).bind fun a h1 => (evE y σ h1).bind fun b h2 => match cmpV c a b h2 with
    | some true => (evE z σ h2).bind fun e h3 => match cmpV d b e h3 with
      | some r => .ok (.bl r) h3
      | none => .bad
    | some false => .ok (.bl false) h2
    | none => .bad
  | .is_ a c yes, σ, h => (evE a σ h).bind fun x h1 => .ok (.bl (Val.beq x c == yes)) h1
  | .and_ a b, σ, h => (evE a σ h).bind fun x h1 => match x with
    | .bl true => evE b σ h1
    | .bl false => .ok (.bl false) h1
    | _ => .bad
  | .or_ a b, σ, h => (evE a σ h).bind fun x h1 => match x with
    | .bl true => .ok (.bl true) h1
    | .bl false => evE b σ h1
    | _ => .bad
  | .ife c a b, σ, h => (evE c σ h).bind fun x h1 => match x with
    | .bl true => evE a σ h1
    | .bl false => evE b σ h1
    | _ => .bad
  | .fld o f, σ, h => (evE o σ h).bind fun x h1 => getF T call x f h1
  | .ix o i, σ, h => (evE o σ h).bind fun x h1 => (evE i σ h1).bind fun y h2 => match ixV h2 x y with
    | some v => .ok v h2
    | none => .bad
  | .sl o a b, σ, h => (evE o σ h).bind fun x h1 => (evP a σ h1).bind fun y h2 => (evP b σ h2).bind fun z h3 => slV h3 x y z
  | .tup es, σ, h => (evEs es σ h).bind fun vs h1 => if vs.length ≤ sizeLine then .ok (.tup vs) h1 else .bad
  | .lst es, σ, h => (evEs es σ h).bind fun vs h1 => if vs.length ≤ sizeLine then .ok (.ref h1.size) (h1.push (.lst vs)) else .bad
  | .dnew t, _, h => .ok (.ref h.size) (h.push (if t then .dcT [] else .dct []))
  | .call f es dvs, σ, h => (evEs es σ h).bind fun vs h1 => call f (vs ++ dvs) h1
  | .mk c es, σ, h => (evEs es σ h).bind fun vs h1 => make T call c vs h1
  | .meth o m es, σ, h => (evE o σ h).bind fun x h1 => match methOf T x m h1 with
    | some f => (evEs es σ h1).bind fun vs h2 => call f (x :: vs) h2
    | none => .bad
  | .methK o m es ks dvs, σ, h => (evE o σ h).bind fun x h1 => match methOf T x m h1 with
    | some f => (evEs es σ h1).bind fun vs h2 => (evEs ks σ h2).bind fun ws h3 => call f (x :: (vs ++ (ws ++ dvs))) h3
    | none => .bad
  | .blt b es, σ, h => (evEs es σ h).bind fun vs h1 => blt b vs h1
  | .bm b o es, σ, h => (evE o σ h).bind fun x h1 => if recv b x h1 then (evEs es σ h1).bind fun vs h2 => blt b (x :: vs) h2 else .bad
  | .comp elt tg it c, σ, h => (evIt it σ h).bind fun src h1 =>
    (compL src tg (wipeT tg σ) (fun σ1 h => evO c σ1 h) (fun σ1 h => evE elt σ1 h) src.items [] h1).bind fun ys h2 =>
      if ys.length ≤ sizeLine then .ok (.ref h2.size) (h2.push (.lst ys)) else .bad
  | .comp2 elt t1 i1 t2 i2, σ, h => (evIt i1 σ h).bind fun src h1 =>
    (compL2 src t1 (wipeT t2 (wipeT t1 σ)) (fun σ1 h => (evIt i2 σ1 h).bind fun src2 h2 => compL src2 t2 (wipeT t2 σ1) (fun _ h => .ok true h) (fun σ2 h => evE elt σ2 h) src2.items [] h2) src.items [] h1).bind fun ys h2 =>
      if ys.length ≤ sizeLine then .ok (.ref h2.size) (h2.push (.lst ys)) else .bad
  | .dcomp k v tg it c, σ, h => (evIt it σ h).bind fun src h1 =>
    (dcompL src tg (wipeT tg σ) (fun σ1 h => evO c σ1 h) (fun σ1 h => evE k σ1 h) (fun σ1 h => evE v σ1 h) src.items [] h1).bind fun kvs h2 =>
      if kvs.length ≤ sizeLine then .ok (.ref h2.size) (h2.push (.dct kvs)) else .bad
/-- a part of a slice -/
def evP : Option_E → Slots → Heap → R (Option Int)
  | .no, _, h => .ok none h
  | .yes e, σ, h => (evE e σ h).bind fun x h1 => match x with
    | .int i => .ok (some i) h1
    | _ => .bad
def evO : Option_E → Slots → Heap → R Bool
  | .no, _, h => .ok true h
  | .yes e, σ, h => asBool (evE e σ h)
def evEs : Es → Slots → Heap → R (List Val)
  | .nil, _, h => .ok [] h
  | .cons e es, σ, h => (evE e σ h).bind fun v h1 => (evEs es σ h1).bind fun vs h2 => .ok (v :: vs) h2
def evIt : It → Slots → Heap → R Src
  | .over e, σ, h => (evE e σ h).bind fun x h1 => match x with
    | .tup vs => .ok ⟨none, vs⟩ h1
    | .str s => .ok ⟨none, s.map fun c => .str [c]⟩ h1
    | .ref a => match h1.get a with
      | some (.lst vs) => .ok ⟨some (a, vs), vs⟩ h1
      | _ => .bad
    | .glb n => if n = 6 then .ok ⟨none, h1.scr⟩ h1 else .bad
    | _ => .bad
  | .range1 a, σ, h => (evE a σ h).bind fun x h1 => match x with
    | .int n => if in62 n then .ok ⟨none, rangeL 0 1 n.toNat⟩ h1 else .bad
    | _ => .bad
  | .range2 a b, σ, h => (evE a σ h).bind fun x h1 => (evE b σ h1).bind fun y h2 => match x, y with
    | .int i, .int j => if in62 i && in62 j then .ok ⟨none, rangeL i 1 (j - i).toNat⟩ h2 else .bad
    | _, _ => .bad
  | .range3 a b c, σ, h => (evE a σ h).bind fun x h1 => (evE b σ h1).bind fun y h2 => (evE c σ h2).bind fun z h3 => match x, y, z with
    | .int i, .int j, .int k => if in62 i && in62 j && (decide (0 < k) && decide (k < 1073741824)) then .ok ⟨none, rangeL i k (rangeN i j k)⟩ h3 else .bad
    | _, _, _ => .bad
  | .enum e, σ, h => (evE e σ h).bind fun x h1 => match x with
    | .ref a => match lstOf h1 (.ref a) with
      | some vs => .ok ⟨some (a, vs), enumL 0 vs⟩ h1
      | none => .bad
    | _ => .bad
  | .rev e, σ, h => (evE e σ h).bind fun x h1 => match x with
    | .ref a => match lstOf h1 (.ref a) with
      | some vs => .ok ⟨some (a, vs), vs.reverse⟩ h1
      | none => .bad
    | _ => .bad
end

/-- what a statement comes to -/
inductive Fl where
  | nx (σ : Slots) (h : Heap)
  | ret (v : Val) (h : Heap)
  | brk (σ : Slots) (h : Heap)
  | cnt (σ : Slots) (h : Heap)
  | exc (c : Nat) (vs : List Val) (σ : Slots) (h : Heap)
  | bad

@[inline] def R.st {α : Type} (r : R α) (σ : Slots) (f : α → Heap → Fl) : Fl := match r with
  | .ok v h => f v h
  | .exc c vs h => .exc c vs σ h
  | .bad => .bad

/-- a for: the items that are left -/
def forL (src : Src) (tg : Tg) (body : Slots → Heap → Fl) : List Val → Slots → Heap → Fl
  | [], σ, h => if stands h src then .nx σ h else .bad
  | v :: vs, σ, h => if stands h src then match assignT tg v σ with
      | some σ1 => match body σ1 h with
        | .nx σ2 h2 => forL src tg body vs σ2 h2
        | .cnt σ2 h2 => forL src tg body vs σ2 h2
        | .brk σ2 h2 => .nx σ2 h2
        | .ret w h2 => .ret w h2
        | .exc c ws σ2 h2 => .exc c ws σ2 h2
        | .bad => .bad
      | none => .bad
    else .bad
def whileL (test : Slots → Heap → R Bool) (body : Slots → Heap → Fl) : Nat → Slots → Heap → Fl
  | 0, _, _ => .bad
  | n + 1, σ, h => (test σ h).st σ fun b h1 => match b with
    | false => .nx σ h1
    | true => match body σ h1 with
      | .nx σ2 h2 => whileL test body n σ2 h2
      | .cnt σ2 h2 => whileL test body n σ2 h2
      | .brk σ2 h2 => .nx σ2 h2
      | .ret w h2 => .ret w h2
      | .exc c ws σ2 h2 => .exc c ws σ2 h2
      | .bad => .bad
/-- how often a while may turn -/
abbrev turns : Nat := 1000000

def fieldOf (f : Nat) : List Nat → List Val → Option Val
  | g :: gs, v :: vs => if f = g then some v else fieldOf f gs vs
  | _, _ => none
def evH (fs : List Nat) (vs : List Val) : HE → Option Val
  | .fld f => fieldOf f fs vs
  | .cst v => some v
  | .tup2 a b => match evH fs vs a, evH fs vs b with
    | some x, some y => some (.tup [x, y])
    | _, _ => none
  | .eqc f v => match fieldOf f fs vs with
    | some w => if scal w v then some (.bl (Val.beq w v)) else none
    | none => none
def handle (c : Nat) (vs : List Val) (σ : Slots) (h : Heap) : List (Nat × Hd) → Fl
  | [] => .exc c vs σ h
  | (d, hd) :: r => if T.sub c d then match T.exf c with
      | some fs => match hd with
        | .ret e => match evH fs vs e with
          | some v => .ret v h
          | none => .bad
        | .set i e => match evH fs vs e with
          | some v => .nx (σ.set i (some v)) h
          | none => .bad
      | none => .bad
    else handle c vs σ h r

mutual
def evS : St → Slots → Heap → Fl
  | .ex e, σ, h => (evE T call e σ h).st σ fun _ h1 => .nx σ h1
  | .set tg e, σ, h => (evE T call e σ h).st σ fun v h1 => match assignT tg v σ with
    | some σ1 => .nx σ1 h1
    | none => .bad
  | .setf o f e, σ, h => (evE T call e σ h).st σ fun v h1 => (evE T call o σ h1).st σ fun x h2 => match setF T x f v h2 with
    | some h3 => .nx σ h3
    | none => .bad
  | .seti o i e, σ, h => (evE T call e σ h).st σ fun v h1 => (evE T call o σ h1).st σ fun x h2 => (evE T call i σ h2).st σ fun y h3 => match setV h3 x y v with
    | some h4 => .nx σ h4
    | none => .bad
  | .setTF is o f e, σ, h => (evE T call e σ h).st σ fun v h1 => match v with
    | .tup vs => match vs.getLast? with
      | some z => match setSlots is vs.dropLast σ with
        | some σ1 => (evE T call o σ1 h1).st σ1 fun x h2 => match setF T x f z h2 with
          | some h3 => .nx σ1 h3
          | none => .bad
        | none => .bad
      | none => .bad
    | _ => .bad
  | .ret e, σ, h => (evE T call e σ h).st σ fun v h1 => .ret v h1
  | .retn, _, h => .ret .non h
  | .if_ c a b, σ, h => (evE T call c σ h).st σ fun x h1 => match x with
    | .bl true => evB a σ h1
    | .bl false => evB b σ h1
    | _ => .bad
  | .for_ tg it b, σ, h => (evIt T call it σ h).st σ fun src h1 => forL src tg (fun σ h => evB b σ h) src.items σ h1
  | .while_ c b, σ, h => whileL (fun σ h => asBool (evE T call c σ h)) (fun σ h => evB b σ h) turns σ h
  | .raise c es, σ, h => match T.exf c with
    | some _ => (evEs T call es σ h).st σ fun vs h1 => .exc c vs σ h1
    | none => .bad
  | .try_ b hs, σ, h => match evB b σ h with
    | .exc c vs σ1 h1 => handle T c vs σ1 h1 hs
    | r => r
  | .mat e cs, σ, h => (evE T call e σ h).st σ fun x h1 => match x with
    | .tup (.str z :: vs) => evCs cs z vs σ h1
    | _ => .bad
  | .pass, σ, h => .nx σ h
  | .brk, σ, h => .brk σ h
  | .cnt, σ, h => .cnt σ h
def evB : Bk → Slots → Heap → Fl
  | .nil, σ, h => .nx σ h
  | .cons s b, σ, h => match evS s σ h with
    | .nx σ1 h1 => evB b σ1 h1
    | r => r
def evCs : Cs → Sg → List Val → Slots → Heap → Fl
  | .nil, _, _, σ, h => .nx σ h
  | .cons x is b cs, z, vs, σ, h => if vs.length = is.length ∧ x = z then match setSlots is vs σ with
      | some σ1 => evB b σ1 h
      | none => .bad
    else evCs cs z vs σ h
end

/-- a def's run -/
def runFn (F : Fn) (vs : List Val) (h : Heap) : R Val :=
  if vs.length = F.np then match evB T call F.body (vs.map some ++ List.replicate (F.slots - F.np) none) h with
    | .nx _ h1 => .ok .non h1
    | .ret v h1 => .ok v h1
    | .exc c ws _ h1 => .exc c ws h1
    | _ => .bad
  else .bad
end

/-- the call of a def, to a depth -/
def callAt (T : Tab) : Nat → Nat → List Val → Heap → R Val
  | 0, _, _, _ => .bad
  | n + 1, f, vs, h => match T.fn f with
    | some F => runFn T (callAt T n) F vs h
    | none => .bad
end M
end

section
set_option Elab.async false
set_option linter.all false
set_option maxRecDepth 100000
/-! B1: logical values and heaps against the hand layer's. -/
namespace Br
open PySem L2

/-- where the module's things stand -/
structure Lk where
  K : PySem.W.Frag
  /-- a class, a module's table (6: the script) -/
  cA : Nat → Addr
  gA : Nat → Addr
  fN : Nat → Str
  /-- a def -/
  fA : Nat → Addr
  /-- which tables there are -/
  hg : Nat → Bool

abbrev Mp := Nat → Option Addr
def toS (s : M.Sg) : Str := ⟨s.toArray⟩
theorem toS_inj {a b : M.Sg} (h : toS a = toS b) : a = b := by
  unfold toS at h
  injection h with h
  simpa using congrArg Array.toList h

/-- a tuple of the module -/
def TupK (K : PySem.W.Frag) (A : Addr) (ys : List V) : Prop :=
  ∃ (o : Obj) (its : Array Value) (n : Nat), K.lookup A = some o ∧ o.cls = .type "tuple" ∧ o.data = .seq its n ∧ its.size ≤ sizeLine ∧ Vals ys its.toList
theorem TupK.of {K : PySem.W.Frag} {H : Hp} {A : Addr} {ys : List V} {p : Prop} (h : H A = some (.tup ys) ∨ (TupK K A ys ∧ p)) : SqT K H A ys := by
  rcases h with h | ⟨h, _⟩
  · exact .inl (.inl h)
  · exact .inr h
section
variable (L : Lk)
mutual
def vrel (m : Mp) (H : Hp) : M.Val → V → Prop
  | .non, v => v = .non
  | .bl b, v => v = .bl b
  | .int i, v => v = .int i
  | .str s, v => v = .str (toS s)
  | .ref a, v => ∃ A, m a = some A ∧ v = .ref A
  | .tup vs, v => ∃ A ys, v = .ref A ∧ (H A = some (.tup ys) ∨ (TupK L.K A ys ∧ M.isStat vs = true)) ∧ vrels m H vs ys
  | .glb n, v => v = .ref (L.gA n) ∧ (n = 6 ∨ L.hg n = true)
def vrels (m : Mp) (H : Hp) : List M.Val → List V → Prop
  | [], ys => ys = []
  | x :: xs, ys => ∃ y r, ys = y :: r ∧ vrel m H x y ∧ vrels m H xs r
end

/-- what does not change: tuples, what is locked -/
def Imm : HO → Prop
  | .tup _ => True
  | .frz _ _ => True
  | _ => False
structure Ext (m : Mp) (H : Hp) (m' : Mp) (H' : Hp) : Prop where
  mono : ∀ a A, m a = some A → m' a = some A
  new : ∀ a A, m' a = some A → m a = some A ∨ H A = none
  keep : ∀ A O, (∀ a, m a ≠ some A) → H A = some O → H' A = some O
  imm : ∀ A O, Imm O → H A = some O → H' A = some O
  there : ∀ A, H A ≠ none → H' A ≠ none
theorem Ext.refl {m : Mp} {H : Hp} : Ext m H m H := ⟨fun _ _ e => e, fun _ _ e => .inl e, fun _ _ _ e => e, fun _ _ _ e => e, fun _ e => e⟩
theorem Ext.trans {m m1 m2 : Mp} {H H1 H2 : Hp} (a : Ext m H m1 H1) (b : Ext m1 H1 m2 H2) : Ext m H m2 H2 where
  mono := fun x A e => b.mono x A (a.mono x A e)
  new := fun x A e => by
    rcases b.new x A e with h | h
    · exact a.new x A h
    · refine .inr ?_
      cases q : H A with
      | none => rfl
      | some O => exact absurd h (a.there A (by rw [q]; exact Option.some_ne_none _))
  keep := fun A O n e => by
    have e1 := a.keep A O n e
    refine b.keep A O (fun x q => ?_) e1
    rcases a.new x A q with h | h
    · exact n x h
    · rw [e] at h; cases h
  imm := fun A O i e => b.imm A O i (a.imm A O i e)
  there := fun A n => b.there A (a.there A n)

variable {L}
theorem SqT.ext {m m' : Mp} {H H' : Hp} (E : Ext m H m' H') {A : Addr} {ys : List V} (h : SqT L.K H A ys) : SqT L.K H' A ys := by
  rcases h with (h | ⟨o, h⟩) | h
  · exact .inl (.inl (E.imm A _ trivial h))
  · exact .inl (.inr ⟨o, E.imm A _ trivial h⟩)
  · exact .inr h
mutual
theorem vrel.ext {m m' : Mp} {H H' : Hp} (E : Ext m H m' H') : ∀ {x : M.Val} {v : V}, vrel L m H x v → vrel L m' H' x v
  | .non, _, h => h
  | .bl _, _, h => h
  | .int _, _, h => h
  | .str _, _, h => h
  | .ref a, _, h => by
    obtain ⟨A, e, q⟩ := h
    exact ⟨A, E.mono a A e, q⟩
  | .tup vs, _, h => by
    obtain ⟨A, ys, e, s, r⟩ := h
    refine ⟨A, ys, e, ?_, vrels.ext E r⟩
    rcases s with s | s
    · exact .inl (E.imm A _ trivial s)
    · exact .inr s
  | .glb _, _, h => h
theorem vrels.ext {m m' : Mp} {H H' : Hp} (E : Ext m H m' H') : ∀ {xs : List M.Val} {ys : List V}, vrels L m H xs ys → vrels L m' H' xs ys
  | [], _, h => h
  | x :: xs, _, h => by
    obtain ⟨y, r, e, h1, h2⟩ := h
    exact ⟨y, r, e, vrel.ext E h1, vrels.ext E h2⟩
end
/-- what a walk needs of a later state -/
structure Le (m : Mp) (H : Hp) (m' : Mp) (H' : Hp) : Prop where
  mono : ∀ a A, m a = some A → m' a = some A
  imm : ∀ A O, Imm O → H A = some O → H' A = some O
theorem Ext.le {m m' : Mp} {H H' : Hp} (x : Ext m H m' H') : Le m H m' H' := ⟨x.mono, x.imm⟩
theorem Le.refl {m : Mp} {H : Hp} : Le m H m H := ⟨fun _ _ e => e, fun _ _ _ e => e⟩
theorem Le.trans {m m1 m2 : Mp} {H H1 H2 : Hp} (a : Le m H m1 H1) (b : Le m1 H1 m2 H2) : Le m H m2 H2 := ⟨fun x A e => b.mono x A (a.mono x A e), fun A O i e => b.imm A O i (a.imm A O i e)⟩
theorem SqT.le {m m' : Mp} {H H' : Hp} (E : Le m H m' H') {A : Addr} {ys : List V} (h : SqT L.K H A ys) : SqT L.K H' A ys := by
  rcases h with (h | ⟨o, h⟩) | h
  · exact .inl (.inl (E.imm A _ trivial h))
  · exact .inl (.inr ⟨o, E.imm A _ trivial h⟩)
  · exact .inr h
mutual
theorem vrel.le {m m' : Mp} {H H' : Hp} (E : Le m H m' H') : ∀ {x : M.Val} {v : V}, vrel L m H x v → vrel L m' H' x v
  | .non, _, h => h
  | .bl _, _, h => h
  | .int _, _, h => h
  | .str _, _, h => h
  | .ref a, _, h => by
    obtain ⟨A, e, q⟩ := h
    exact ⟨A, E.mono a A e, q⟩
  | .tup vs, _, h => by
    obtain ⟨A, ys, e, s, r⟩ := h
    refine ⟨A, ys, e, ?_, vrels.le E r⟩
    rcases s with s | s
    · exact .inl (E.imm A _ trivial s)
    · exact .inr s
  | .glb _, _, h => h
theorem vrels.le {m m' : Mp} {H H' : Hp} (E : Le m H m' H') : ∀ {xs : List M.Val} {ys : List V}, vrels L m H xs ys → vrels L m' H' xs ys
  | [], _, h => h
  | x :: xs, _, h => by
    obtain ⟨y, r, e, h1, h2⟩ := h
    exact ⟨y, r, e, vrel.le E h1, vrels.le E h2⟩
end
theorem vrels.length {m : Mp} {H : Hp} : ∀ {xs : List M.Val} {ys : List V}, vrels L m H xs ys → xs.length = ys.length
  | [], _, h => by
    have e : _ = [] := h
    rw [e]
    rfl
  | x :: xs, _, h => by
    obtain ⟨y, r, e, _, h2⟩ := h
    rw [e, List.length_cons, List.length_cons, vrels.length h2]
theorem vrels.get {m : Mp} {H : Hp} : ∀ {xs : List M.Val} {ys : List V} {i : Nat} {x : M.Val}, vrels L m H xs ys → xs[i]? = some x → ∃ y, ys[i]? = some y ∧ vrel L m H x y
  | [], _, _, _, _, q => by simp at q
  | x :: xs, _, 0, _, h, q => by
    obtain ⟨y, r, e, h1, _⟩ := h
    subst e
    simp at q
    subst q
    exact ⟨y, rfl, h1⟩
  | x :: xs, _, i + 1, _, h, q => by
    obtain ⟨y, r, e, _, h2⟩ := h
    subst e
    obtain ⟨z, h3, h4⟩ := vrels.get (i := i) h2 (by simpa using q)
    exact ⟨z, by simpa using h3, h4⟩
theorem vrels.app {m : Mp} {H : Hp} : ∀ {xs xs' : List M.Val} {ys ys' : List V}, vrels L m H xs ys → vrels L m H xs' ys' → vrels L m H (xs ++ xs') (ys ++ ys')
  | [], _, _, _, h, h' => by
    have e : _ = [] := h
    rw [e]; exact h'
  | x :: xs, _, _, _, h, h' => by
    obtain ⟨y, r, e, h1, h2⟩ := h
    rw [e]
    exact ⟨y, _, rfl, h1, vrels.app h2 h'⟩
theorem vrels.one {m : Mp} {H : Hp} {x : M.Val} {v : V} (h : vrel L m H x v) : vrels L m H [x] [v] := ⟨v, [], rfl, h, rfl⟩
theorem vrels.take {m : Mp} {H : Hp} : ∀ {xs : List M.Val} {ys : List V} (n : Nat), vrels L m H xs ys → vrels L m H (xs.take n) (ys.take n)
  | _, _, 0, _ => by simp [vrels]
  | [], _, n + 1, h => by
    have e : _ = [] := h
    rw [e]; simp [vrels]
  | x :: xs, _, n + 1, h => by
    obtain ⟨y, r, e, h1, h2⟩ := h
    rw [e]
    exact ⟨y, _, rfl, h1, vrels.take n h2⟩
theorem vrels.drop {m : Mp} {H : Hp} : ∀ {xs : List M.Val} {ys : List V} (n : Nat), vrels L m H xs ys → vrels L m H (xs.drop n) (ys.drop n)
  | _, _, 0, h => h
  | [], _, n + 1, h => by
    have e : _ = [] := h
    rw [e]; simp [vrels]
  | x :: xs, _, n + 1, h => by
    obtain ⟨y, r, e, _, h2⟩ := h
    rw [e]
    exact vrels.drop n h2
theorem vrels.set {m : Mp} {H : Hp} {x : M.Val} {v : V} (hv : vrel L m H x v) : ∀ {xs : List M.Val} {ys : List V} (i : Nat), vrels L m H xs ys → vrels L m H (xs.set i x) (ys.set i v)
  | [], _, _, h => by
    have e : _ = [] := h
    rw [e]; simp [vrels]
  | _ :: xs, _, 0, h => by
    obtain ⟨y, r, e, _, h2⟩ := h
    rw [e]
    exact ⟨v, r, rfl, hv, h2⟩
  | _ :: xs, _, i + 1, h => by
    obtain ⟨y, r, e, h1, h2⟩ := h
    rw [e]
    exact ⟨y, _, rfl, h1, vrels.set hv i h2⟩
theorem vrels.rev {m : Mp} {H : Hp} : ∀ {xs : List M.Val} {ys : List V}, vrels L m H xs ys → vrels L m H xs.reverse ys.reverse
  | [], _, h => by
    have e : _ = [] := h
    rw [e]; simp [vrels]
  | x :: xs, _, h => by
    obtain ⟨y, r, e, h1, h2⟩ := h
    rw [e, List.reverse_cons, List.reverse_cons]
    exact vrels.app (vrels.rev h2) (vrels.one h1)
theorem vrels.rep {m : Mp} {H : Hp} {xs : List M.Val} {ys : List V} (h : vrels L m H xs ys) : ∀ n, vrels L m H (M.rep n xs) ((List.replicate n ys).flatten)
  | 0 => rfl
  | n + 1 => by
    unfold M.rep
    rw [List.replicate_succ, List.flatten_cons]
    exact vrels.app h (vrels.rep h n)

/-! ### keys, objects -/
def kOf : M.K → Key
  | .i n => .inl n
  | .s x => .inr (toS x)
theorem kOf_inj {a b : M.K} (h : kOf a = kOf b) : a = b := by
  cases a <;> cases b <;> simp [kOf] at h
  · rw [h]
  · rw [toS_inj h]
def kvrel {κ κ' : Type} (f : κ → κ') (m : Mp) (H : Hp) : List (κ × M.Val) → List (κ' × V) → Prop
  | [], ys => ys = []
  | (k, x) :: xs, ys => ∃ y r, ys = (f k, y) :: r ∧ vrel L m H x y ∧ kvrel f m H xs r
def orel (m : Mp) (H : Hp) : M.Obj → Addr → Prop
  | .lst vs, A => ∃ ys, H A = some (.lst ys) ∧ vrels L m H vs ys
  | .dct kvs, A => ∃ ys, H A = some (.dK ys) ∧ kvrel (L := L) kOf m H kvs ys
  | .dcT kvs, A => ∃ ys, H A = some (.dT ys) ∧ kvrel (L := L) (List.map kOf) m H kvs ys
  | .ins c fs, A => ∃ dx ys, H A = some (.ins (L.cA c) dx ys) ∧ kvrel (L := L) L.fN m H fs ys ∧ Cls L.K (L.cA c) ∧ ∀ p ∈ fs, NoAttr L.K (L.cA c) (L.fN p.1)
def SqI (K : PySem.W.Frag) (H : Hp) (A : Addr) (ys : List V) : Prop :=
  (∃ o, H A = some (.frz o (.lst ys))) ∨
    ∃ (o : Obj) (its : Array Value) (n : Nat), K.lookup A = some o ∧ o.cls = .type "list" ∧ o.dict = none ∧ o.data = .seq its n ∧ its.size ≤ sizeLine ∧ Vals ys its.toList
structure Sim (L : Lk) (m : Mp) (h : M.Heap) (H : Hp) : Prop where
  obj : ∀ a A, m a = some A → ∃ o, h.get a = some o ∧ orel (L := L) m H o A
  inj : ∀ a b A, m a = some A → m b = some A → a = b
  scr : ∃ ys, SqI L.K H (L.gA 6) ys ∧ vrels L m H h.scr ys

/-! ### what a result asks -/
/-- an exception's own dict -/
def ExcD (T : M.Tab) (m : Mp) (H : Hp) (c : Nat) (vs : List M.Val) (d : Option Addr) : Prop := match T.exf c with
  | some [] => d = none ∧ vs = []
  | some gs => ∃ a ys, d = some a ∧ (∀ b, m b ≠ some a) ∧ H a = some (.xd ys) ∧ kvrel (L := L) L.fN m H (gs.zip vs) ys ∧ gs.length = vs.length
  | none => False
def Post {α β : Type} (T : M.Tab) (rel : Mp → Hp → α → β → Prop) (E : XK) (r : M.R α) (m : Mp) (H : Hp) (Q : β → Hp → Prop) : Prop := match r with
  | .ok v h' => ∀ m' H' x, Ext m H m' H' → Sim L m' h' H' → rel m' H' v x → Q x H'
  | .exc c vs h' => ∀ m' H' d, Ext m H m' H' → Sim L m' h' H' → ExcD (L := L) T m' H' c vs d → E (.ref (L.cA c)) d H'
  | .bad => False
section
variable {α α' β β' : Type} {T : M.Tab} {rel : Mp → Hp → α → β → Prop} {rel' : Mp → Hp → α' → β' → Prop} {E : XK} {r : M.R α} {m m1 : Mp} {H H1 : Hp} {Q Q' : β → Hp → Prop}
theorem Post.ext (x : Ext m H m1 H1) (p : Post (L := L) T rel E r m H Q) : Post (L := L) T rel E r m1 H1 Q := by
  cases r with
  | ok v h' => exact fun m' H' y e s q => p m' H' y (x.trans e) s q
  | exc c vs h' => exact fun m' H' d e s q => p m' H' d (x.trans e) s q
  | bad => exact p
theorem Post.imp (p : Post (L := L) T rel E r m H Q) (i : ∀ x H, Q x H → Q' x H) : Post (L := L) T rel E r m H Q' := by
  cases r with
  | ok v h' => exact fun m' H' y e s q => i _ _ (p m' H' y e s q)
  | exc c vs h' => exact p
  | bad => exact p
/-- one part, then the rest -/
theorem Post.bind {f : α → M.Heap → M.R α'} {Q2 : β' → Hp → Prop} (p : Post (L := L) T rel' E (r.bind f) m H Q2) :
    Post (L := L) T rel E r m H fun x H1 => ∃ m1 h1 v, Ext m H m1 H1 ∧ Sim L m1 h1 H1 ∧ rel m1 H1 v x ∧ Post (L := L) T rel' E (f v h1) m1 H1 Q2 := by
  cases r with
  | ok v h' => exact fun m' H' y e s q => ⟨m', h', v, e, s, q, Post.ext e p⟩
  | exc c vs h' => exact p
  | bad => exact p
end
/-- the slots -/
def srel (m : Mp) (H : Hp) : M.Slots → St → Prop
  | [], σ => σ = []
  | o :: r, σ => ∃ p q, σ = p :: q ∧ (match o, p with
    | none, none => True
    | some x, some v => vrel L m H x v
    | _, _ => False) ∧ srel m H r q
theorem srel.ext {m m' : Mp} {H H' : Hp} (x : Ext m H m' H') : ∀ {σ : M.Slots} {τ : St}, srel (L := L) m H σ τ → srel (L := L) m' H' σ τ
  | [], _, h => h
  | o :: r, _, h => by
    obtain ⟨p, q, e, h1, h2⟩ := h
    refine ⟨p, q, e, ?_, srel.ext x h2⟩
    cases o <;> cases p <;> first | exact h1 | exact vrel.ext x h1
theorem srel.get {m : Mp} {H : Hp} {x : M.Val} : ∀ {σ : M.Slots} {τ : St} {i : Nat}, srel (L := L) m H σ τ → σ[i]? = some (some x) → ∃ v, τ[i]? = some (some v) ∧ vrel L m H x v
  | [], _, _, _, q => by simp at q
  | o :: r, _, 0, h, q => by
    obtain ⟨p, t, e, h1, _⟩ := h
    subst e
    simp at q
    subst q
    cases p with
    | none => exact h1.elim
    | some v => exact ⟨v, rfl, h1⟩
  | o :: r, _, i + 1, h, q => by
    obtain ⟨p, t, e, _, h2⟩ := h
    subst e
    obtain ⟨v, h3, h4⟩ := srel.get (i := i) h2 (by simpa using q)
    exact ⟨v, by simpa using h3, h4⟩
theorem srel.set {m : Mp} {H : Hp} {x : M.Val} {v : V} (hv : vrel L m H x v) : ∀ {σ : M.Slots} {τ : St} (i : Nat), srel (L := L) m H σ τ → srel (L := L) m H (σ.set i (some x)) (τ.set i (some v))
  | [], _, _, h => by
    have e : _ = [] := h
    rw [e]; simp [srel]
  | o :: r, _, 0, h => by
    obtain ⟨p, t, e, _, h2⟩ := h
    subst e
    exact ⟨some v, t, rfl, hv, h2⟩
  | o :: r, _, i + 1, h => by
    obtain ⟨p, t, e, h1, h2⟩ := h
    subst e
    exact ⟨p, _, rfl, h1, srel.set hv i h2⟩
theorem srel.none {m : Mp} {H : Hp} : ∀ {σ : M.Slots} {τ : St} (i : Nat), srel (L := L) m H σ τ → srel (L := L) m H (σ.set i none) (τ.set i none)
  | [], _, _, h => by
    have e : _ = [] := h
    rw [e]; simp [srel]
  | o :: r, _, 0, h => by
    obtain ⟨p, t, e, _, h2⟩ := h
    subst e
    exact ⟨Option.none, t, rfl, trivial, h2⟩
  | o :: r, _, i + 1, h => by
    obtain ⟨p, t, e, h1, h2⟩ := h
    subst e
    exact ⟨p, _, rfl, h1, srel.none i h2⟩
theorem srel.length {m : Mp} {H : Hp} : ∀ {σ : M.Slots} {τ : St}, srel (L := L) m H σ τ → σ.length = τ.length
  | [], _, h => by
    have e : _ = [] := h
    rw [e]; rfl
  | o :: r, _, h => by
    obtain ⟨p, t, e, _, h2⟩ := h
    rw [e, List.length_cons, List.length_cons, srel.length h2]

/-! ### heaps: a new object, a change -/
section
variable {m : Mp} {h : M.Heap} {H : Hp}
def bindAt (m : Mp) (a : Nat) (p : Addr) : Mp := fun b => if b = a then some p else m b
theorem Sim.old (S : Sim L m h H) {a : Nat} {A : Addr} (e : m a = some A) : H A ≠ none ∧ a < h.size := by
  obtain ⟨o, q, r⟩ := S.obj a A e
  refine ⟨?_, M.Heap.get_lt q⟩
  cases o with
  | lst _ => obtain ⟨_, z, _⟩ := r; rw [z]; exact Option.some_ne_none _
  | dct _ => obtain ⟨_, z, _⟩ := r; rw [z]; exact Option.some_ne_none _
  | dcT _ => obtain ⟨_, z, _⟩ := r; rw [z]; exact Option.some_ne_none _
  | ins _ _ => obtain ⟨_, _, z, _⟩ := r; rw [z]; exact Option.some_ne_none _
theorem Sim.notImm (S : Sim L m h H) {a : Nat} {A : Addr} {O : HO} (e : m a = some A) (i : Imm O) : H A ≠ some O := by
  intro z
  obtain ⟨o, q, r⟩ := S.obj a A e
  cases o with
  | lst _ => obtain ⟨_, y, _⟩ := r; rw [y] at z; cases z; exact i
  | dct _ => obtain ⟨_, y, _⟩ := r; rw [y] at z; cases z; exact i
  | dcT _ => obtain ⟨_, y, _⟩ := r; rw [y] at z; cases z; exact i
  | ins _ _ => obtain ⟨_, _, y, _⟩ := r; rw [y] at z; cases z; exact i
theorem SqI.ext {m' : Mp} {H' : Hp} (x : Ext m H m' H') {A : Addr} {ys : List V} (q : SqI L.K H A ys) : SqI L.K H' A ys := by
  rcases q with ⟨o, q⟩ | q
  · exact .inl ⟨o, x.imm _ _ trivial q⟩
  · exact .inr q
theorem SqI.le {m' : Mp} {H' : Hp} (x : Le m H m' H') {A : Addr} {ys : List V} (q : SqI L.K H A ys) : SqI L.K H' A ys := by
  rcases q with ⟨o, q⟩ | q
  · exact .inl ⟨o, x.imm _ _ trivial q⟩
  · exact .inr q
theorem kvrel.ext {κ κ' : Type} {f : κ → κ'} {m' : Mp} {H' : Hp} (x : Ext m H m' H') : ∀ {kvs : List (κ × M.Val)} {ys : List (κ' × V)}, kvrel (L := L) f m H kvs ys → kvrel (L := L) f m' H' kvs ys
  | [], _, h => h
  | (k, z) :: r, _, h => by
    obtain ⟨y, t, e, h1, h2⟩ := h
    exact ⟨y, t, e, vrel.ext x h1, kvrel.ext x h2⟩
/-- an object's relation where its own cell is kept -/
theorem orel.ext {m' : Mp} {H' : Hp} (x : Ext m H m' H') {o : M.Obj} {A : Addr} (k : H' A = H A) (r : orel (L := L) m H o A) : orel (L := L) m' H' o A := by
  cases o with
  | lst _ => obtain ⟨ys, z, q⟩ := r; exact ⟨ys, by rw [k]; exact z, vrels.ext x q⟩
  | dct _ => obtain ⟨ys, z, q⟩ := r; exact ⟨ys, by rw [k]; exact z, kvrel.ext x q⟩
  | dcT _ => obtain ⟨ys, z, q⟩ := r; exact ⟨ys, by rw [k]; exact z, kvrel.ext x q⟩
  | ins _ _ => obtain ⟨dx, ys, z, q, c⟩ := r; exact ⟨dx, ys, by rw [k]; exact z, kvrel.ext x q, c⟩
/-- a new thing that the logical heap does not have -/
theorem Ext.fresh {p : Addr} {O : HO} (n : H p = none) : Ext m H m (upd H p O) where
  mono := fun _ _ e => e
  new := fun _ _ e => .inl e
  keep := fun A O' _ e => by rw [upd_ne (ne_of_none e n)]; exact e
  imm := fun A O' _ e => by rw [upd_ne (ne_of_none e n)]; exact e
  there := fun A e => by
    by_cases z : A = p
    · rw [z, upd_same]; exact Option.some_ne_none _
    · rw [upd_ne z]; exact e
theorem Sim.fresh (S : Sim L m h H) {p : Addr} {O : HO} (n : H p = none) : Sim L m h (upd H p O) where
  obj := fun a A e => by
    obtain ⟨o, q, r⟩ := S.obj a A e
    exact ⟨o, q, orel.ext (Ext.fresh n) (upd_ne fun z => (S.old e).1 (by rw [z]; exact n)) r⟩
  inj := S.inj
  scr := let ⟨ys, q, r⟩ := S.scr; ⟨ys, SqI.ext (Ext.fresh (m := m) n) q, vrels.ext (Ext.fresh n) r⟩
/-- a new object of both -/
theorem Ext.push (S : Sim L m h H) {p : Addr} {O : HO} (n : H p = none) : Ext m H (bindAt m h.size p) (upd H p O) where
  mono := fun a A e => by
    unfold bindAt
    rw [if_neg (Nat.ne_of_lt (S.old e).2)]
    exact e
  new := fun a A e => by
    unfold bindAt at e
    split at e
    · cases e; exact .inr n
    · exact .inl e
  keep := (Ext.fresh (m := m) n).keep
  imm := (Ext.fresh (m := m) n).imm
  there := (Ext.fresh (m := m) n).there
theorem Sim.push (S : Sim L m h H) {p : Addr} {O : HO} {o : M.Obj} (n : H p = none) (r : orel (L := L) (bindAt m h.size p) (upd H p O) o p) : Sim L (bindAt m h.size p) (h.push o) (upd H p O) where
  obj := fun a A e => by
    by_cases z : a = h.size
    · subst z
      unfold bindAt at e
      rw [if_pos rfl] at e
      cases e
      exact ⟨o, by rw [M.Heap.get_push, if_pos rfl], r⟩
    · unfold bindAt at e
      rw [if_neg z] at e
      obtain ⟨o', q, r'⟩ := S.obj a A e
      exact ⟨o', by rw [M.Heap.get_push, if_neg z]; exact q, orel.ext (Ext.push S n) (upd_ne fun y => (S.old e).1 (by rw [y]; exact n)) r'⟩
  inj := fun a b A e e' => by
    unfold bindAt at e e'
    split at e <;> split at e'
    · rename_i h1 h2; rw [h1, h2]
    · cases e; exact absurd n (S.old e').1
    · cases e'; exact absurd n (S.old e).1
    · exact S.inj a b A e e'
  scr := let ⟨ys, q, r⟩ := S.scr; ⟨ys, SqI.ext (Ext.push S n) q, vrels.ext (Ext.push S n) r⟩
/-- an object is changed -/
theorem Ext.write (S : Sim L m h H) {a : Nat} {A : Addr} {O : HO} (e : m a = some A) : Ext m H m (upd H A O) where
  mono := fun _ _ e => e
  new := fun _ _ e => .inl e
  keep := fun B O' nb q => by rw [upd_ne fun z => nb a (by rw [z]; exact e)]; exact q
  imm := fun B O' i q => by rw [upd_ne fun z => S.notImm e i (by rw [← z]; exact q)]; exact q
  there := fun B q => by
    by_cases z : B = A
    · rw [z, upd_same]; exact Option.some_ne_none _
    · rw [upd_ne z]; exact q
theorem Sim.write (S : Sim L m h H) {a : Nat} {A : Addr} {O : HO} {o : M.Obj} (e : m a = some A) (r : orel (L := L) m (upd H A O) o A) : Sim L m (h.set a o) (upd H A O) where
  obj := fun b B q => by
    by_cases z : b = a
    · subst z
      rw [e] at q
      cases q
      exact ⟨o, by rw [M.Heap.get_set _ _ _ _ (S.old e).2, if_pos rfl], r⟩
    · obtain ⟨o', q', r'⟩ := S.obj b B q
      exact ⟨o', by rw [M.Heap.get_set _ _ _ _ (S.old e).2, if_neg z]; exact q', orel.ext (Ext.write S e) (upd_ne fun y => z (S.inj _ _ _ q (by rw [y]; exact e))) r'⟩
  inj := S.inj
  scr := let ⟨ys, q, r⟩ := S.scr; ⟨ys, SqI.ext (Ext.write S e) q, vrels.ext (Ext.write S e) r⟩
end
end
end Br
end

section
set_option Elab.async false
set_option linter.all false
set_option maxRecDepth 100000
set_option maxHeartbeats 1000000
/-! B2: the check that a piece of syntax is a piece of M; readings; names, constants, operators. -/
namespace Br
open PySem L2

/-- what a name of the module is -/
inductive GI where
  | none | blt | int (i : Int) | str (s : M.Sg) | tup (vs : List M.Val) | glb (n : Nat) | cls (c : Nat) | fn (f : Nat)
structure Ck where
  gi : Str → GI
  fN : Nat → Str

/-- the expressions that M has -/
def plainE : Expr → Bool
  | .BoolOp .. => true | .BinOp .. => true | .UnaryOp .. => true | .IfExp .. => true
  | .Dict .. => true | .ListComp .. => true | .DictComp .. => true | .Compare .. => true
  | .Call (.Name x _) _ _ _ => !decide (x = ("super" : Str))
  | .Call (.Attribute _ _ _) _ _ _ => true
  | .Constant .. => true | .Attribute .. => true | .Subscript .. => true | .Name .. => true | .List .. => true | .Tuple .. => true
  | _ => false
theorem plain_star {e : Expr} {es : List Expr} {env : Env} (h : plainE e = true) : starEach (e :: es) env = (false, eval e env) :: starEach es env := by
  cases e <;> first | rfl | cases h
theorem plain_marks {e : Expr} {op : CmpOp} (h : plainE e = true) : behindInMarks op e = false := by
  cases e <;> first | rfl | cases h
theorem plain_ix {e : Expr} (h : plainE e = true) : PlainIx e := by
  intro o i
  cases e <;> first | rfl | cases h
theorem plain_fold {e : Expr} {env : Env} (h : plainE e = true) : ∀ x, foldedSetIterable e env x = pure x := by
  intro x
  cases e <;> first | rfl | cases h
theorem plain_base {e : Expr} {f : Str} {env : Env} (h : plainE e = true) (w : Sem Value) : attributeBase e f env w = w := by
  cases e with
  | Call f' as ks pos =>
    cases f' with
    | Name x p =>
      cases as with
      | nil =>
        cases ks with
        | nil =>
          have hx : ¬ x = ("super" : Str) := by
            intro e
            subst e
            have h2 : (!decide (("super" : Str) = "super")) = true := h
            rw [decide_eq_true rfl] at h2
            cases h2
          have hb : (x != ("super" : Str)) = true := bne_iff_ne.mpr hx
          unfold attributeBase
          simp only [hb, Bool.true_or, if_true]
        | cons _ _ => rfl
      | cons _ _ => rfl
    | Attribute _ _ _ => rfl
    | _ => cases h
  | _ => first | rfl | cases h

def kindB (sc : Scope) (x : Str) : Nat := match sc.names.lookup x with
  | some .local => 1 | some .cell => 2 | some .free => 3 | some .globalImplicit => 4 | _ => 0
theorem kind_vis {sc : Scope} {x : Str} (h : (decide (kindB sc x = 1) || decide (kindB sc x = 2) || decide (kindB sc x = 3)) = true) : Vis sc x := by
  unfold kindB at h
  unfold Vis
  split at h <;> first | (rename_i e; exact .inl e) | (rename_i e; exact .inr (.inl e)) | (rename_i e; exact .inr (.inr e)) | (simp at h)
theorem kind_loc {sc : Scope} {x : Str} (h : (decide (kindB sc x = 1) || decide (kindB sc x = 2)) = true) : L2.Loc sc x := by
  unfold kindB at h
  unfold L2.Loc
  split at h <;> first | (rename_i e; exact .inl e) | (rename_i e; exact .inr e) | (simp at h)
theorem kind_glob {sc : Scope} {x : Str} (h : decide (kindB sc x = 4) = true) : sc.names.lookup x = some .globalImplicit := by
  unfold kindB at h
  split at h <;> first | assumption | (simp at h)

/-! ### readings -/
section
variable (L : Lk) (T : M.Tab) (call : Nat → List M.Val → M.Heap → M.R M.Val)
def TEv (W : WX) (c : M.E) : TE := fun τ H Q => ∃ m h σ, srel (L := L) m H σ τ ∧ Sim L m h H ∧ Post (L := L) T (vrel L) (fun cls d H' => W cls d τ H') (M.evE T call c σ h) m H Q
def TAv (W : WX) (c : M.Es) : TA := fun τ H Q => ∃ m h σ, srel (L := L) m H σ τ ∧ Sim L m h H ∧ Post (L := L) T (vrels L) (fun cls d H' => W cls d τ H') (M.evEs T call c σ h) m H Q
def brel (_ : Mp) (_ : Hp) (b : Bool) (x : Bool) : Prop := x = b
def TTv (W : WX) (c : M.E) : TT := fun τ H Q => ∃ m h σ, srel (L := L) m H σ τ ∧ Sim L m h H ∧ Post (L := L) T brel (fun cls d H' => W cls d τ H') (M.asBool (M.evE T call c σ h)) m H Q
end
theorem peImp {X : Cx} {e : Expr} {t t' : TE} (h : PE X e t) (i : ∀ σ H Q, t' σ H Q → t σ H Q) : PE X e t' := ⟨fun pins s σ H Q I q => h.run pins s σ H Q I (i σ H Q q)⟩
theorem ptImp {X : Cx} {e : Expr} {t t' : TT} (h : PT X e t) (i : ∀ σ H Q, t' σ H Q → t σ H Q) : PT X e t' := ⟨fun pins s σ H Q I q => h.run pins s σ H Q I (i σ H Q q)⟩
theorem paImp {X : Cx} {e : List Expr} {t t' : TA} (h : PA X e t) (i : ∀ σ H Q, t' σ H Q → t σ H Q) : PA X e t' := ⟨fun pos pins s σ H Q I q => h.run pos pins s σ H Q I (i σ H Q q)⟩
theorem psImp {X : Cx} {e : Stmt} {t t' : TS} (h : PS X e t) (i : ∀ D σ H, t' D σ H → t D σ H) : PS X e t' := ⟨fun pins s σ H D I q => h.run pins s σ H D I (i D σ H q)⟩
theorem pssImp {X : Cx} {e : List Stmt} {t t' : TS} (h : PSs X e t) (i : ∀ D σ H, t' D σ H → t D σ H) : PSs X e t' := ⟨fun pins s σ H D I q => h.run pins s σ H D I (i D σ H q)⟩

section
variable {L : Lk} {T : M.Tab} {call : Nat → List M.Val → M.Heap → M.R M.Val} {X : Cx} {W : WX}
/-- the first part of a reading, then what follows from its value -/
theorem TEv.first {c : M.E} {τ : St} {H : Hp} {α β : Type} {rel : Mp → Hp → α → β → Prop} {f : M.Val → M.Heap → M.R α} {Q : β → Hp → Prop} {R : V → Hp → Prop} {m : Mp} {h : M.Heap} {σ : M.Slots}
    (hs : srel (L := L) m H σ τ) (S : Sim L m h H) (p : Post (L := L) T rel (fun cls d H' => W cls d τ H') ((M.evE T call c σ h).bind f) m H Q)
    (k : ∀ x H1 m1 h1 v, Ext m H m1 H1 → Sim L m1 h1 H1 → srel (L := L) m1 H1 σ τ → vrel L m1 H1 v x → Post (L := L) T rel (fun cls d H' => W cls d τ H') (f v h1) m1 H1 Q → R x H1) : TEv L T call W c τ H R :=
  ⟨m, h, σ, hs, S, (Post.bind p).imp fun x H1 ⟨m1, h1, v, e, s, r, q⟩ => k x H1 m1 h1 v e s (hs.ext e) r q⟩
theorem TAv.first {c : M.Es} {τ : St} {H : Hp} {α β : Type} {rel : Mp → Hp → α → β → Prop} {f : List M.Val → M.Heap → M.R α} {Q : β → Hp → Prop} {R : List V → Hp → Prop} {m : Mp} {h : M.Heap} {σ : M.Slots}
    (hs : srel (L := L) m H σ τ) (S : Sim L m h H) (p : Post (L := L) T rel (fun cls d H' => W cls d τ H') ((M.evEs T call c σ h).bind f) m H Q)
    (k : ∀ x H1 m1 h1 v, Ext m H m1 H1 → Sim L m1 h1 H1 → srel (L := L) m1 H1 σ τ → vrels L m1 H1 v x → Post (L := L) T rel (fun cls d H' => W cls d τ H') (f v h1) m1 H1 Q → R x H1) : TAv L T call W c τ H R :=
  ⟨m, h, σ, hs, S, (Post.bind p).imp fun x H1 ⟨m1, h1, v, e, s, r, q⟩ => k x H1 m1 h1 v e s (hs.ext e) r q⟩
/-- a value at hand -/
theorem Post.val {α β : Type} {rel : Mp → Hp → α → β → Prop} {E : XK} {v : α} {h : M.Heap} {m : Mp} {H : Hp} {Q : β → Hp → Prop} {x : β} (S : Sim L m h H) (r : rel m H v x) (p : Post (L := L) T rel E (.ok v h) m H Q) : Q x H := p m H x .refl S r
/-- a new list, a new tuple -/
theorem Post.newL {E : XK} {vs : List M.Val} {h : M.Heap} {m : Mp} {H : Hp} {Q : VK} {ys : List V} (S : Sim L m h H) (r : vrels L m H vs ys) (p : Post (L := L) T (vrel L) E (.ok (.ref h.size) (h.push (.lst vs))) m H Q) :
    ∀ q, H q = none → Q (.ref q) (upd H q (.lst ys)) := fun q n => by
  have x : Ext m H (bindAt m h.size q) (upd H q (.lst ys)) := Ext.push S n
  refine p _ _ _ x (Sim.push S n ⟨ys, upd_same, vrels.ext x r⟩) ⟨q, ?_, rfl⟩
  unfold bindAt
  rw [if_pos rfl]
theorem Post.newT {E : XK} {vs : List M.Val} {h : M.Heap} {m : Mp} {H : Hp} {Q : VK} {ys : List V} (S : Sim L m h H) (r : vrels L m H vs ys) (p : Post (L := L) T (vrel L) E (.ok (.tup vs) h) m H Q) :
    ∀ q, H q = none → Q (.ref q) (upd H q (.tup ys)) := fun q n => by
  have x : Ext m H m (upd H q (.tup ys)) := Ext.fresh n
  exact p _ _ _ x (Sim.fresh S n) ⟨q, ys, rfl, .inl upd_same, vrels.ext x r⟩

/-! ### names, constants -/
theorem snd_loc {i : Nat} {x : Str} {pos : Pos} (hN : X.N[i]? = some x) (hv : Vis X.env.scope x) (hd : (x == ("__debug__" : Str)) = false) (hcd : (x == ("__classdict__" : Str)) = false) : PE X (.Name x pos) (TEv L T call W (.loc i)) := by
  refine peImp (pe_var hN hv hd hcd) fun τ H Q ⟨m, h, σ, hs, S, p⟩ => ?_
  unfold M.evE at p
  split at p
  · rename_i v e
    obtain ⟨z, e1, r⟩ := srel.get hs e
    exact ⟨z, e1, p.val S r⟩
  · exact p.elim
theorem snd_int {i j pos} : PE X (.Constant (.int i) j pos) (TEv L T call W (.cint i)) :=
  peImp pe_int fun τ H Q ⟨m, h, σ, hs, S, p⟩ => Post.val (v := M.Val.int i) (rel := vrel L) (T := T) S rfl p
theorem snd_bl {i j pos} : PE X (.Constant (.bool i) j pos) (TEv L T call W (.cbl i)) :=
  peImp pe_bl fun τ H Q ⟨m, h, σ, hs, S, p⟩ => Post.val (v := M.Val.bl i) (rel := vrel L) (T := T) S rfl p
theorem snd_non {j pos} : PE X (.Constant .none j pos) (TEv L T call W .cnon) :=
  peImp pe_non fun τ H Q ⟨m, h, σ, hs, S, p⟩ => Post.val (v := M.Val.non) (rel := vrel L) (T := T) S rfl p
theorem snd_str {z : M.Sg} {x : Str} {j pos} (e : x = toS z) : PE X (.Constant (.str x) j pos) (TEv L T call W (.cstr z)) :=
  peImp pe_str fun τ H Q ⟨m, h, σ, hs, S, p⟩ => Post.val (v := M.Val.str z) (rel := vrel L) (T := T) S (congrArg V.str e) p
/-- a constant of the module -/
theorem snd_cval {v : M.Val} {z : V} {x : Str} {u : Value} {pos : Pos} (hg : X.env.scope.names.lookup x = some .globalImplicit) (hm : X.mg x = some u) (r : RelV z u) (hv : ∀ m H, vrel L m H v z) (hd : (x == ("__debug__" : Str)) = false) :
    PE X (.Name x pos) (TEv L T call W (.cval v)) :=
  peImp (pe_glob hg hm r hd) fun τ H Q ⟨m, h, σ, hs, S, p⟩ => Post.val (v := v) (rel := vrel L) (T := T) S (hv m H) p

/-! ### operators: by values -/
def rVal (L : Lk) (T : M.Tab) (E : XK) (f : M.Val → M.Val → M.Heap → M.R M.Val) : R2 := fun x y H Q => ∃ m h v w, Sim L m h H ∧ vrel L m H v x ∧ vrel L m H w y ∧ Post (L := L) T (vrel L) E (f v w h) m H Q
theorem snd_op2 {op : Operator} {a b : Expr} {pos : Pos} {ca cb c : M.E} {f : M.Val → M.Val → M.Heap → M.R M.Val} (hr : ∀ E, OpR X (binaryOp op) (rVal L T E f)) (ha : PE X a (TEv L T call W ca)) (hb : PE X b (TEv L T call W cb))
    (hc : ∀ σ h, M.evE T call c σ h = (M.evE T call ca σ h).bind fun x h1 => (M.evE T call cb σ h1).bind fun y h2 => f x y h2) : PE X (.BinOp a op b pos) (TEv L T call W c) := by
  refine ⟨fun pins s τ H Q I ⟨m, h, σ, hs, S, p⟩ => ?_⟩
  rw [hc] at p
  exact (pe_op (hr fun cls d H' => W cls d τ H') ha hb).run pins s τ H Q I (TEv.first hs S p fun x H1 m1 h1 v e1 S1 hs1 r1 p1 =>
    TEv.first hs1 S1 p1 fun y H2 m2 h2 w e2 S2 hs2 r2 p2 => ⟨m2, h2, v, w, S2, vrel.ext e2 r1, r2, p2⟩)
end
end Br
end

section
set_option Elab.async false
set_option linter.all false
set_option maxRecDepth 100000
set_option maxHeartbeats 1000000
/-! B3: the operators by values. -/
namespace Br
open PySem L2
section
variable {L : Lk} {T : M.Tab} {X : Cx} {m : Mp} {h : M.Heap} {H : Hp}
theorem Sim.lst (S : Sim L m h H) {a : Nat} {A : Addr} {xs : List M.Val} (e : m a = some A) (q : M.lstOf h (.ref a) = some xs) : ∃ ys, H A = some (.lst ys) ∧ vrels L m H xs ys := by
  obtain ⟨o, q1, r⟩ := S.obj a A e
  unfold M.lstOf at q
  simp only [q1] at q
  cases o with
  | lst vs =>
    cases q
    exact r
  | _ => cases q
theorem lineEq : M.sizeLine = sizeLine := by rw [sizeLine_eq]
theorem toS_len (a : M.Sg) : (toS a).length = a.length := by
  unfold toS Str.length
  simp
theorem toS_app (a b : M.Sg) : toS (a ++ b) = toS a ++ toS b := by
  unfold toS
  show _ = (⟨a.toArray ++ b.toArray⟩ : Str)
  simp
theorem vlen {xs : List M.Val} {ys : List V} (r : vrels L m H xs ys) (n : Nat) (z : xs.length ≤ n) : ys.length ≤ n := by rw [← r.length]; exact z
theorem vne {xs : List M.Val} {ys : List V} (r : vrels L m H xs ys) : xs = [] ↔ ys = [] := by
  have e := r.length
  constructor
  · intro q; subst q; exact List.eq_nil_of_length_eq_zero e.symm
  · intro q; subst q; exact List.eq_nil_of_length_eq_zero e

/-- ints alone -/
theorem binR_int {o : M.Op} {op : Operator} {g : Int → Int → Int} {C : Int → Int → Prop} (hop : OpR X (binaryOp op) (rI C fun i j => .int (g i j)))
    (hb : ∀ i j k, M.binI o i j = some k → C i j ∧ k = g i j) (hn : ∀ v w h, (∀ i j, v = .int i → w = .int j → False) → M.binV o v w h = .bad) : ∀ E, OpR X (binaryOp op) (rVal L T E (M.binV o)) := by
  intro E pins s σ H x y v u Q I rx ry ⟨m, h, a, b, S, ra, rb, p⟩
  by_cases hi : ∃ i j, a = .int i ∧ b = .int j
  · obtain ⟨i, j, rfl, rfl⟩ := hi
    have ea : x = .int i := ra
    have eb : y = .int j := rb
    unfold M.binV at p
    cases q : M.binI o i j with
    | none => simp only [q] at p; exact p.elim
    | some k =>
      simp only [q] at p
      obtain ⟨hc, rfl⟩ := hb i j k q
      exact hop pins s σ H x y v u Q I rx ry ⟨i, j, ea, eb, hc, Post.val (v := M.Val.int (g i j)) S rfl p⟩
  · rw [hn a b h fun i j e1 e2 => hi ⟨i, j, e1, e2⟩] at p
    exact p.elim

theorem ite_some {α : Type} {c : Prop} [Decidable c] {a k : α} (e : (if c then some a else none) = some k) : c ∧ k = a := by
  split at e
  · rename_i q
    exact ⟨q, (Option.some.inj e).symm⟩
  · cases e
theorem ints_only {o : M.Op} (ho : o = .sub ∨ o = .fdiv ∨ o = .mod ∨ o = .pow ∨ o = .shr ∨ o = .band ∨ o = .bxor) : ∀ v w h, (∀ i j, v = M.Val.int i → w = M.Val.int j → False) → M.binV o v w h = .bad := by
  intro v w h n
  rcases ho with rfl | rfl | rfl | rfl | rfl | rfl | rfl <;> (cases v <;> cases w <;> first | rfl | exact (n _ _ rfl rfl).elim | (unfold M.binV; simp only))
theorem opR_sub : ∀ E, OpR X (binaryOp .Sub) (rVal L T E (M.binV .sub)) := by
  refine binR_int (C := fun _ _ => True) (g := fun i j => i - j) ?_ (fun i j k e => ⟨trivial, (Option.some.inj e).symm⟩) (ints_only (by simp))
  intro pins s σ H x y v u Q I rx ry ⟨i, j, e1, e2, _, q⟩
  exact op_sub pins s σ H x y v u Q I rx ry ⟨i, j, e1, e2, q⟩
theorem opR_fdiv : ∀ E, OpR X (binaryOp .FloorDiv) (rVal L T E (M.binV .fdiv)) := by
  exact binR_int op_fdiv (fun i j k e => ite_some (c := 0 < j ∧ j < 1073741824) e) (ints_only (by simp))
theorem opR_mod : ∀ E, OpR X (binaryOp .Mod) (rVal L T E (M.binV .mod)) := by
  exact binR_int op_mod (fun i j k e => ite_some e) (ints_only (by simp))
theorem opR_pow : ∀ E, OpR X (binaryOp .Pow) (rVal L T E (M.binV .pow)) := by
  exact binR_int op_pow (fun i j k e => ite_some (c := 0 ≤ j ∧ j ≤ 1000000 ∧ i.natAbs < 2 ^ 64) e) (ints_only (by simp))
theorem opR_shr : ∀ E, OpR X (binaryOp .RShift) (rVal L T E (M.binV .shr)) := by
  exact binR_int op_shr (fun i j k e => ite_some e) (ints_only (by simp))
theorem nn {i : Int} (h : 0 ≤ i) : ∃ n : Nat, i = (n : Int) := ⟨i.toNat, by omega⟩
theorem opR_band : ∀ E, OpR X (binaryOp .BitAnd) (rVal L T E (M.binV .band)) := by
  refine binR_int (C := fun i j => 0 ≤ i ∧ 0 ≤ j) (g := M.natAnd) ?_ (fun i j k e => ?_) (ints_only (by simp))
  · intro pins s σ H x y v u Q I rx ry ⟨i, j, e1, e2, ⟨h1, h2⟩, q⟩
    refine op_and pins s σ H x y v u Q I rx ry ⟨i, j, e1, e2, ?_⟩
    obtain ⟨a, rfl⟩ := nn h1
    obtain ⟨b, rfl⟩ := nn h2
    exact q
  · exact ite_some e
theorem opR_bxor : ∀ E, OpR X (binaryOp .BitXor) (rVal L T E (M.binV .bxor)) := by
  refine binR_int (C := fun i j => 0 ≤ i ∧ 0 ≤ j) (g := M.natXor) ?_ (fun i j k e => ?_) (ints_only (by simp))
  · intro pins s σ H x y v u Q I rx ry ⟨i, j, e1, e2, ⟨h1, h2⟩, q⟩
    refine op_xor pins s σ H x y v u Q I rx ry ⟨i, j, e1, e2, ?_⟩
    have z : Builtin.bitXor i j = M.natXor i j := Bits.bitXor_pp h1 h2
    show Q (.int (Builtin.bitXor i j)) H
    rw [z]
    exact q
  · exact ite_some e
theorem small64_ok {i : Int} (h : M.small64 i = true) : -(2 ^ 64) < i ∧ i < 2 ^ 64 := by
  unfold M.small64 at h
  simp only [Bool.and_eq_true, decide_eq_true_eq] at h
  exact h
theorem in62_ok {i : Int} (h : M.in62 i = true) : -(2 ^ 62) ≤ i ∧ i < 2 ^ 62 := by
  unfold M.in62 at h
  simp only [Bool.and_eq_true, decide_eq_true_eq] at h
  exact h
theorem repS_nil : ∀ n, M.repS n [] = []
  | 0 => rfl
  | n + 1 => repS_nil n
theorem repS_len (a : M.Sg) : ∀ n, (M.repS n a).length = n * a.length
  | 0 => by simp [M.repS]
  | n + 1 => by
    show (a ++ M.repS n a).length = _
    rw [List.length_append, repS_len a n, Nat.succ_mul, Nat.add_comm]
theorem fold_acc (a : M.Sg) : ∀ (n : Nat) (acc : List Nat), List.foldl (fun x1 x2 => x1 ++ x2) acc.toArray (List.replicate n (toS a).cps) = (acc ++ M.repS n a).toArray
  | 0, acc => by simp [M.repS]
  | n + 1, acc => by
    rw [List.replicate_succ, List.foldl_cons]
    have e : acc.toArray ++ (toS a).cps = (acc ++ a).toArray := by
      unfold toS
      simp
    rw [e, fold_acc a n]
    show _ = (acc ++ (a ++ M.repS n a)).toArray
    rw [List.append_assoc]
theorem repS_fold {n : Nat} {a : M.Sg} : (⟨List.foldl (fun x1 x2 => x1 ++ x2) #[] (List.replicate n (toS a).cps)⟩ : Str) = toS (M.repS n a) := by
  have e := fold_acc a n []
  rw [List.nil_append] at e
  show (⟨List.foldl (fun x1 x2 => x1 ++ x2) ([] : List Nat).toArray _⟩ : Str) = _
  rw [e]
  rfl
theorem opR_mul (hK : X.K = L.K) : ∀ E, OpR X (binaryOp .Mult) (rVal L T E (M.binV .mul)) := by
  intro E pins s σ H x y v u Q I rx ry ⟨m, h, a, b, S, ra, rb, p⟩
  unfold M.binV at p
  split at p
  · rename_i i j
    have ea : x = .int i := ra
    have eb : y = .int j := rb
    split at p
    · rename_i k q
      obtain ⟨c, rfl⟩ := ite_some q
      · refine op_mul pins s σ H x y v u Q I rx ry ⟨i, j, ea, eb, ?_, Post.val (v := M.Val.int (i * j)) S rfl p⟩
        rcases Bool.or_eq_true_iff.mp c with c | c
        · exact .inl (small64_ok c)
        · exact .inr (small64_ok c)
    · exact p.elim
  · simp only at p; exact p.elim
  · rename_i a n
    have ea : x = .str (toS a) := ra
    have eb : y = .int n := rb
    simp only at p
    split at p
    · rename_i c
      subst ea eb
      obtain ⟨t, rfl⟩ := rx
      obtain ⟨t', rfl⟩ := ry
      have b := in62_ok c.2
      have hl : (toS a).length * n.toNat ≤ sizeLine := by rw [toS_len, ← lineEq]; exact c.1
      have fin : ∀ k, EP X pins σ Q (.str (toS (M.repS n.toNat a)) k) { s with toks := s.toks + 1 } := fun k => ⟨.str _, H, I.tok _, ⟨k, rfl⟩, Post.val (v := M.Val.str (M.repS n.toNat a)) S rfl p⟩
      have fin0 : ∀ k, EP X pins σ Q (.str (toS (M.repS n.toNat a)) k) s := fun k => ⟨.str _, H, I, ⟨k, rfl⟩, Post.val (v := M.Val.str (M.repS n.toNat a)) S rfl p⟩
      refine PySem.P.mul_str (by rw [decide_eq_false (by omega), decide_eq_false (by omega)]; rfl) (fun h1 _ => ?_) (fun _ _ => decide_eq_false (Nat.not_lt.mpr hl)) ?_
      · have h2 : ((toS a).length : Int) * n ≤ 2 ^ 24 := by
          have e : n = (n.toNat : Int) := by omega
          rw [e, ← Int.natCast_mul]
          have z : (sizeLine : Nat) = 16777216 := sizeLine_eq
          omega
        have := Int.le_ediv_of_mul_le (a := ((toS a).length : Int)) (b := 2 ^ 63 - 1) (c := n) (by omega) (by omega)
        omega
      · by_cases h1 : n < 1
        · rw [if_pos h1]
          have e : n.toNat = 0 := by omega
          rw [e] at fin
          exact ⟨Nat.zero_le _, fin _⟩
        · rw [if_neg h1]
          by_cases h2 : (n == 1 || (toS a).length == 0) = true
          · rw [if_pos h2]
            have e : toS (M.repS n.toNat a) = toS a := by
              rcases Bool.or_eq_true_iff.mp h2 with q | q
              · have q : n = 1 := eq_of_beq q
                rw [q]
                show toS (a ++ []) = toS a
                rw [List.append_nil]
              · have q := eq_of_beq q
                rw [toS_len] at q
                obtain rfl := List.eq_nil_of_length_eq_zero q
                rw [repS_nil]
            rw [e] at fin0
            exact fin0 t
          · rw [if_neg h2]
            rw [repS_fold]
            exact ⟨by rw [toS_len, repS_len]; rw [toS_len] at hl; rw [Nat.mul_comm]; exact hl, fin _⟩
    · exact p.elim
  · simp only at p; exact p.elim
  · rename_i a n
    obtain ⟨A, xs, rfl, sa, r1⟩ := ra
    have eb : y = .int n := rb
    simp only at p
    split at p
    · rename_i c
      refine op_repT pins s σ H _ y v u Q I rx ry ⟨A, n, xs, rfl, eb, by rw [hK]; exact TupK.of sa, fun q => c.2.2.1 ((vne r1).mpr q), c.1, c.2.1, by rw [← r1.length]; exact c.2.2.2, ?_⟩
      exact Post.newT S (vrels.rep r1 _) p
    · exact p.elim
  · simp only at p; exact p.elim
  · rename_i l n
    obtain ⟨A, e1, rfl⟩ := ra
    have eb : y = .int n := rb
    split at p
    · rename_i xs q
      obtain ⟨ys, z, r⟩ := S.lst e1 q
      split at p
      · rename_i c
        refine op_rep pins s σ H _ y v u Q I rx ry ⟨A, n, ys, rfl, eb, z, ?_, ?_, ?_, ?_⟩
        · have := (in62_ok c.2).1; omega
        · have := (in62_ok c.2).2; omega
        · rw [← r.length, ← lineEq]; exact c.1
        · exact Post.newL S (vrels.rep r _) p
      · exact p.elim
    · exact p.elim
  · exact p.elim
theorem opR_add (hK : X.K = L.K) : ∀ E, OpR X (binaryOp .Add) (rVal L T E (M.binV .add)) := by
  intro E pins s σ H x y v u Q I rx ry ⟨m, h, a, b, S, ra, rb, p⟩
  unfold M.binV at p
  split at p
  · rename_i i j
    exact op_add pins s σ H x y v u Q I rx ry ⟨i, j, ra, rb, Post.val (v := M.Val.int (i + j)) S rfl p⟩
  · rename_i a b
    simp only at p
    split at p
    · rename_i c
      refine op_add_str pins s σ H x y v u Q I rx ry ⟨_, _, ra, rb, ?_, ?_⟩
      · rw [toS_len, toS_len, ← lineEq]; exact c
      · rw [← toS_app]
        exact Post.val (v := M.Val.str (a ++ b)) S rfl p
    · exact p.elim
  · simp only at p; exact p.elim
  · rename_i a b
    obtain ⟨A, xs, rfl, sa, r1⟩ := ra
    obtain ⟨B, ys, rfl, sb, r2⟩ := rb
    simp only at p
    split at p
    · rename_i c
      have r3 := vrels.app r1 r2
      refine op_catA pins s σ H _ _ v u Q I rx ry ⟨A, B, xs, ys, rfl, rfl, by rw [hK]; exact TupK.of sa, by rw [hK]; exact TupK.of sb, ?_, fun e => ?_, fun _ e => ?_, fun _ _ => ?_⟩
      · rw [← r1.length, ← r2.length, ← lineEq]; exact c
      · obtain rfl := (vne r1).mpr e
        exact Post.val (v := M.Val.tup ([] ++ b)) S ⟨B, ys, rfl, sb, r2⟩ p
      · obtain rfl := (vne r2).mpr e
        rw [List.append_nil] at p
        exact Post.val (v := M.Val.tup a) S ⟨A, xs, rfl, sa, r1⟩ p
      · exact Post.newT S r3 p
    · exact p.elim
  · simp only at p; exact p.elim
  · rename_i l b
    obtain ⟨A, e1, rfl⟩ := ra
    obtain ⟨B, e2, rfl⟩ := rb
    split at p
    · rename_i xs ys q1 q2
      obtain ⟨xs', z1, r1⟩ := S.lst e1 q1
      obtain ⟨ys', z2, r2⟩ := S.lst e2 q2
      split at p
      · rename_i c
        refine op_cat pins s σ H _ _ v u Q I rx ry ⟨A, B, xs', ys', rfl, rfl, z1, z2, ?_, Post.newL S (vrels.app r1 r2) p⟩
        rw [← r1.length, ← r2.length, ← lineEq]; exact c
      · exact p.elim
    · exact p.elim
  · simp only at p
    exact p.elim
  · exact p.elim
end
end Br
end

section
set_option Elab.async false
set_option linter.all false
set_option maxRecDepth 100000
set_option maxHeartbeats 1000000
/-! B4: comparisons, dicts, by values. -/
namespace Br
open PySem L2
section
variable {L : Lk} {T : M.Tab} {X : Cx} {m : Mp} {h : M.Heap} {H : Hp}

theorem scal_rel {v w : M.Val} {x y : V} (s : M.scal v w = true) (r1 : vrel L m H v x) (r2 : vrel L m H w y) : L2.scal x y = true ∧ decide (x = y) = M.Val.beq v w := by
  cases v <;> cases w <;> first
    | (exact absurd s Bool.false_ne_true)
    | (have e1 : x = _ := r1
       have e2 : y = _ := r2
       subst e1 e2
       refine ⟨rfl, ?_⟩
       unfold M.Val.beq
       first
         | rfl
         | (rename_i a b
            by_cases e : a = b
            · subst e; simp
            · first
                | (have : ¬ (V.int a = V.int b) := fun q => e (by injection q)
                   rw [decide_eq_false this, decide_eq_false e])
                | (have : ¬ (V.str (toS a) = V.str (toS b)) := fun q => e (toS_inj (by injection q))
                   rw [decide_eq_false this, decide_eq_false e])
                | (have : ¬ (V.bl a = V.bl b) := fun q => e (by injection q)
                   rw [decide_eq_false this]
                   cases a <;> cases b <;> simp_all)))

/-! ### data -/
mutual
def pD : M.D → PyData
  | .non => .none
  | .bl b => .bool b
  | .int i => .int i
  | .str s => .str (toS s)
  | .lst ds => .list (pDs ds)
  | .tup ds => .tuple (pDs ds)
def pDs : List M.D → List PyData
  | [] => []
  | d :: ds => pD d :: pDs ds
end
theorem toS_beq (a b : M.Sg) : (toS a == toS b) = decide (a = b) := by
  by_cases e : a = b
  · subst e; simp
  · rw [decide_eq_false e]
    exact beq_eq_false_iff_ne.mpr fun q => e (toS_inj q)
mutual
theorem eqv_pD : ∀ a b : M.D, PyData.eqv (pD a) (pD b) = M.D.eqv a b
  | .non, b => by cases b <;> simp only [pD, PyData.eqv, M.D.eqv]
  | .bl _, b => by cases b <;> simp only [pD, PyData.eqv, M.D.eqv]
  | .int _, b => by cases b <;> simp only [pD, PyData.eqv, M.D.eqv]
  | .str _, b => by cases b <;> simp only [pD, PyData.eqv, M.D.eqv, toS_beq]
  | .lst xs, b => by cases b <;> simp only [pD, PyData.eqv, M.D.eqv, eqv_pDs]
  | .tup xs, b => by cases b <;> simp only [pD, PyData.eqv, M.D.eqv, eqv_pDs]
theorem eqv_pDs : ∀ a b : List M.D, PyData.eqvAll (pDs a) (pDs b) = M.D.eqvs a b
  | [], [] => by simp only [pDs, PyData.eqvAll, M.D.eqvs]
  | [], _ :: _ => by simp only [pDs, PyData.eqvAll, M.D.eqvs]
  | _ :: _, [] => by simp only [pDs, PyData.eqvAll, M.D.eqvs]
  | x :: xs, y :: ys => by simp only [pDs, PyData.eqvAll, M.D.eqvs, eqv_pD x y, eqv_pDs xs ys]
end
theorem strOkB_ok {s : M.Sg} (e : M.strOkB s = true) : PyData.strOk (toS s) = true := by
  unfold M.strOkB at e
  obtain ⟨_, e⟩ := Bool.and_eq_true_iff.mp e
  unfold PyData.strOk toS
  simp only [List.all_toArray]
  refine List.all_eq_true.mpr fun c hc => ?_
  have := of_decide_eq_true (List.all_eq_true.mp e c hc)
  exact decide_eq_true (by omega)
theorem toDs_rel {f : M.Val → Option M.D} {n : Nat} (hf : ∀ {v x d}, f v = some d → vrel L m H v x → Dp L.K H x (pD d) ∧ (pD d).canLay0 = true ∧ (pD d).depth ≤ n) :
    ∀ {vs : List M.Val} {xs : List V} {ds : List M.D}, M.toDs f vs = some ds → vrels L m H vs xs → DpAll L.K H xs (pDs ds) ∧ PyData.canLayAll0 (pDs ds) = true ∧ PyData.depthAll (pDs ds) ≤ n
  | [], xs, ds, e, r => by
    have e1 : xs = [] := r
    cases e
    subst e1
    exact ⟨DpAll.nil, by simp only [pDs, PyData.canLayAll0], by simp only [pDs, PyData.depthAll]; omega⟩
  | v :: vs, xs, ds, e, r => by
    obtain ⟨y, ys, e1, r1, r2⟩ := r
    subst e1
    unfold M.toDs at e
    split at e
    · rename_i d ds' e2 e3
      cases e
      obtain ⟨a1, a2, a3⟩ := hf e2 r1
      obtain ⟨b1, b2, b3⟩ := toDs_rel hf e3 r2
      exact ⟨DpAll.cons a1 b1, by simp only [pDs, PyData.canLayAll0, a2, b2, Bool.and_self], by simp only [pDs, PyData.depthAll]; omega⟩
    · cases e
theorem toD_rel (S : Sim L m h H) : ∀ {n : Nat} {v : M.Val} {x : V} {d : M.D}, M.toD h n v = some d → vrel L m H v x → Dp L.K H x (pD d) ∧ (pD d).canLay0 = true ∧ (pD d).depth ≤ n
  | 0, _, _, _, e, _ => by cases e
  | n + 1, v, x, d, e, r => by
    unfold M.toD at e
    cases v with
    | non => cases e; cases (show x = .non from r); exact ⟨Dp.non, by simp only [pD, PyData.canLay0], by simp only [pD, PyData.depth]; omega⟩
    | bl b => cases e; cases (show x = .bl b from r); exact ⟨Dp.bl b, by simp only [pD, PyData.canLay0], by simp only [pD, PyData.depth]; omega⟩
    | int i => cases e; cases (show x = .int i from r); exact ⟨Dp.int i, by simp only [pD, PyData.canLay0], by simp only [pD, PyData.depth]; omega⟩
    | str s =>
      simp only at e
      split at e
      · rename_i q
        cases e
        cases (show x = .str (toS s) from r)
        exact ⟨Dp.str _, by simp only [pD, PyData.canLay0]; exact strOkB_ok q, by simp only [pD, PyData.depth]; omega⟩
      · cases e
    | tup vs =>
      obtain ⟨ds, e1, rfl⟩ := Option.map_eq_some_iff.mp e
      obtain ⟨A, ys, rfl, s, r1⟩ := r
      obtain ⟨b1, b2, b3⟩ := toDs_rel (fun e r => toD_rel S (n := n) e r) e1 r1
      exact ⟨Dp.tup (TupK.of s) b1, by simp only [pD, PyData.canLay0, b2], by simp only [pD, PyData.depth]; omega⟩
    | ref a =>
      simp only at e
      split at e
      · rename_i vs q
        obtain ⟨ds, e1, rfl⟩ := Option.map_eq_some_iff.mp e
        obtain ⟨A, e2, rfl⟩ := r
        obtain ⟨ys, z, r1⟩ := S.lst e2 q
        obtain ⟨b1, b2, b3⟩ := toDs_rel (fun e r => toD_rel S (n := n) e r) e1 r1
        exact ⟨Dp.lst (SqL.of z) b1, by simp only [pD, PyData.canLay0, b2], by simp only [pD, PyData.depth]; omega⟩
      · cases e
    | glb n => cases e

def rCmpV (L : Lk) (f : M.Val → M.Val → M.Heap → Option Bool) : R2 := fun x y H Q => ∃ m h v w r, Sim L m h H ∧ vrel L m H v x ∧ vrel L m H w y ∧ f v w h = some r ∧ Q (.bl r) H
theorem shaped_of {d : M.D} (c : (pD d).canLay0 = true) (z : (pD d).depth ≤ 8) : SeqAt.shaped (pD d) = true := by
  unfold SeqAt.shaped
  rw [c, decide_eq_true (by omega)]
  rfl
theorem cmpR_eq (hK : X.K = L.K) (hu : X.A.units + 64 < cLine) : OpR X (compareOp .Eq) (rCmpV L (M.cmpV .eq)) := by
  intro pins s σ H x y v u Q I rx ry ⟨m, h, a, b, r, S, ra, rb, e, q⟩
  have e : M.eqV h M.eqDepth a b = some r := e
  unfold M.eqV at e
  split at e
  · rename_i c
    cases e
    obtain ⟨h1, h2⟩ := scal_rel c ra rb
    exact op_eq pins s σ H x y v u Q I rx ry ⟨h1, by rw [h2]; exact q⟩
  · split at e
    · rename_i d1 d2 e1 e2
      cases e
      obtain ⟨a1, a2, a3⟩ := toD_rel S e1 ra
      obtain ⟨b1, b2, b3⟩ := toD_rel S e2 rb
      refine op_eqD hu pins s σ H x y v u Q I rx ry ⟨pD d1, pD d2, by rw [hK]; exact a1, by rw [hK]; exact b1, shaped_of a2 a3, shaped_of b2 b3, ?_⟩
      rw [eqv_pD]
      exact q
    · cases e
theorem cmpR_ne (hK : X.K = L.K) (hu : X.A.units + 64 < cLine) : OpR X (compareOp .NotEq) (rCmpV L (M.cmpV .ne)) := by
  intro pins s σ H x y v u Q I rx ry ⟨m, h, a, b, r, S, ra, rb, e, q⟩
  obtain ⟨r', e0, rfl⟩ := Option.map_eq_some_iff.mp (show (M.eqV h M.eqDepth a b).map (!·) = some r from e)
  unfold M.eqV at e0
  split at e0
  · rename_i c
    cases e0
    obtain ⟨h1, h2⟩ := scal_rel c ra rb
    exact op_ne pins s σ H x y v u Q I rx ry ⟨h1, by rw [h2]; exact q⟩
  · split at e0
    · rename_i d1 d2 e1 e2
      cases e0
      obtain ⟨a1, a2, a3⟩ := toD_rel S e1 ra
      obtain ⟨b1, b2, b3⟩ := toD_rel S e2 rb
      refine op_neD hu pins s σ H x y v u Q I rx ry ⟨pD d1, pD d2, by rw [hK]; exact a1, by rw [hK]; exact b1, shaped_of a2 a3, shaped_of b2 b3, ?_⟩
      rw [eqv_pD]
      exact q
    · cases e0

theorem lexLt_eq : ∀ a b : List Int, HT.lexLt a b = M.lexLt a b
  | [], [] => rfl
  | [], _ :: _ => rfl
  | _ :: _, [] => rfl
  | x :: xs, y :: ys => by
    rw [HT.lexLt_cons, lexLt_eq xs ys]
    rfl
theorem ints_rel : ∀ {vs : List M.Val} {ns : List Int} {ys : List V}, M.intsOf vs = some ns → vrels L m H vs ys → ys = ns.map V.int ∧ vs = ns.map M.Val.int
  | [], ns, ys, e, r => by
    cases e
    have e1 : ys = [] := r
    exact ⟨e1, rfl⟩
  | v :: vs, ns, ys, e, r => by
    cases v with
    | int i =>
      obtain ⟨ns', e1, rfl⟩ := Option.map_eq_some_iff.mp (show (M.intsOf vs).map (i :: ·) = some ns from e)
      obtain ⟨y, t, rfl, r1, r2⟩ := r
      obtain ⟨h1, h2⟩ := ints_rel e1 r2
      have e3 : y = .int i := r1
      exact ⟨by rw [e3, h1]; rfl, by rw [h2]; rfl⟩
    | _ => cases e
theorem cmpR_lt (hK : X.K = L.K) (hu : X.A.units < cLine) : OpR X (compareOp .Lt) (rCmpV L (M.cmpV .lt)) := by
  intro pins s σ H x y v u Q I rx ry ⟨m, h, a, b, r, S, ra, rb, e, q⟩
  unfold M.cmpV at e
  simp only at e
  split at e
  · cases e
    exact op_lt pins s σ H x y v u Q I rx ry ⟨_, _, ra, rb, q⟩
  · rename_i vs ws
    obtain ⟨A, xs, rfl, sa, r1⟩ := ra
    obtain ⟨B, ys, rfl, sb, r2⟩ := rb
    unfold M.ltInts at e
    split at e
    · rename_i ns ms e1 e2
      cases e
      obtain ⟨h1, _⟩ := ints_rel e1 r1
      obtain ⟨h2, _⟩ := ints_rel e2 r2
      refine op_ltT hu pins s σ H _ _ v u Q I rx ry ⟨A, B, ns, ms, rfl, rfl, ?_, ?_, ?_⟩
      · rw [hK, ← h1]; exact TupK.of sa
      · rw [hK, ← h2]; exact TupK.of sb
      · rw [lexLt_eq]; exact q
    · cases e
  · cases e
theorem cmpR_le : OpR X (compareOp .LtE) (rCmpV L (M.cmpV .le)) := by
  intro pins s σ H x y v u Q I rx ry ⟨m, h, a, b, r, S, ra, rb, e, q⟩
  unfold M.cmpV at e
  simp only at e
  split at e
  · cases e
    exact op_le pins s σ H x y v u Q I rx ry ⟨_, _, ra, rb, q⟩
  · cases e
theorem cmpR_gt : OpR X (compareOp .Gt) (rCmpV L (M.cmpV .gt)) := by
  intro pins s σ H x y v u Q I rx ry ⟨m, h, a, b, r, S, ra, rb, e, q⟩
  unfold M.cmpV at e
  simp only at e
  split at e
  · cases e
    exact op_gt pins s σ H x y v u Q I rx ry ⟨_, _, ra, rb, q⟩
  · cases e
theorem cmpR_ge : OpR X (compareOp .GtE) (rCmpV L (M.cmpV .ge)) := by
  intro pins s σ H x y v u Q I rx ry ⟨m, h, a, b, r, S, ra, rb, e, q⟩
  unfold M.cmpV at e
  simp only at e
  split at e
  · cases e
    exact op_ge pins s σ H x y v u Q I rx ry ⟨_, _, ra, rb, q⟩
  · cases e
end
end Br
end

section
set_option Elab.async false
set_option linter.all false
set_option maxRecDepth 100000
set_option maxHeartbeats 1000000
/-! B5: dicts by values; in, not in; items. -/
namespace Br
open PySem L2
/-- r and r' are both absent, or related -/
def optRel (L : Lk) (m : Mp) (H : Hp) : Option M.Val → Option V → Prop
  | none, none => True
  | some v, some x => vrel L m H v x
  | _, _ => False
section
variable {L : Lk} {T : M.Tab} {X : Cx} {m : Mp} {h : M.Heap} {H : Hp}
theorem atom_rel {v : M.Val} {k : M.K} {x : V} (e : M.atomOf v = some k) (r : vrel L m H v x) : x = kV (kOf k) := by
  cases v with
  | int i => cases e; exact r
  | str s => cases e; exact r
  | _ => cases e
theorem atoms_rel : ∀ {vs : List M.Val} {ks : List M.K} {xs : List V}, M.atomsOf vs = some ks → vrels L m H vs xs → xs = (ks.map kOf).map kV
  | [], ks, xs, e, r => by
    cases e
    exact r
  | v :: vs, ks, xs, e, r => by
    obtain ⟨y, t, rfl, r1, r2⟩ := r
    unfold M.atomsOf at e
    split at e
    · rename_i k ks' e1 e2
      cases e
      rw [atom_rel e1 r1, atoms_rel e2 r2]
      rfl
    · cases e
theorem lookK_rel {κ κ' : Type} [DecidableEq κ] [DecidableEq κ'] {f : κ → κ'} (hf : ∀ a b, f a = f b → a = b) {k : κ} : ∀ {kvs : List (κ × M.Val)} {ys : List (κ' × V)}, kvrel (L := L) f m H kvs ys → optRel L m H (M.lookK k kvs) (valV ys (f k))
  | [], ys, r => by
    have e : ys = [] := r
    rw [e]
    trivial
  | (k', v) :: rest, ys, r => by
    obtain ⟨y, t, rfl, r1, r2⟩ := r
    unfold M.lookK
    by_cases e : k = k'
    · rw [if_pos e, valV_pos (p := (f k', y)) (by rw [e])]
      exact r1
    · rw [if_neg e, valV_neg (p := (f k', y)) (fun q => e (hf _ _ q).symm)]
      exact lookK_rel hf r2
theorem kOfs_inj : ∀ {a b : List M.K}, a.map kOf = b.map kOf → a = b
  | [], [], _ => rfl
  | [], _ :: _, e => by cases e
  | _ :: _, [], e => by cases e
  | x :: xs, y :: ys, e => by
    simp only [List.map_cons, List.cons.injEq] at e
    rw [kOf_inj e.1, kOfs_inj e.2]
theorem dGet_rel {o : M.Obj} {k : M.Val} {r : Option M.Val} {A : Addr} {y : V} (ro : orel (L := L) m H o A) (e : M.dGet o k = some r) (rk : vrel L m H k y) : ∃ r', DGet H A y r' ∧ optRel L m H r r' := by
  cases o with
  | dct kvs =>
    obtain ⟨a, e1, rfl⟩ := Option.map_eq_some_iff.mp (show (M.atomOf k).map (fun a => M.lookK a kvs) = some r from e)
    obtain ⟨ys, z, rr⟩ := ro
    have ey := atom_rel e1 rk
    subst ey
    exact ⟨_, DGet.k z, lookK_rel (fun _ _ => kOf_inj) rr⟩
  | dcT kvs =>
    cases k with
    | tup vs =>
      have e2 : (if M.isStat vs = true then none else (M.atomsOf vs).map fun a => M.lookK a kvs) = some r := e
      split at e2
      · cases e2
      · rename_i ns
        obtain ⟨ks, e1, rfl⟩ := Option.map_eq_some_iff.mp e2
        obtain ⟨ys, z, rr⟩ := ro
        obtain ⟨B, xs, rfl, st, rx⟩ := rk
        rcases st with st | ⟨_, q⟩
        · have ex := atoms_rel e1 rx
          subst ex
          exact ⟨_, DGet.t z st, lookK_rel (fun _ _ => kOfs_inj) rr⟩
        · exact absurd q ns
    | _ => cases e
  | lst _ => cases e
  | ins _ _ => cases e
theorem optRel.some {r : Option M.Val} {r' : Option V} (q : optRel L m H r r') : r.isSome = r'.isSome := by
  cases r <;> cases r' <;> first | rfl | exact q.elim
theorem kvrel.any {κ κ' : Type} [DecidableEq κ] [DecidableEq κ'] {f : κ → κ'} (hf : ∀ a b, f a = f b → a = b) {k : κ} : ∀ {kvs : List (κ × M.Val)} {ys : List (κ' × V)}, kvrel (L := L) f m H kvs ys → (ys.any fun p => decide (p.1 = f k)) = kvs.any fun p => decide (p.1 = k)
  | [], ys, r => by
    have e : ys = [] := r
    rw [e]
    rfl
  | (k', v) :: rest, ys, r => by
    obtain ⟨y, t, rfl, r1, r2⟩ := r
    rw [List.any_cons, List.any_cons, kvrel.any hf r2]
    by_cases e : k' = k
    · subst e; simp
    · rw [decide_eq_false e, decide_eq_false fun q => e (hf _ _ q)]
theorem kvrel.map {κ κ' : Type} [DecidableEq κ] [DecidableEq κ'] {f : κ → κ'} (hf : ∀ a b, f a = f b → a = b) {k : κ} {v : M.Val} {x : V} (rv : vrel L m H v x) : ∀ {kvs : List (κ × M.Val)} {ys : List (κ' × V)}, kvrel (L := L) f m H kvs ys →
    kvrel (L := L) f m H (kvs.map fun p => if p.1 = k then (p.1, v) else p) (ys.map fun p => if p.1 = f k then (p.1, x) else p)
  | [], ys, r => by
    have e : ys = [] := r
    rw [e]
    rfl
  | (k', w) :: rest, ys, r => by
    obtain ⟨y, t, rfl, r1, r2⟩ := r
    rw [List.map_cons, List.map_cons]
    by_cases e : k' = k
    · rw [if_pos e, if_pos (show f k' = f k by rw [e])]
      exact ⟨x, _, rfl, rv, kvrel.map hf rv r2⟩
    · rw [if_neg e, if_neg (fun q => e (hf _ _ q))]
      exact ⟨y, _, rfl, r1, kvrel.map hf rv r2⟩
theorem kvrel.snoc {κ κ' : Type} {f : κ → κ'} {k : κ} {v : M.Val} {x : V} (rv : vrel L m H v x) : ∀ {kvs : List (κ × M.Val)} {ys : List (κ' × V)}, kvrel (L := L) f m H kvs ys → kvrel (L := L) f m H (kvs ++ [(k, v)]) (ys ++ [(f k, x)])
  | [], ys, r => by
    have e : ys = [] := r
    rw [e]
    exact ⟨x, [], rfl, rv, rfl⟩
  | (k', w) :: rest, ys, r => by
    obtain ⟨y, t, rfl, r1, r2⟩ := r
    exact ⟨y, _, rfl, r1, kvrel.snoc rv r2⟩
theorem kvrel.length {κ κ' : Type} {f : κ → κ'} : ∀ {kvs : List (κ × M.Val)} {ys : List (κ' × V)}, kvrel (L := L) f m H kvs ys → kvs.length = ys.length
  | [], ys, r => by
    have e : ys = [] := r
    rw [e]
    rfl
  | (k', w) :: rest, ys, r => by
    obtain ⟨y, t, rfl, r1, r2⟩ := r
    rw [List.length_cons, List.length_cons, kvrel.length r2]
theorem putK_rel {κ κ' : Type} [DecidableEq κ] [DecidableEq κ'] {f : κ → κ'} (hf : ∀ a b, f a = f b → a = b) {k : κ} {v : M.Val} {x : V} (rv : vrel L m H v x) {kvs : List (κ × M.Val)} {ys : List (κ' × V)} (r : kvrel (L := L) f m H kvs ys) :
    kvrel (L := L) f m H (M.putK k v kvs) (L2.putK ys (f k) x) := by
  unfold M.putK L2.putK
  rw [kvrel.any hf r]
  cases kvs.any fun p => decide (p.1 = k) with
  | true => exact kvrel.map hf rv r
  | false => exact kvrel.snoc rv r
/-- d[k] = v -/
theorem dPut_rel {o o' : M.Obj} {k v : M.Val} {a : Nat} {A : Addr} {y x : V} (S : Sim L m h H) (ea : m a = some A) (ro : orel (L := L) m H o A) (e : M.dPut o k v = some o') (rk : vrel L m H k y) (rv : vrel L m H v x) :
    ∃ H', DPut H A y x H' ∧ Ext m H m H' ∧ Sim L m (h.set a o') H' := by
  cases o with
  | dct kvs =>
    have e2 : (if kvs.length < M.sizeLine then (M.atomOf k).map fun a => M.Obj.dct (M.putK a v kvs) else none) = some o' := e
    split at e2
    · rename_i z
      obtain ⟨b, e1, rfl⟩ := Option.map_eq_some_iff.mp e2
      obtain ⟨ys, q, rr⟩ := ro
      have ey := atom_rel e1 rk
      subst ey
      have x0 : Ext m H m (upd H A (.dK (L2.putK ys (kOf b) x))) := Ext.write S ea
      exact ⟨_, DPut.k q (by rw [← kvrel.length rr, ← lineEq]; exact z), x0, Sim.write S ea ⟨_, upd_same, kvrel.ext x0 (putK_rel (fun _ _ => kOf_inj) rv rr)⟩⟩
    · cases e2
  | dcT kvs =>
    cases k with
    | tup vs =>
      have e2 : (if M.isStat vs = false ∧ kvs.length < M.sizeLine then (M.atomsOf vs).map fun a => M.Obj.dcT (M.putK a v kvs) else none) = some o' := e
      split at e2
      · rename_i z
        obtain ⟨ks, e1, rfl⟩ := Option.map_eq_some_iff.mp e2
        obtain ⟨ys, q, rr⟩ := ro
        obtain ⟨B, xs, rfl, st, rx⟩ := rk
        rcases st with st | ⟨_, w⟩
        · have ex := atoms_rel e1 rx
          subst ex
          have x0 : Ext m H m (upd H A (.dT (L2.putK ys (ks.map kOf) x))) := Ext.write S ea
          exact ⟨_, DPut.t q st (by rw [← kvrel.length rr, ← lineEq]; exact z.2), x0, Sim.write S ea ⟨_, upd_same, kvrel.ext x0 (putK_rel (fun _ _ => kOfs_inj) rv rr)⟩⟩
        · rw [z.1] at w; cases w
      · cases e2
    | _ => cases e
  | lst _ => cases e
  | ins _ _ => cases e

/-! ### in -/
theorem flat_rel {v : M.Val} {x : V} (e : M.flat v = true) (r : vrel L m H v x) : flatV x = true := by
  cases v with
  | non => cases (show x = .non from r); rfl
  | bl b => cases (show x = .bl b from r); rfl
  | int i => cases (show x = .int i from r); rfl
  | str s => cases (show x = .str (toS s) from r); rfl
  | _ => cases e
theorem flats_rel : ∀ {vs : List M.Val} {xs : List V}, vs.all M.flat = true → vrels L m H vs xs → xs.all flatV = true
  | [], xs, _, r => by
    have e : xs = [] := r
    rw [e]
    rfl
  | v :: vs, xs, e, r => by
    obtain ⟨y, t, rfl, r1, r2⟩ := r
    rw [List.all_cons, Bool.and_eq_true] at e
    rw [List.all_cons, flat_rel e.1 r1, flats_rel e.2 r2]
    rfl
theorem scal_eqV {v w : M.Val} {x y : V} (s : M.scal v w = true) (r1 : vrel L m H v x) (r2 : vrel L m H w y) : L2.eqV y x = M.Val.beq v w := by
  cases v <;> cases w <;> first
    | (exact absurd s Bool.false_ne_true)
    | (have e1 : x = _ := r1
       have e2 : y = _ := r2
       subst e1 e2
       unfold M.Val.beq L2.eqV
       first
         | rfl
         | (rename_i a b
            by_cases e : a = b
            · subst e; simp
            · first
                | (rw [decide_eq_false e]; exact beq_eq_false_iff_ne.mpr fun q => e q.symm)
                | (rw [decide_eq_false e]; exact beq_eq_false_iff_ne.mpr fun q => e (toS_inj q).symm)
                | (cases a <;> cases b <;> simp_all)))
theorem memV_rel {v : M.Val} {x : V} (r1 : vrel L m H v x) : ∀ {vs : List M.Val} {xs : List V} {r : Bool}, M.memV v vs = some r → vrels L m H vs xs → inV x xs = r
  | [], xs, r, e, rs => by
    have e1 : xs = [] := rs
    cases e
    rw [e1]
    rfl
  | w :: vs, xs, r, e, rs => by
    obtain ⟨y, t, rfl, q1, q2⟩ := rs
    have e2 : (if M.scal v w = true then (if M.Val.beq v w = true then some true else M.memV v vs) else none) = some r := e
    split at e2
    · rename_i sc
      show (L2.eqV y x || inV x t) = r
      rw [scal_eqV sc r1 q1]
      split at e2
      · rename_i b
        cases e2
        rw [b]
        rfl
      · rename_i b
        rw [Bool.not_eq_true] at b
        rw [b, Bool.false_or]
        exact memV_rel r1 e2 q2
    · cases e2
/-- what the tables of the module answer -/
structure Glb (L : Lk) (X : Cx) : Prop where
  in_ : OpR X (compareOp .In) fun x y H Q => ∃ n o k r m, n ≠ 6 ∧ L.hg n = true ∧ M.glbObj n = some o ∧ M.dGet o k = some r ∧ vrel L m H k x ∧ y = .ref (L.gA n) ∧ Q (.bl r.isSome) H
  notIn : OpR X (compareOp .NotIn) fun x y H Q => ∃ n o k r m, n ≠ 6 ∧ L.hg n = true ∧ M.glbObj n = some o ∧ M.dGet o k = some r ∧ vrel L m H k x ∧ y = .ref (L.gA n) ∧ Q (.bl (!r.isSome)) H
  item : IxR X fun x y H Q => ∃ n o k v m, n ≠ 6 ∧ L.hg n = true ∧ M.glbObj n = some o ∧ M.dGet o k = some (some v) ∧ vrel L m H k y ∧ x = .ref (L.gA n) ∧ ∀ z, (∀ m, vrel L m H v z) → Q z H
  typ : ∀ n, n ≠ 6 → L.hg n = true → ((∃ kvs, M.glbObj n = some (.dct kvs)) ∨ ∃ kvs, M.glbObj n = some (.dcT kvs)) → ∀ (pins : List (Addr × Obj)) (s : Shared) (σ : St) (H : Hp), Inv X pins σ H s →
    s.TypeIs (.ref (L.gA n)) "dict" ∧ ∀ q, Value.ref (L.gA n) = .ref q → ∃ ob, s.heap.get? q = some ob ∧ ob.dict = none
  get : MtR X "dict.get" fun x xs H Q => ∃ n o k r m y d, n ≠ 6 ∧ L.hg n = true ∧ M.glbObj n = some o ∧ M.dGet o k = some r ∧ vrel L m H k y ∧ x = .ref (L.gA n) ∧ ((xs = [y] ∧ d = .non) ∨ xs = [y, d]) ∧
    ∀ z, (match r with
      | some v => ∀ m, vrel L m H v z
      | none => z = d) → Q z H
theorem sign_in {k : Nat} {s : M.Sg} : decide (k ∈ (toS s).cps.toList) = s.contains k := by
  unfold toS
  simp
theorem sign_of (k : Nat) : toS [k] = ⟨#[k]⟩ := rfl
theorem cmpR_in (hK : X.K = L.K) (hu : X.A.units + 1 < cLine) (G : Glb L X) : OpR X (compareOp .In) (rCmpV L (M.cmpV .isin)) := by
  intro pins s σ H x y v u Q I rx ry ⟨m, h, a, b, r, S, ra, rb, e, q⟩
  have e : M.isinV h a b = some r := e
  cases b with
  | tup vs =>
    have e2 : (if (M.flat a && vs.all M.flat) = true then M.memV a vs else none) = some r := e
    split at e2
    · rename_i c
      rw [Bool.and_eq_true] at c
      obtain ⟨A, ys, rfl, st, r1⟩ := rb
      refine op_in_seq pins s σ H x _ v u Q I rx ry ⟨A, ys, rfl, .inr (by rw [hK]; exact TupK.of st), flat_rel c.1 ra, flats_rel c.2 r1, ?_⟩
      rw [if_neg Bool.false_ne_true, memV_rel ra e2 r1]
      exact q
    · cases e2
  | str z =>
    cases a with
    | str w =>
      cases w with
      | nil => cases e
      | cons k rest =>
        cases rest with
        | nil =>
          cases e
          refine op_in_sign pins s σ H x y v u Q I rx ry ⟨k, toS z, ra, rb, ?_⟩
          rw [sign_in]
          exact q
        | cons _ _ => cases e
    | _ => cases e
  | ref a' =>
    obtain ⟨A, ea, rfl⟩ := rb
    obtain ⟨o, eo, ro⟩ := S.obj a' A ea
    unfold M.isinV at e
    simp only [eo] at e
    cases o with
    | lst vs =>
      have e2 : (if (M.flat a && vs.all M.flat) = true then M.memV a vs else none) = some r := e
      split at e2
      · rename_i c
        rw [Bool.and_eq_true] at c
        obtain ⟨ys, z, r1⟩ := ro
        refine op_in_seq pins s σ H x _ v u Q I rx ry ⟨A, ys, rfl, .inl (SqL.of z), flat_rel c.1 ra, flats_rel c.2 r1, ?_⟩
        rw [if_neg Bool.false_ne_true, memV_rel ra e2 r1]
        exact q
      · cases e2
    | dct kvs =>
      obtain ⟨r0, e1, rfl⟩ := Option.map_eq_some_iff.mp e
      obtain ⟨r', g, rr⟩ := dGet_rel ro e1 ra
      cases ry
      exact d_in hu I g rx fun s' I' => ⟨.bl _, H, I', rfl, by rw [← rr.some]; exact q⟩
    | dcT kvs =>
      obtain ⟨r0, e1, rfl⟩ := Option.map_eq_some_iff.mp e
      obtain ⟨r', g, rr⟩ := dGet_rel ro e1 ra
      cases ry
      exact d_in hu I g rx fun s' I' => ⟨.bl _, H, I', rfl, by rw [← rr.some]; exact q⟩
    | ins _ _ => cases e
  | glb n =>
    obtain ⟨eb, hn⟩ := rb
    obtain ⟨o, eo, e⟩ := Option.bind_eq_some_iff.mp (show ((M.glbObj n).bind fun o => (M.dGet o a).map (·.isSome)) = some r from e)
    obtain ⟨r0, e1, rfl⟩ := Option.map_eq_some_iff.mp e
    rcases hn with rfl | hn
    · cases eo
    · refine G.in_ pins s σ H x y v u Q I rx ry ⟨n, o, a, r0, m, ?_, hn, eo, e1, ra, eb, q⟩
      rintro rfl
      cases eo
  | _ => cases e
theorem cmpR_notIn (hK : X.K = L.K) (hu : X.A.units + 1 < cLine) (G : Glb L X) : OpR X (compareOp .NotIn) (rCmpV L (M.cmpV .notin)) := by
  intro pins s σ H x y v u Q I rx ry ⟨m, h, a, b, r', S, ra, rb, e, q⟩
  obtain ⟨r, e0, rfl⟩ := Option.map_eq_some_iff.mp (show (M.isinV h a b).map (!·) = some r' from e)
  cases b with
  | tup vs =>
    have e2 : (if (M.flat a && vs.all M.flat) = true then M.memV a vs else none) = some r := e0
    split at e2
    · rename_i c
      rw [Bool.and_eq_true] at c
      obtain ⟨A, ys, rfl, st, r1⟩ := rb
      refine op_notIn_seq pins s σ H x _ v u Q I rx ry ⟨A, ys, rfl, .inr (by rw [hK]; exact TupK.of st), flat_rel c.1 ra, flats_rel c.2 r1, ?_⟩
      rw [if_pos rfl, memV_rel ra e2 r1]
      exact q
    · cases e2
  | str z =>
    cases a with
    | str w =>
      cases w with
      | nil => cases e0
      | cons k rest =>
        cases rest with
        | nil =>
          have e3 : some (z.contains k) = some r := e0
          cases e3
          refine op_notIn_sign pins s σ H x y v u Q I rx ry ⟨k, toS z, ra, rb, ?_⟩
          rw [sign_in]
          exact q
        | cons _ _ => cases e0
    | _ => cases e0
  | ref a' =>
    obtain ⟨A, ea, rfl⟩ := rb
    obtain ⟨o, eo, ro⟩ := S.obj a' A ea
    have e4 : M.isinV h a (.ref a') = some r := e0
    unfold M.isinV at e4
    simp only [eo] at e4
    cases o with
    | lst vs =>
      have e2 : (if (M.flat a && vs.all M.flat) = true then M.memV a vs else none) = some r := e4
      split at e2
      · rename_i c
        rw [Bool.and_eq_true] at c
        obtain ⟨ys, z, r1⟩ := ro
        refine op_notIn_seq pins s σ H x _ v u Q I rx ry ⟨A, ys, rfl, .inl (SqL.of z), flat_rel c.1 ra, flats_rel c.2 r1, ?_⟩
        rw [if_pos rfl, memV_rel ra e2 r1]
        exact q
      · cases e2
    | dct kvs =>
      obtain ⟨r0, e1, rfl⟩ := Option.map_eq_some_iff.mp e4
      obtain ⟨r', g, rr⟩ := dGet_rel ro e1 ra
      cases ry
      exact d_notIn hu I g rx fun s' I' => ⟨.bl _, H, I', rfl, by rw [← rr.some]; exact q⟩
    | dcT kvs =>
      obtain ⟨r0, e1, rfl⟩ := Option.map_eq_some_iff.mp e4
      obtain ⟨r', g, rr⟩ := dGet_rel ro e1 ra
      cases ry
      exact d_notIn hu I g rx fun s' I' => ⟨.bl _, H, I', rfl, by rw [← rr.some]; exact q⟩
    | ins _ _ => cases e4
  | glb n =>
    obtain ⟨eb, hn⟩ := rb
    have e4 : ((M.glbObj n).bind fun o => (M.dGet o a).map (·.isSome)) = some r := e0
    obtain ⟨o, eo, e5⟩ := Option.bind_eq_some_iff.mp e4
    obtain ⟨r0, e1, rfl⟩ := Option.map_eq_some_iff.mp e5
    rcases hn with rfl | hn
    · cases eo
    · refine G.notIn pins s σ H x y v u Q I rx ry ⟨n, o, a, r0, m, ?_, hn, eo, e1, ra, eb, q⟩
      rintro rfl
      cases eo
  | _ => cases e0
end
end Br
end

section
set_option Elab.async false
set_option linter.all false
set_option maxRecDepth 100000
set_option maxHeartbeats 1000000
/-! B6: items, slices, displays, tests. -/
namespace Br
open PySem L2
section
variable {L : Lk} {T : M.Tab} {X : Cx} {m : Mp} {h : M.Heap} {H : Hp}
theorem ixN_eq (n : Nat) (i : Int) : L2.ixN n i = M.ixN n i := by
  unfold L2.ixN M.ixN
  split
  · rfl
  · split <;> split <;> first | rfl | omega
theorem at_rel {xs : List M.Val} {ys : List V} {i : Int} {v : M.Val} (r : vrels L m H xs ys) (e : ((M.ixN xs.length i).bind fun k => xs[k]?) = some v) : ∃ x, atI ys i = some x ∧ vrel L m H v x := by
  obtain ⟨k, e1, e2⟩ := Option.bind_eq_some_iff.mp e
  obtain ⟨x, e3, r1⟩ := r.get e2
  refine ⟨x, ?_, r1⟩
  unfold atI
  rw [← r.length, ixN_eq, e1]
  exact e3
theorem SqI.sql {K : PySem.W.Frag} {A : Addr} {ys : List V} (q : SqI K H A ys) : SqL K H A ys := by
  rcases q with ⟨o, q⟩ | q
  · exact .inl (.inr ⟨o, q⟩)
  · exact .inr q
def ixF (x y : M.Val) (h : M.Heap) : M.R M.Val := match M.ixV h x y with
  | some v => .ok v h
  | none => .bad
theorem glb6 {n : Nat} {o : M.Obj} (e : M.glbObj n = some o) : n ≠ 6 := by
  rintro rfl
  cases e
/-- a value of a table is no object's -/
def flatish : M.Val → Bool
  | .ref _ => false
  | _ => true
theorem ixR_all {E : XK} (hK : X.K = L.K) (hu : X.A.units + 1 < cLine) (G : Glb L X) : IxR X (rVal L T E ixF) := by
  intro value slice pins s σ H x y v u Q I rx ry ⟨m, h, a, b, S, ra, rb, p⟩ hs
  unfold ixF at p
  cases e : M.ixV h a b with
  | none => simp only [e] at p; exact p.elim
  | some r =>
    simp only [e] at p
    cases a with
    | tup vs =>
      cases b with
      | int i =>
        obtain ⟨A, ys, rfl, st, r1⟩ := ra
        obtain ⟨z, e2, r2⟩ := at_rel r1 e
        exact ix_tup value slice pins s σ H _ y v u Q I rx ry ⟨A, ys, i, z, rfl, rb, by rw [hK]; exact TupK.of st, e2, p.val S r2⟩ hs
      | _ => cases e
    | str z =>
      cases b with
      | int i =>
        have e1 : (if z.length ≤ M.sizeLine then (M.ixN z.length i).bind fun k => (z[k]?).map fun c => M.Val.str [c] else none) = some r := e
        split at e1
        · rename_i hl
          obtain ⟨k, e2, e3⟩ := Option.bind_eq_some_iff.mp e1
          obtain ⟨c, e4, rfl⟩ := Option.map_eq_some_iff.mp e3
          refine ix_str value slice pins s σ H x y v u Q I rx ry ⟨toS z, i, c, ra, rb, ?_, ?_, ?_⟩ hs
          · rw [toS_len, ← lineEq]; exact hl
          · unfold atI
            rw [ixN_eq]
            show ((M.ixN (toS z).cps.toList.length i).bind fun j => (toS z).cps.toList[j]?) = some c
            unfold toS
            simp only [e2]
            exact e4
          · exact Post.val (v := M.Val.str [c]) S rfl p
        · cases e1
      | _ => cases e
    | ref a' =>
      obtain ⟨A, ea, rfl⟩ := ra
      obtain ⟨o, eo, ro⟩ := S.obj a' A ea
      unfold M.ixV at e
      simp only [eo] at e
      cases o with
      | lst vs =>
        cases b with
        | int i =>
          obtain ⟨ys, z, r1⟩ := ro
          obtain ⟨w, e2, r2⟩ := at_rel r1 e
          exact ix_list value slice pins s σ H _ y v u Q I rx ry ⟨A, ys, i, w, rfl, rb, SqL.of z, e2, p.val S r2⟩ hs
        | _ => cases e
      | dct kvs =>
        obtain ⟨r0, e1, e2⟩ := Option.bind_eq_some_iff.mp e
        have e2 : r0 = some r := e2
        subst e2
        obtain ⟨r', g, rr⟩ := dGet_rel ro e1 rb
        cases rx
        cases r' with
        | none => exact rr.elim
        | some w => exact PyProof.Rows.tail_any (dict_typeIs I g) slot_dict_getitem.lookup (d_getItem hu I g ry fun w' s' I' r' => ⟨w, H, I', r', p.val S rr⟩) hs
      | dcT kvs =>
        obtain ⟨r0, e1, e2⟩ := Option.bind_eq_some_iff.mp e
        have e2 : r0 = some r := e2
        subst e2
        obtain ⟨r', g, rr⟩ := dGet_rel ro e1 rb
        cases rx
        cases r' with
        | none => exact rr.elim
        | some w => exact PyProof.Rows.tail_any (dict_typeIs I g) slot_dict_getitem.lookup (d_getItem hu I g ry fun w' s' I' r' => ⟨w, H, I', r', p.val S rr⟩) hs
      | ins _ _ => cases e
    | glb n =>
      obtain ⟨ea, hn⟩ := ra
      unfold M.ixV at e
      simp only at e
      split at e
      · rename_i q
        subst q
        cases b with
        | int i =>
          obtain ⟨ys, z, r1⟩ := S.scr
          obtain ⟨w, e2, r2⟩ := at_rel r1 e
          exact ix_list value slice pins s σ H x y v u Q I rx ry ⟨_, ys, i, w, ea, rb, by rw [hK]; exact z.sql, e2, p.val S r2⟩ hs
        | _ => cases e
      · rename_i n6
        obtain ⟨o, eo, e1⟩ := Option.bind_eq_some_iff.mp e
        obtain ⟨r0, e2, e3⟩ := Option.bind_eq_some_iff.mp e1
        have e3 : r0 = some r := e3
        subst e3
        rcases hn with q | hn
        · exact absurd q n6
        · exact G.item value slice pins s σ H x y v u Q I rx ry ⟨n, o, b, r, m, n6, hn, eo, e2, rb, ea, fun z rz => p.val S (rz m)⟩ hs
    | _ => cases e
section
variable {call : Nat → List M.Val → M.Heap → M.R M.Val} {W : WX}
/-- two parts, then what is made of them -/
theorem two {ca cb c : M.E} {f : M.Val → M.Val → M.Heap → M.R M.Val} (hc : ∀ σ h, M.evE T call c σ h = (M.evE T call ca σ h).bind fun x h1 => (M.evE T call cb σ h1).bind fun y h2 => f x y h2) {τ : St} {H : Hp} {Q : VK}
    (t : TEv L T call W c τ H Q) : tOp (rVal L T (fun cls d H' => W cls d τ H') f) (TEv L T call W ca) (TEv L T call W cb) τ H Q := by
  obtain ⟨m, h, σ, hs, S, p⟩ := t
  rw [hc] at p
  exact TEv.first hs S p fun x H1 m1 h1 v e1 S1 hs1 r1 p1 => TEv.first hs1 S1 p1 fun y H2 m2 h2 w e2 S2 hs2 r2 p2 => ⟨m2, h2, v, w, S2, vrel.ext e2 r1, r2, p2⟩
theorem snd_ix {o i : Expr} {co ci : M.E} {pos : Pos} (hK : X.K = L.K) (hu : X.A.units + 1 < cLine) (G : Glb L X) (ho : PE X o (TEv L T call W co)) (hi : PE X i (TEv L T call W ci)) (hp : plainE i = true) :
    PE X (.Subscript o i pos) (TEv L T call W (.ix co ci)) :=
  ⟨fun pins s τ H Q I t => (pe_ix (ixR_all hK hu G) ho hi (plain_ix hp)).run pins s τ H Q I (two (ca := co) (cb := ci) (c := .ix co ci) (f := ixF) (fun σ h => by
    rw [M.evE]; rfl) t)⟩
theorem snd_bin {op : Operator} {o : M.Op} {a b : Expr} {ca cb : M.E} {pos : Pos} (hr : ∀ E, OpR X (binaryOp op) (rVal L T E (M.binV o))) (ha : PE X a (TEv L T call W ca)) (hb : PE X b (TEv L T call W cb)) :
    PE X (.BinOp a op b pos) (TEv L T call W (.bin o ca cb)) := snd_op2 hr ha hb fun σ h => by rw [M.evE]
/-! ### comparisons -/
def cmpF (c : M.Cm) (x y : M.Val) (h : M.Heap) : M.R M.Val := match M.cmpV c x y h with
  | some r => .ok (.bl r) h
  | none => .bad
theorem cmp_two {c : M.Cm} {E : XK} {x y : V} {Q : VK} (t : rVal L T E (cmpF c) x y H Q) : rCmpV L (M.cmpV c) x y H Q := by
  obtain ⟨m, h, v, w, S, r1, r2, p⟩ := t
  unfold cmpF at p
  cases e : M.cmpV c v w h with
  | none => simp only [e] at p; exact p.elim
  | some r =>
    simp only [e] at p
    exact ⟨m, h, v, w, r, S, r1, r2, e, Post.val (v := M.Val.bl r) S rfl p⟩
theorem TEv.mono {c : M.E} {τ : St} {H : Hp} {Q Q' : VK} (t : TEv L T call W c τ H Q) (i : ∀ x H, Q x H → Q' x H) : TEv L T call W c τ H Q' := by
  obtain ⟨m, h, σ, hs, S, p⟩ := t
  exact ⟨m, h, σ, hs, S, p.imp i⟩
theorem cmp_op {o : M.Cm} {ca cb : M.E} {τ : St} {H : Hp} {Q : VK} (t : TEv L T call W (.cmp o ca cb) τ H Q) : tOp (rCmpV L (M.cmpV o)) (TEv L T call W ca) (TEv L T call W cb) τ H Q :=
  TEv.mono (two (c := .cmp o ca cb) (f := cmpF o) (fun σ h => by rw [M.evE]; rfl) t) fun x H1 t1 => TEv.mono t1 fun y H2 t2 => cmp_two t2
theorem snd_cmp {op : CmpOp} {o : M.Cm} {a b : Expr} {ca cb : M.E} {pos : Pos} (hr : OpR X (compareOp op) (rCmpV L (M.cmpV o))) (ha : PE X a (TEv L T call W ca)) (hb : PE X b (TEv L T call W cb)) (hp : plainE b = true) :
    PE X (.Compare a [op] [b] pos) (TEv L T call W (.cmp o ca cb)) :=
  peImp (pe_cmpR hr ha hb (plain_marks hp)) fun τ H Q t => cmp_op t
/-- a test's reading: the value is a bool -/
theorem TTv.val {c : M.E} {τ : St} {H : Hp} {Q : Bool → Hp → Prop} (t : TTv L T call W c τ H Q) : TEv L T call W c τ H fun x H1 => ∃ k, x = .bl k ∧ Q k H1 := by
  obtain ⟨m, h, σ, hs, S, p⟩ := t
  refine ⟨m, h, σ, hs, S, ?_⟩
  cases e : M.evE T call c σ h with
  | ok v h1 =>
    rw [e] at p
    intro m' H' x E1 S1 r
    cases v with
    | bl b => exact ⟨b, r, p m' H' b E1 S1 rfl⟩
    | _ => exact p.elim
  | exc c vs h1 => rw [e] at p; exact p
  | bad => rw [e] at p; exact p
theorem snt_cmp {op : CmpOp} {o : M.Cm} {a b : Expr} {ca cb : M.E} {pos : Pos} (hr : OpR X (compareOp op) (rCmpV L (M.cmpV o))) (ha : PE X a (TEv L T call W ca)) (hb : PE X b (TEv L T call W cb)) (hp : plainE b = true) :
    PT X (.Compare a [op] [b] pos) (TTv L T call W (.cmp o ca cb)) :=
  ptImp (pt_cmpR hr ha hb (plain_marks hp)) fun τ H Q t => cmp_op (TTv.val t)
theorem snt_val {e : Expr} {c : M.E} (h : PE X e (TEv L T call W c)) (he : ∀ whole, isTrue e X.env whole = (do let v ← whole; standAt e.pos; holding [v] (truthy v))) : PT X e (TTv L T call W c) :=
  ptImp (pt_val h he) fun τ H Q t => TTv.val t
/-! ### chains -/
def chain3 (c d : M.Cm) (z : M.Slots → M.Heap → M.R M.Val) (a b : M.Val) (σ : M.Slots) (h : M.Heap) : M.R M.Val := match M.cmpV c a b h with
  | some true => (z σ h).bind fun e h3 => cmpF d b e h3
  | some false => .ok (.bl false) h
  | none => .bad
theorem chain_op {c d : M.Cm} {cx cy cz : M.E} {τ : St} {H : Hp} {Q : VK} (t : TEv L T call W (.chain c d cx cy cz) τ H Q) :
    tChain (rCmpV L (M.cmpV c)) (rCmpV L (M.cmpV d)) (TEv L T call W cx) (TEv L T call W cy) (TEv L T call W cz) τ H Q := by
  obtain ⟨m, h, σ, hs, S, p⟩ := t
  rw [M.evE] at p
  refine TEv.first hs S p fun x H1 m1 h1 v e1 S1 hs1 r1 p1 => TEv.first hs1 S1 p1 fun y H2 m2 h2 w e2 S2 hs2 r2 p2 => ?_
  cases e : M.cmpV c v w h2 with
  | none => simp only [e] at p2; exact p2.elim
  | some k =>
    refine ⟨m2, h2, v, w, k, S2, vrel.ext e2 r1, r2, e, k, rfl, ?_⟩
    cases k with
    | false =>
      simp only [e] at p2
      rw [if_neg Bool.false_ne_true]
      exact Post.val (v := M.Val.bl false) S2 rfl p2
    | true =>
      simp only [e] at p2
      rw [if_pos rfl]
      refine TEv.first hs2 S2 p2 fun z H3 m3 h3 u e3 S3 hs3 r3 p3 => ?_
      refine cmp_two (T := T) (E := fun cls d H' => W cls d τ H') ⟨m3, h3, w, u, S3, vrel.ext e3 r2, r3, ?_⟩
      unfold cmpF
      exact p3
theorem plain_last {op op' : CmpOp} {b c : Expr} (h : plainE c = true) : lastMarks [op, op'] [b, c] = false := by
  show lastMarks [op'] [c] = false
  exact plain_marks h
theorem snd_chain {op op' : CmpOp} {o o' : M.Cm} {a b c : Expr} {ca cb cc : M.E} {pos : Pos} (hr : OpR X (compareOp op) (rCmpV L (M.cmpV o))) (hr' : OpR X (compareOp op') (rCmpV L (M.cmpV o'))) (ha : PE X a (TEv L T call W ca)) (hb : PE X b (TEv L T call W cb)) (hc : PE X c (TEv L T call W cc)) (hp : plainE c = true) :
    PE X (.Compare a [op, op'] [b, c] pos) (TEv L T call W (.chain o o' ca cb cc)) :=
  peImp (pe_chain hr hr' ha hb hc (plain_last hp)) fun τ H Q t => chain_op t
theorem snt_chain {op op' : CmpOp} {o o' : M.Cm} {a b c : Expr} {ca cb cc : M.E} {pos : Pos} (hr : OpR X (compareOp op) (rCmpV L (M.cmpV o))) (hr' : OpR X (compareOp op') (rCmpV L (M.cmpV o'))) (ha : PE X a (TEv L T call W ca)) (hb : PE X b (TEv L T call W cb)) (hc : PE X c (TEv L T call W cc)) (hp : plainE c = true) :
    PT X (.Compare a [op, op'] [b, c] pos) (TTv L T call W (.chain o o' ca cb cc)) :=
  ptImp (pt_chain hr hr' ha hb hc (plain_last hp)) fun τ H Q t => chain_op (TTv.val t)
/-! ### is None; -x; not x -/
theorem beqT (b : Bool) : (b == true) = b := by cases b <;> rfl
theorem beqF (b : Bool) : (b == false) = !b := by cases b <;> rfl
theorem isNon_rel {v : M.Val} {x : V} (r : vrel L m H v x) : decide (x = .non) = M.Val.beq v .non := by
  cases v with
  | non => cases (show x = .non from r); rfl
  | bl b => cases (show x = .bl b from r); rfl
  | int i => cases (show x = .int i from r); rfl
  | str s => cases (show x = .str (toS s) from r); rfl
  | ref a => obtain ⟨A, _, rfl⟩ := r; rfl
  | tup vs => obtain ⟨A, ys, rfl, _⟩ := r; rfl
  | glb n => obtain ⟨rfl, _⟩ := r; rfl
theorem is_op {ca : M.E} {b : Bool} {τ : St} {H : Hp} {Q : VK} (t : TEv L T call W (.is_ ca .non b) τ H Q) : TEv L T call W ca τ H fun x H1 => Q (.bl (decide (x = .non) == b)) H1 := by
  obtain ⟨m, h, σ, hs, S, p⟩ := t
  rw [M.evE] at p
  refine TEv.first hs S p fun x H1 m1 h1 v e1 S1 hs1 r1 p1 => ?_
  rw [isNon_rel r1]
  exact Post.val (v := M.Val.bl (M.Val.beq v .non == b)) S1 rfl p1
theorem snd_isN {a : Expr} {ca : M.E} {j pos pos'} (ha : PE X a (TEv L T call W ca)) : PE X (.Compare a [.Is] [.Constant .none j pos'] pos) (TEv L T call W (.is_ ca .non true)) :=
  peImp (pe_cmp (pc_isN ha)) fun τ H Q t => TEv.mono (is_op t) fun x H1 q => by rw [beqT] at q; exact q
theorem snd_notN {a : Expr} {ca : M.E} {j pos pos'} (ha : PE X a (TEv L T call W ca)) : PE X (.Compare a [.IsNot] [.Constant .none j pos'] pos) (TEv L T call W (.is_ ca .non false)) :=
  peImp (pe_cmp (pc_notN ha)) fun τ H Q t => TEv.mono (is_op t) fun x H1 q => by rw [beqF] at q; exact q
theorem snt_isN {a : Expr} {ca : M.E} {j pos pos'} (ha : PE X a (TEv L T call W ca)) : PT X (.Compare a [.Is] [.Constant .none j pos'] pos) (TTv L T call W (.is_ ca .non true)) :=
  ptImp (pt_cmp (pc_isN ha)) fun τ H Q t => TEv.mono (is_op (TTv.val t)) fun x H1 q => by rw [beqT] at q; exact q
theorem snt_notN {a : Expr} {ca : M.E} {j pos pos'} (ha : PE X a (TEv L T call W ca)) : PT X (.Compare a [.IsNot] [.Constant .none j pos'] pos) (TTv L T call W (.is_ ca .non false)) :=
  ptImp (pt_cmp (pc_notN ha)) fun τ H Q t => TEv.mono (is_op (TTv.val t)) fun x H1 q => by rw [beqF] at q; exact q
theorem snd_neg {a : Expr} {ca : M.E} {pos} (ha : PE X a (TEv L T call W ca)) : PE X (.UnaryOp .USub a pos) (TEv L T call W (.neg ca)) :=
  peImp (pe_un un_neg ha) fun τ H Q ⟨m, h, σ, hs, S, p⟩ => by
    rw [M.evE] at p
    refine TEv.first hs S p fun x H1 m1 h1 v e1 S1 hs1 r1 p1 => ?_
    cases v with
    | int i => exact ⟨i, r1, Post.val (v := M.Val.int (-i)) S1 rfl p1⟩
    | _ => exact p1.elim
theorem nt_op {ca : M.E} {τ : St} {H : Hp} {Q : VK} (t : TEv L T call W (.nt ca) τ H Q) : TEv L T call W ca τ H fun x H1 => ∃ c, x = .bl c ∧ Q (.bl (!c)) H1 := by
  obtain ⟨m, h, σ, hs, S, p⟩ := t
  rw [M.evE] at p
  refine TEv.first hs S p fun x H1 m1 h1 v e1 S1 hs1 r1 p1 => ?_
  cases v with
  | bl i => exact ⟨i, r1, Post.val (v := M.Val.bl (!i)) S1 rfl p1⟩
  | _ => exact p1.elim
theorem snd_nt {a : Expr} {ca : M.E} {pos} (ha : PE X a (TEv L T call W ca)) : PE X (.UnaryOp .Not a pos) (TEv L T call W (.nt ca)) :=
  peImp (pe_not ha) fun τ H Q t => nt_op t
/-- the other way: a value that is a bool -/
theorem TTv.of {c : M.E} {τ : St} {H : Hp} {Q : Bool → Hp → Prop} (t : TEv L T call W c τ H fun x H1 => ∃ k, x = .bl k ∧ Q k H1) (hb : ∀ σ h v h1, M.evE T call c σ h = .ok v h1 → ∃ k, v = .bl k) : TTv L T call W c τ H Q := by
  obtain ⟨m, h, σ, hs, S, p⟩ := t
  refine ⟨m, h, σ, hs, S, ?_⟩
  cases e : M.evE T call c σ h with
  | ok v h1 =>
    obtain ⟨k, rfl⟩ := hb σ h v h1 e
    rw [e] at p
    intro m' H' x E1 S1 r
    obtain ⟨k', e2, q⟩ := p m' H' (.bl k) E1 S1 rfl
    cases e2
    cases (show x = k from r)
    exact q
  | exc c vs h1 => rw [e] at p; exact p
  | bad => rw [e] at p; exact p
/-- a part of a test -/
theorem TTv.first {c : M.E} {τ : St} {H : Hp} {f : M.Val → M.Heap → M.R M.Val} {Q R : Bool → Hp → Prop} {m : Mp} {h : M.Heap} {σ : M.Slots}
    (hs : srel (L := L) m H σ τ) (S : Sim L m h H) (p : Post (L := L) T brel (fun cls d H' => W cls d τ H') (M.asBool ((M.evE T call c σ h).bind f)) m H Q) (hf : ∀ v h1, (∀ b, v ≠ M.Val.bl b) → f v h1 = .bad)
    (k : ∀ H1 m1 h1 b, Ext m H m1 H1 → Sim L m1 h1 H1 → srel (L := L) m1 H1 σ τ → Post (L := L) T brel (fun cls d H' => W cls d τ H') (M.asBool (f (.bl b) h1)) m1 H1 Q → R b H1) : TTv L T call W c τ H R := by
  refine ⟨m, h, σ, hs, S, ?_⟩
  cases e : M.evE T call c σ h with
  | ok v h1 =>
    rw [e] at p
    cases v with
    | bl b =>
      intro m' H' x E1 S1 r
      cases (show x = b from r)
      exact k H' m' h1 b E1 S1 (hs.ext E1) (Post.ext E1 p)
    | _ =>
      rw [show M.R.bind (M.R.ok _ h1) f = f _ h1 from rfl, hf _ h1 (by intro b e; cases e)] at p
      exact p.elim
  | exc c vs h1 => rw [e] at p; exact p
  | bad => rw [e] at p; exact p
theorem snt_nt {a : Expr} {ca : M.E} {pos} (ha : PT X a (TTv L T call W ca)) : PT X (.UnaryOp .Not a pos) (TTv L T call W (.nt ca)) :=
  ptImp (pt_not ha) fun τ H Q ⟨m, h, σ, hs, S, p⟩ => by
    rw [M.evE] at p
    refine TTv.first hs S p (fun v h1 n => ?_) fun H1 m1 h1 b e1 S1 hs1 p1 => p1 m1 H1 (!b) .refl S1 rfl
    cases v <;> first | rfl | exact absurd rfl (n _)
/-! ### and, or -/
theorem and_op {ca cb : M.E} {τ : St} {H : Hp} {Q : VK} (t : TEv L T call W (.and_ ca cb) τ H Q) : tAndV (TEv L T call W ca) (TEv L T call W cb) τ H Q := by
  obtain ⟨m, h, σ, hs, S, p⟩ := t
  rw [M.evE] at p
  refine TEv.first hs S p fun x H1 m1 h1 v e1 S1 hs1 r1 p1 => ?_
  cases v with
  | bl b =>
    refine ⟨b, r1, ?_⟩
    cases b with
    | true => rw [if_pos rfl]; exact ⟨m1, h1, σ, hs1, S1, p1⟩
    | false => rw [if_neg Bool.false_ne_true]; exact Post.val (v := M.Val.bl false) S1 rfl p1
  | _ => exact p1.elim
theorem or_op {ca cb : M.E} {τ : St} {H : Hp} {Q : VK} (t : TEv L T call W (.or_ ca cb) τ H Q) : tOrV (TEv L T call W ca) (TEv L T call W cb) τ H Q := by
  obtain ⟨m, h, σ, hs, S, p⟩ := t
  rw [M.evE] at p
  refine TEv.first hs S p fun x H1 m1 h1 v e1 S1 hs1 r1 p1 => ?_
  cases v with
  | bl b =>
    refine ⟨b, r1, ?_⟩
    cases b with
    | true => rw [if_pos rfl]; exact Post.val (v := M.Val.bl true) S1 rfl p1
    | false => rw [if_neg Bool.false_ne_true]; exact ⟨m1, h1, σ, hs1, S1, p1⟩
  | _ => exact p1.elim
theorem andT_op {ca cb : M.E} {τ : St} {H : Hp} {Q : Bool → Hp → Prop} (t : TTv L T call W (.and_ ca cb) τ H Q) : tAnd (TTv L T call W ca) (TTv L T call W cb) τ H Q := by
  obtain ⟨m, h, σ, hs, S, p⟩ := t
  rw [M.evE] at p
  refine TTv.first hs S p (fun v h1 n => ?_) fun H1 m1 h1 b e1 S1 hs1 p1 => ?_
  · cases v <;> first | rfl | exact absurd rfl (n _)
  · cases b with
    | true => rw [if_pos rfl]; exact ⟨m1, h1, σ, hs1, S1, p1⟩
    | false => rw [if_neg Bool.false_ne_true]; exact p1 m1 H1 false .refl S1 rfl
theorem orT_op {ca cb : M.E} {τ : St} {H : Hp} {Q : Bool → Hp → Prop} (t : TTv L T call W (.or_ ca cb) τ H Q) : tOr (TTv L T call W ca) (TTv L T call W cb) τ H Q := by
  obtain ⟨m, h, σ, hs, S, p⟩ := t
  rw [M.evE] at p
  refine TTv.first hs S p (fun v h1 n => ?_) fun H1 m1 h1 b e1 S1 hs1 p1 => ?_
  · cases v <;> first | rfl | exact absurd rfl (n _)
  · cases b with
    | true => rw [if_pos rfl]; exact p1 m1 H1 true .refl S1 rfl
    | false => rw [if_neg Bool.false_ne_true]; exact ⟨m1, h1, σ, hs1, S1, p1⟩
theorem pwImp {X : Cx} {e : Expr} {t t' : TT} (h : PW X e t) (i : ∀ σ H Q, t' σ H Q → t σ H Q) : PW X e t' := ⟨fun whole pins s σ H Q I q => h.run whole pins s σ H Q I (i σ H Q q)⟩
/-! ### a if c else b -/
theorem snd_ife {c a b : Expr} {cc ca cb : M.E} {pos : Pos} (hc : PT X c (TTv L T call W cc)) (ha : PE X a (TEv L T call W ca)) (hb : PE X b (TEv L T call W cb)) : PE X (.IfExp c a b pos) (TEv L T call W (.ife cc ca cb)) := by
  refine peImp (pe_ifExp hc ha hb) fun τ H Q ⟨m, h, σ, hs, S, p⟩ => ?_
  rw [M.evE] at p
  refine ⟨m, h, σ, hs, S, ?_⟩
  cases e : M.evE T call cc σ h with
  | ok v h1 =>
    rw [e] at p
    cases v with
    | bl b =>
      intro m' H' x E1 S1 r
      cases (show x = b from r)
      have p := Post.ext E1 p
      cases b with
      | true => rw [if_pos rfl]; exact ⟨m', h1, σ, hs.ext E1, S1, p⟩
      | false => rw [if_neg Bool.false_ne_true]; exact ⟨m', h1, σ, hs.ext E1, S1, p⟩
    | _ => exact p.elim
  | exc c vs h1 => rw [e] at p; exact p
  | bad => rw [e] at p; exact p
/-! ### displays -/
theorem sna_nil : PA X [] (TAv L T call W .nil) := paImp pa_nil fun τ H Q ⟨m, h, σ, hs, S, p⟩ => by
  rw [M.evEs] at p
  exact p m H [] .refl S rfl
theorem sna_cons {e : Expr} {es : List Expr} {c : M.E} {cs : M.Es} (ha : PE X e (TEv L T call W c)) (hr : PA X es (TAv L T call W cs)) (hp : plainE e = true) : PA X (e :: es) (TAv L T call W (.cons c cs)) :=
  paImp (pa_cons ha hr (plain_star hp)) fun τ H Q ⟨m, h, σ, hs, S, p⟩ => by
    rw [M.evEs] at p
    exact TEv.first hs S p fun x H1 m1 h1 v e1 S1 hs1 r1 p1 => TAv.first hs1 S1 p1 fun xs H2 m2 h2 vs e2 S2 hs2 r2 p2 => p2 m2 H2 (x :: xs) .refl S2 ⟨x, xs, rfl, vrel.ext e2 r1, r2⟩
theorem snd_tup {es : List Expr} {cs : M.Es} {k : Nat} {pos : Pos} (h : PA X es (TAv L T call W cs)) : PE X (.Tuple es k pos) (TEv L T call W (.tup cs)) :=
  peImp (pe_tup h) fun τ H Q ⟨m, h, σ, hs, S, p⟩ => by
    rw [M.evE] at p
    refine TAv.first hs S p fun xs H1 m1 h1 vs e1 S1 hs1 r1 p1 => ?_
    split at p1
    · rename_i z
      exact ⟨by rw [← lineEq]; exact vlen r1 _ z, Post.newT S1 r1 p1⟩
    · exact p1.elim
theorem snd_lst {es : List Expr} {cs : M.Es} {pos : Pos} (h : PA X es (TAv L T call W cs)) : PE X (.List es pos) (TEv L T call W (.lst cs)) :=
  peImp (pe_lst h) fun τ H Q ⟨m, h, σ, hs, S, p⟩ => by
    rw [M.evE] at p
    refine TAv.first hs S p fun xs H1 m1 h1 vs e1 S1 hs1 r1 p1 => ?_
    split at p1
    · rename_i z
      exact ⟨by rw [← lineEq]; exact vlen r1 _ z, Post.newL S1 r1 p1⟩
    · exact p1.elim
theorem Post.newO {E : XK} {o : M.Obj} {O : HO} {h : M.Heap} {m : Mp} {H : Hp} {Q : VK} (S : Sim L m h H) (r : ∀ q, H q = none → orel (L := L) (bindAt m h.size q) (upd H q O) o q) (p : Post (L := L) T (vrel L) E (.ok (.ref h.size) (h.push o)) m H Q) :
    ∀ q, H q = none → Q (.ref q) (upd H q O) := fun q n => by
  refine p _ _ _ (Ext.push S n) (Sim.push S n (r q n)) ⟨q, ?_, rfl⟩
  unfold bindAt
  rw [if_pos rfl]
theorem snd_dnew {pos : Pos} {b : Bool} : PE X (.Dict [] [] pos) (TEv L T call W (.dnew b)) := by
  cases b with
  | false =>
    refine peImp pe_dnewK fun τ H Q ⟨m, h, σ, hs, S, p⟩ => ?_
    rw [M.evE] at p
    exact Post.newO (o := .dct []) S (fun q n => ⟨[], upd_same, rfl⟩) p
  | true =>
    refine peImp pe_dnewT fun τ H Q ⟨m, h, σ, hs, S, p⟩ => ?_
    rw [M.evE] at p
    exact Post.newO (o := .dcT []) S (fun q n => ⟨[], upd_same, rfl⟩) p
/-! ### slices -/
def TOv (L : Lk) (T : M.Tab) (call : Nat → List M.Val → M.Heap → M.R M.Val) (W : WX) (c : M.Option_E) : TO := fun τ H Q => ∃ m h σ, srel (L := L) m H σ τ ∧ Sim L m h H ∧ Post (L := L) T (fun _ _ a b => a = b) (fun cls d H' => W cls d τ H') (M.evP T call c σ h) m H Q
theorem TOv.first {c : M.Option_E} {τ : St} {H : Hp} {α β : Type} {rel : Mp → Hp → α → β → Prop} {f : Option Int → M.Heap → M.R α} {Q : β → Hp → Prop} {R : Option Int → Hp → Prop} {m : Mp} {h : M.Heap} {σ : M.Slots}
    (hs : srel (L := L) m H σ τ) (S : Sim L m h H) (p : Post (L := L) T rel (fun cls d H' => W cls d τ H') ((M.evP T call c σ h).bind f) m H Q)
    (k : ∀ o H1 m1 h1, Ext m H m1 H1 → Sim L m1 h1 H1 → srel (L := L) m1 H1 σ τ → Post (L := L) T rel (fun cls d H' => W cls d τ H') (f o h1) m1 H1 Q → R o H1) : TOv L T call W c τ H R :=
  ⟨m, h, σ, hs, S, (Post.bind p).imp fun x H1 ⟨m1, h1, v, e, s, r, q⟩ => by
    cases (show v = x from r)
    exact k _ H1 m1 h1 e s (hs.ext e) q⟩
theorem poImp {X : Cx} {e : Option Expr} {t t' : TO} (h : PO X e t) (i : ∀ σ H Q, t' σ H Q → t σ H Q) : PO X e t' := ⟨fun pins s σ H Q I q => h.run pins s σ H Q I (i σ H Q q)⟩
theorem sno_no : PO X none (TOv L T call W .no) := poImp po_none fun τ H Q ⟨m, h, σ, hs, S, p⟩ => by
  rw [M.evP] at p
  exact p m H _ .refl S rfl
theorem sno_yes {e : Expr} {c : M.E} (h : PE X e (TEv L T call W c)) : PO X (some e) (TOv L T call W (.yes c)) := poImp (po_some h) fun τ H Q ⟨m, h, σ, hs, S, p⟩ => by
  rw [M.evP] at p
  refine TEv.first hs S p fun x H1 m1 h1 v e1 S1 hs1 r1 p1 => ?_
  cases v with
  | int i => exact ⟨i, r1, p1 m1 H1 _ .refl S1 rfl⟩
  | _ => exact p1.elim
theorem clip_eq (n d : Nat) (o : Option Int) : HT.sIx n d o = M.clip n d o := by
  cases o with
  | none => rfl
  | some i => rfl
theorem cutV_rel {xs : List M.Val} {ys : List V} (r : vrels L m H xs ys) (lo hi : Option Int) : vrels L m H (M.cutL xs lo hi) (cutV ys lo hi) := by
  unfold M.cutL cutV
  rw [← r.length, clip_eq, clip_eq]
  exact vrels.take _ (vrels.drop _ r)
end
end
end Br
end

section
set_option Elab.async false
set_option linter.all false
set_option maxRecDepth 100000
set_option maxHeartbeats 1000000
/-! B7: slices, built-in functions. -/
namespace Br
open PySem L2
section
variable {L : Lk} {T : M.Tab} {X : Cx} {m : Mp} {h : M.Heap} {H : Hp}
/-- a list or the script -/
theorem Sim.seq (S : Sim L m h H) {v : M.Val} {x : V} {xs : List M.Val} (r : vrel L m H v x) (e : M.lstOf h v = some xs) : ∃ A ys, x = .ref A ∧ SqL L.K H A ys ∧ vrels L m H xs ys := by
  cases v with
  | ref a =>
    obtain ⟨A, ea, rfl⟩ := r
    obtain ⟨ys, z, q⟩ := S.lst ea e
    exact ⟨A, ys, rfl, SqL.of z, q⟩
  | glb n =>
    obtain ⟨rfl, _⟩ := r
    unfold M.lstOf at e
    simp only at e
    split at e
    · rename_i q
      subst q
      cases e
      obtain ⟨ys, z, q⟩ := S.scr
      exact ⟨_, ys, rfl, z.sql, q⟩
    · cases e
  | _ => cases e
def rSlV (L : Lk) (T : M.Tab) (E : XK) : V → Option Int → Option Int → Hp → VK → Prop := fun x lo hi H Q => ∃ m h v, Sim L m h H ∧ vrel L m H v x ∧ Post (L := L) T (vrel L) E (M.slV h v lo hi) m H Q
theorem cut_whole {α : Type} (xs : List α) (lo hi : Option Int) (h : HT.sIx xs.length 0 lo = 0 ∧ HT.sIx xs.length xs.length hi = xs.length) : M.cutL xs lo hi = xs := by
  unfold M.cutL
  rw [← clip_eq, ← clip_eq, h.1, h.2]
  simp
theorem slR_all {E : XK} (hK : X.K = L.K) : SlR X (rSlV L T E) := by
  intro pins s σ H x v vl vu lo hi sl Q I rx hs pl pu ⟨m, h, a, S, ra, p⟩
  have lists : ∀ {xs : List M.Val}, M.lstOf h a = some xs → Post (L := L) T (vrel L) E (M.R.ok (.ref h.size) (h.push (.lst (M.cutL xs lo hi)))) m H Q → rSlL X.K x lo hi H Q := by
    intro xs e p
    obtain ⟨A, ys, rfl, z, r⟩ := S.seq ra e
    exact ⟨A, ys, rfl, by rw [hK]; exact z, Post.newL S (cutV_rel r lo hi) p⟩
  cases a with
  | tup vs =>
    obtain ⟨A, ys, rfl, st, r1⟩ := ra
    have p : Post (L := L) T (vrel L) E (M.R.ok (.tup (M.cutL vs lo hi)) h) m H Q := p
    refine sl_tupA pins s σ H _ v vl vu lo hi sl Q I rx hs pl pu ⟨A, ys, rfl, by rw [hK]; exact TupK.of st, fun q => ?_, fun q => Post.newT S (cutV_rel r1 lo hi) p⟩
    rw [cut_whole vs lo hi (by rw [r1.length]; exact q)] at p
    exact p.val S ⟨A, ys, rfl, st, r1⟩
  | str z =>
    have p : Post (L := L) T (vrel L) E (if z.length ≤ M.sizeLine then M.R.ok (.str (M.cutL z lo hi)) h else .bad) m H Q := p
    split at p
    · rename_i c
      refine sl_str pins s σ H x v vl vu lo hi sl Q I rx hs pl pu ⟨toS z, ra, by rw [toS_len, ← lineEq]; exact c, ?_⟩
      have e : cutS (toS z) lo hi = toS (M.cutL z lo hi) := by
        unfold cutS M.cutL
        rw [toS_len, clip_eq, clip_eq]
        unfold toS
        simp
      rw [e]
      exact Post.val (v := M.Val.str (M.cutL z lo hi)) S rfl p
    · exact p.elim
  | ref a' =>
    unfold M.slV at p
    simp only at p
    split at p
    · rename_i vs e
      exact sl_list pins s σ H x v vl vu lo hi sl Q I rx hs pl pu (lists e p)
    · exact p.elim
  | glb n =>
    unfold M.slV at p
    simp only at p
    split at p
    · rename_i vs e
      exact sl_list pins s σ H x v vl vu lo hi sl Q I rx hs pl pu (lists e p)
    · exact p.elim
  | _ => exact p.elim
section
variable {call : Nat → List M.Val → M.Heap → M.R M.Val} {W : WX}
theorem snd_sl {o : Expr} {lo hi : Option Expr} {co : M.E} {cl ch : M.Option_E} {pos p2 : Pos} (hK : X.K = L.K) (ho : PE X o (TEv L T call W co)) (hl : PO X lo (TOv L T call W cl)) (hh : PO X hi (TOv L T call W ch)) :
    PE X (.Subscript o (.Slice lo hi none p2) pos) (TEv L T call W (.sl co cl ch)) :=
  ⟨fun pins s τ H Q I ⟨m, h, σ, hs, S, p⟩ => (pe_slice (slR_all (T := T) (E := fun cls d H' => W cls d τ H') hK) ho hl hh).run pins s τ H Q I (by
    rw [M.evE] at p
    exact TEv.first hs S p fun x H1 m1 h1 v e1 S1 hs1 r1 p1 => TOv.first hs1 S1 p1 fun a H2 m2 h2 e2 S2 hs2 p2 => TOv.first hs2 S2 p2 fun b H3 m3 h3 e3 S3 hs3 p3 => ⟨m3, h3, v, S3, vrel.ext e3 (vrel.ext e2 r1), p3⟩)⟩
/-! ### built-in functions -/
def rBlt (L : Lk) (T : M.Tab) (E : XK) (b : M.B) : List V → Hp → VK → Prop := fun xs H Q => ∃ m h vs, Sim L m h H ∧ vrels L m H vs xs ∧ Post (L := L) T (vrel L) E (M.blt b vs h) m H Q
theorem vrels1 {xs : List V} {v : M.Val} (r : vrels L m H [v] xs) : ∃ x, xs = [x] ∧ vrel L m H v x := by
  obtain ⟨x, t, rfl, r1, r2⟩ := r
  cases (show t = [] from r2)
  exact ⟨x, rfl, r1⟩
theorem vrels2 {xs : List V} {v w : M.Val} (r : vrels L m H [v, w] xs) : ∃ x y, xs = [x, y] ∧ vrel L m H v x ∧ vrel L m H w y := by
  obtain ⟨x, t, rfl, r1, y, t2, rfl, r2, r3⟩ := r
  cases (show t2 = [] from r3)
  exact ⟨x, y, rfl, r1, r2⟩
theorem on1_ok {b : M.B} {f : M.Val → M.Heap → M.R M.Val} {E : XK} {xs : List V} {H : Hp} {Q : VK} (hb : ∀ vs h, M.blt b vs h = M.on1 f vs h) (t : rBlt L T E b xs H Q) :
    ∃ m h v x, xs = [x] ∧ Sim L m h H ∧ vrel L m H v x ∧ Post (L := L) T (vrel L) E (f v h) m H Q := by
  obtain ⟨m, h, vs, S, rs, p⟩ := t
  rw [hb] at p
  unfold M.on1 at p
  split at p
  · rename_i v
    obtain ⟨x, rfl, rx⟩ := vrels1 rs
    exact ⟨m, h, v, x, rfl, S, rx, p⟩
  · exact p.elim
theorem on2_ok {b : M.B} {f : M.Val → M.Val → M.Heap → M.R M.Val} {E : XK} {xs : List V} {H : Hp} {Q : VK} (hb : ∀ vs h, M.blt b vs h = M.on2 f vs h) (t : rBlt L T E b xs H Q) :
    ∃ m h v w x y, xs = [x, y] ∧ Sim L m h H ∧ vrel L m H v x ∧ vrel L m H w y ∧ Post (L := L) T (vrel L) E (f v w h) m H Q := by
  obtain ⟨m, h, vs, S, rs, p⟩ := t
  rw [hb] at p
  unfold M.on2 at p
  split at p
  · rename_i v w
    obtain ⟨x, y, rfl, rx, ry⟩ := vrels2 rs
    exact ⟨m, h, v, w, x, y, rfl, S, rx, ry, p⟩
  · exact p.elim
theorem callR_len {E : XK} (hK : X.K = L.K) : CallR X (.builtin "len") (rBlt L T E .len) := by
  intro pins s σ H xs us Q I r t
  obtain ⟨m, h, v, x, rfl, S, rx, p⟩ := on1_ok (fun _ _ => rfl) t
  unfold M.bLen at p
  split at p
  · rename_i vs
    obtain ⟨A, ys, rfl, st, r1⟩ := rx
    exact call_len pins s σ H _ us Q I r ⟨_, ys.length, rfl, .inr ⟨ys, by rw [hK]; exact TupK.of st, rfl⟩, by
      rw [← r1.length]; exact Post.val (v := M.Val.int vs.length) S rfl p⟩
  · rename_i z
    cases (show x = .str (toS z) from rx)
    split at p
    · rename_i c
      exact call_len pins s σ H _ us Q I r ⟨_, (toS z).length, rfl, ⟨by rw [toS_len, ← lineEq]; exact c, rfl⟩, by
        rw [toS_len]; exact Post.val (v := M.Val.int z.length) S rfl p⟩
    · exact p.elim
  · rename_i a
    obtain ⟨A, ea, rfl⟩ := rx
    obtain ⟨o, eo, ro⟩ := S.obj a A ea
    simp only [eo] at p
    cases o with
    | lst vs =>
      obtain ⟨ys, z, r1⟩ := ro
      exact call_len pins s σ H _ us Q I r ⟨_, ys.length, rfl, .inl ⟨ys, SqL.of z, rfl⟩, by
        rw [← r1.length]; exact Post.val (v := M.Val.int vs.length) S rfl p⟩
    | dct kvs =>
      obtain ⟨ys, z, r1⟩ := ro
      obtain ⟨u, rfl, ru⟩ := Vals.one r
      cases ru
      exact d_len I (.inl z) fun t s' I' => ⟨.int ys.length, H, I', ⟨t, rfl⟩, by
        rw [← kvrel.length r1]; exact Post.val (v := M.Val.int kvs.length) S rfl p⟩
    | dcT _ => exact p.elim
    | ins _ _ => exact p.elim
  · rename_i n
    split at p
    · rename_i q
      subst q
      obtain ⟨rfl, _⟩ := rx
      obtain ⟨ys, z, r1⟩ := S.scr
      exact call_len pins s σ H _ us Q I r ⟨_, ys.length, rfl, .inl ⟨ys, by rw [hK]; exact z.sql, rfl⟩, by
        rw [← r1.length]; exact Post.val (v := M.Val.int h.scr.length) S rfl p⟩
    · exact p.elim
  · exact p.elim
/-- a list, a tuple, the script -/
theorem Sim.seqOf (S : Sim L m h H) {v : M.Val} {x : V} {xs : List M.Val} (r : vrel L m H v x) (e : M.seqOf h v = some xs) : ∃ A ys, x = .ref A ∧ vrels L m H xs ys ∧ ((SqL L.K H A ys ∧ ∀ vs, v ≠ .tup vs) ∨ (SqT L.K H A ys ∧ v = .tup xs)) := by
  have lists : (∀ vs, v ≠ .tup vs) → M.lstOf h v = some xs → ∃ A ys, x = .ref A ∧ vrels L m H xs ys ∧ ((SqL L.K H A ys ∧ ∀ vs, v ≠ .tup vs) ∨ (SqT L.K H A ys ∧ v = .tup xs)) := by
    intro n e
    obtain ⟨A, ys, q, z, r1⟩ := S.seq r e
    exact ⟨A, ys, q, r1, .inl ⟨z, n⟩⟩
  cases v with
  | tup vs =>
    cases e
    obtain ⟨A, ys, rfl, st, r1⟩ := r
    exact ⟨A, ys, rfl, r1, .inr ⟨TupK.of st, rfl⟩⟩
  | ref a => exact lists (by intro vs q; cases q) e
  | glb n => exact lists (by intro vs q; cases q) e
  | _ => cases e
theorem callR_list {E : XK} (hK : X.K = L.K) : CallR X (.type "list") (rBlt L T E .list) := by
  intro pins s σ H xs us Q I r t
  obtain ⟨m, h, v, x, rfl, S, rx, p⟩ := on1_ok (fun _ _ => rfl) t
  unfold M.bList at p
  split at p
  · rename_i vs e
    obtain ⟨A, ys, rfl, r1, z⟩ := S.seqOf rx e
    refine call_list_of pins s σ H _ us Q I r ⟨A, ys, rfl, ?_, Post.newL S r1 p⟩
    rw [hK]
    rcases z with ⟨z, _⟩ | ⟨z, _⟩
    · exact .inl z
    · exact .inr z
  · exact p.elim
theorem callR_tuple {E : XK} (hK : X.K = L.K) : CallR X (.type "tuple") (rBlt L T E .tuple) := by
  intro pins s σ H xs us Q I r t
  obtain ⟨m, h, v, x, rfl, S, rx, p⟩ := on1_ok (fun _ _ => rfl) t
  unfold M.bTuple at p
  split at p
  · rename_i vs e
    obtain ⟨A, ys, rfl, r1, z⟩ := S.seqOf rx e
    refine call_tuple_of pins s σ H _ us Q I r ⟨A, ys, rfl, ?_⟩
    rw [hK]
    rcases z with ⟨z, _⟩ | ⟨z, q⟩
    · exact .inl ⟨z, Post.newT S r1 p⟩
    · subst q
      exact .inr ⟨z, p.val S rx⟩
  · exact p.elim
theorem callR_int {E : XK} : CallR X (.type "int") (rBlt L T E .int) := by
  intro pins s σ H xs us Q I r t
  obtain ⟨m, h, v, x, rfl, S, rx, p⟩ := on1_ok (fun _ _ => rfl) t
  unfold M.bInt at p
  split at p
  · rename_i i
    cases (show x = .int i from rx)
    exact call_int1 pins s σ H _ us Q I r (.inl ⟨i, rfl, Post.val (v := M.Val.int i) S rfl p⟩)
  · rename_i b
    cases (show x = .bl b from rx)
    exact call_int1 pins s σ H _ us Q I r (.inr ⟨b, rfl, Post.val (v := M.Val.int (if b then 1 else 0)) S rfl p⟩)
  · exact p.elim
theorem callR_max {E : XK} (hc : X.calm = true) : CallR X (.builtin "max") (rBlt L T E .max) := by
  intro pins s σ H xs us Q I r t
  obtain ⟨m, h, v, w, x, y, rfl, S, rx, ry, p⟩ := on2_ok (fun _ _ => rfl) t
  unfold M.bMax at p
  split at p
  · rename_i i j
    cases (show x = .int i from rx)
    cases (show y = .int j from ry)
    exact call_max2 hc pins s σ H _ us Q I r ⟨i, j, rfl, Post.val (v := M.Val.int (if j > i then j else i)) S rfl p⟩
  · exact p.elim
theorem callR_min {E : XK} (hc : X.calm = true) : CallR X (.builtin "min") (rBlt L T E .min) := by
  intro pins s σ H xs us Q I r t
  obtain ⟨m, h, v, w, x, y, rfl, S, rx, ry, p⟩ := on2_ok (fun _ _ => rfl) t
  unfold M.bMin at p
  split at p
  · rename_i i j
    cases (show x = .int i from rx)
    cases (show y = .int j from ry)
    exact call_min2 hc pins s σ H _ us Q I r ⟨i, j, rfl, Post.val (v := M.Val.int (if j < i then j else i)) S rfl p⟩
  · exact p.elim
theorem callR_ord {E : XK} : CallR X (.builtin "ord") (rBlt L T E .ord) := by
  intro pins s σ H xs us Q I r t
  obtain ⟨m, h, v, x, rfl, S, rx, p⟩ := on1_ok (fun _ _ => rfl) t
  unfold M.bOrd at p
  split at p
  · rename_i c
    cases (show x = .str (toS [c]) from rx)
    exact call_ord pins s σ H _ us Q I r ⟨toS [c], rfl, rfl, Post.val (v := M.Val.int c) S rfl p⟩
  · exact p.elim
end
end
end Br
end

section
set_option Elab.async false
set_option linter.all false
set_option maxRecDepth 100000
set_option maxHeartbeats 1000000
/-! B8: methods of built-in types. -/
namespace Br
open PySem L2
theorem ext_tup (l : Addr) (xs : Array Value) (n : Nat) (b : Addr) (ys : Array Value) (k : Nat) (dd : Option Addr) (sl : Array (Option Value)) (h0 : ¬(!xs.isEmpty && Builtin.List.listTooLong (xs.size + ys.size)) = true) (h1 : xs.size ≤ sizeLine) (h2 : xs.size + ys.size ≤ sizeLine + 1) :
    Meets (Builtin.«list.extend» ⟨[.ref l, .ref b], []⟩) (fun _ R s => s.heap.get? l = some { cls := .type "list", dict := none, data := .seq xs n, slots := #[] } ∧ s.heap.get? b = some { cls := .type "tuple", dict := dd, data := .seq ys k, slots := sl } ∧
      R (.ok (.ret Value.none)) { s with heap := s.heap.update l (Obj.mapSeq fun x => x ++ ys), toks := s.toks }) :=
  Meets.of_wp fun P w A R s h => by
    obtain ⟨hp, g, d, tk, os⟩ := s
    obtain ⟨hl, hb, h⟩ := h
    have f1 := AutoSeq1.idx_int
    have f2 := AutoSeq1.sub_tuple_tuple
    have f3 := AutoSeq1.sub_list_list
    have f4 := AutoSeq1.sub_tuple_list
    have f5 := AutoSeq1.sub_list_tuple
    have z : (xs ++ ys).size ≤ sizeLine + 1 := by rw [Array.size_append]; exact h2
    wp_walk using (wpAny_updateSeq hl rfl (hz := h1) (_hz' := z)), wpAny_loadPart' hl, wpAny_loadPart' hb
    exact ⟨_, rfl, h⟩
section
variable {L : Lk} {T : M.Tab} {X : Cx} {m : Mp} {h : M.Heap} {H : Hp}
theorem extT {pins : List (Addr × Obj)} {s : Shared} {σ : St} {l b : Addr} {xs zs : List V} {Q : VK} (I : Inv X pins σ H s) (hH : H l = some (.lst xs)) (hB : SqT X.K H b zs) (hz : xs.length + zs.length ≤ sizeLine) (q : Q .non (upd H l (.lst (xs ++ zs)))) :
    wpAny (model X.prog X.w) X.A (call (.builtin "list.extend") [.ref l, .ref b]) (EP X pins σ Q) X.xe s := by
  obtain ⟨z, its, n, r, hl, e⟩ := I.lstM hH
  obtain ⟨its2, r2, ⟨⟨cls, dd, data, sl⟩, e2, c2, k, d2⟩, z2⟩ := I.tuple hB
  simp only at c2 d2
  subst c2 d2
  have hl2 := r2.length
  have hsz : its.toArray.size + its2.toArray.size ≤ sizeLine := by rw [List.size_toArray, List.size_toArray]; omega
  have hlong : ¬ (!its.toArray.isEmpty && Builtin.List.listTooLong (its.toArray.size + its2.toArray.size)) = true := by
    rw [notLongL hsz, Bool.and_false]
    exact Bool.false_ne_true
  refine call_meets F.slot_list_extend ⟨_, e, rfl⟩ F.entry_list_extend (F.args_list_extend_2 _ _) (ext_tup l its.toArray n b its2.toArray k dd sl hlong (by rw [List.size_toArray]; omega) (by omega)) ⟨e, e2, ?_⟩
  refine ⟨.non, _, I.lset (its' := its ++ its2) hH e (by simp) (r.append r2) ?_, rfl, q⟩
  rw [List.length_append]
  omega
/-- a method, by the values -/
def rBm (L : Lk) (T : M.Tab) (E : XK) (b : M.B) : V → List V → Hp → VK → Prop := fun x xs H Q => ∃ m h v vs, Sim L m h H ∧ vrel L m H v x ∧ vrels L m H vs xs ∧ Post (L := L) T (vrel L) E (M.blt b (v :: vs) h) m H Q
theorem rBm.blt {E : XK} {b : M.B} {x : V} {xs : List V} {H : Hp} {Q : VK} (t : rBm L T E b x xs H Q) : rBlt L T E b (x :: xs) H Q := by
  obtain ⟨m, h, v, vs, S, rx, rs, p⟩ := t
  exact ⟨m, h, v :: vs, S, ⟨x, xs, rfl, rx, rs⟩, p⟩
theorem mtR_append {E : XK} : MtR X "list.append" (rBm L T E .append) := by
  intro pins s σ H x xs v us Q I rx rs t
  obtain ⟨m, h, a, w, x', y, e, S, ra, rw', p⟩ := on2_ok (fun _ _ => rfl) t.blt
  cases e
  unfold M.bAppend at p
  split at p
  · rename_i a'
    obtain ⟨A, ea, rfl⟩ := ra
    split at p
    · rename_i vs e
      obtain ⟨ys, z, r1⟩ := S.lst (xs := vs) ea (by unfold M.lstOf; simp only [e])
      split at p
      · rename_i c
        refine mt_append pins s σ H _ _ v us Q I rx rs ⟨A, ys, y, rfl, rfl, z, by rw [← r1.length, ← lineEq]; exact c, ?_⟩
        have x0 : Ext m H m (upd H A (.lst (ys ++ [y]))) := Ext.write S ea
        exact p m _ .non x0 (Sim.write S ea ⟨_, upd_same, vrels.ext x0 (vrels.app r1 (vrels.one rw'))⟩) rfl
      · exact p.elim
    · exact p.elim
  · exact p.elim
theorem mtR_extend {E : XK} (hK : X.K = L.K) : MtR X "list.extend" (rBm L T E .extend) := by
  intro pins s σ H x xs v us Q I rx rs t
  obtain ⟨m, h, a, w, x', y, e, S, ra, rw', p⟩ := on2_ok (fun _ _ => rfl) t.blt
  cases e
  unfold M.bExtend at p
  split at p
  · rename_i a'
    obtain ⟨A, ea, rfl⟩ := ra
    split at p
    · rename_i vs e
      obtain ⟨ys, z, r1⟩ := S.lst (xs := vs) ea (by unfold M.lstOf; simp only [e])
      split at p
      · rename_i ws e2
        split at p
        · rename_i c
          have fin : ∀ {zs : List V}, vrels L m H ws zs → Q .non (upd H A (.lst (ys ++ zs))) := fun {zs} r2 => by
            have x0 : Ext m H m (upd H A (.lst (ys ++ zs))) := Ext.write S ea
            exact p m _ .non x0 (Sim.write S ea ⟨_, upd_same, vrels.ext x0 (vrels.app r1 r2)⟩) rfl
          have hz : ∀ {zs : List V}, vrels L m H ws zs → ys.length + zs.length ≤ sizeLine := fun r2 => by rw [← r1.length, ← r2.length, ← lineEq]; exact c.1
          cases w with
          | ref b =>
            obtain ⟨B, eb, rfl⟩ := rw'
            obtain ⟨zs, z', r3⟩ := S.lst (xs := ws) eb e2
            exact mt_extend pins s σ H _ _ v us Q I rx rs ⟨A, B, ys, zs, rfl, rfl, z, z', hz r3, fin r3⟩
          | tup _ =>
            cases e2
            obtain ⟨B, zs, rfl, st, r3⟩ := rw'
            cases rx
            obtain ⟨u, rfl, ru⟩ := Vals.one rs
            cases ru
            exact extT I z (by rw [hK]; exact TupK.of st) (hz r3) (fin r3)
          | _ => cases e2
        · exact p.elim
      · exact p.elim
    · exact p.elim
  · exact p.elim
theorem mtR_count {E : XK} (hK : X.K = L.K) : MtR X "list.count" (rBm L T E .count) := by
  intro pins s σ H x xs v us Q I rx rs t
  obtain ⟨m, h, a, w, x', y, e, S, ra, rw', p⟩ := on2_ok (fun _ _ => rfl) t.blt
  cases e
  unfold M.bCount at p
  split at p
  · rename_i vs e
    obtain ⟨A, ys, rfl, z, r1⟩ := S.seq ra e
    split at p
    · rename_i n
      cases (show y = .int n from rw')
      split at p
      · rename_i ns e2
        obtain ⟨rfl, _⟩ := ints_rel e2 r1
        exact mt_lcount pins s σ H _ _ v us Q I rx rs ⟨A, ns, n, rfl, rfl, by rw [hK]; exact z, Post.val (v := M.Val.int (ns.count n)) S rfl p⟩
      · exact p.elim
    · exact p.elim
  · exact p.elim
end
end Br
end

section
set_option Elab.async false
set_option linter.all false
set_option maxRecDepth 100000
set_option maxHeartbeats 1000000
/-! B9: calls of built-in functions and methods. -/
namespace Br
open PySem L2
theorem stars {env : Env} : ∀ {es : List Expr}, es.all plainE = true → starEach es env = es.map fun e => (false, eval e env)
  | [], _ => rfl
  | e :: es, h => by
    rw [List.all_cons, Bool.and_eq_true] at h
    rw [plain_star h.1, stars h.2]
    rfl
theorem stars_any {env : Env} {pos : Pos} {es : List Expr} (h : es.all plainE = true) : (backTo pos (starEach es env)).any (·.1) = false := by
  rw [stars h]
  unfold backTo
  rw [List.map_map, List.any_map]
  exact List.any_eq_false.mpr fun e _ => Bool.false_ne_true
theorem stars_all {env : Env} {pos : Pos} {es : List Expr} (h : es.all plainE = true) : (backTo pos (starEach es env)).all (fun x => !x.1) = true := by
  rw [stars h]
  unfold backTo
  rw [List.map_map, List.all_map]
  exact List.all_eq_true.mpr fun e _ => rfl
section
variable {L : Lk} {T : M.Tab} {X : Cx} {m : Mp} {h : M.Heap} {H : Hp} {call : Nat → List M.Val → M.Heap → M.R M.Val} {W : WX}
theorem blt_op {b : M.B} {cs : M.Es} {τ : St} {H : Hp} {Q : VK} (t : TEv L T call W (.blt b cs) τ H Q) : tCB (rBlt L T (fun cls d H' => W cls d τ H') b) (TAv L T call W cs) τ H Q := by
  obtain ⟨m, h, σ, hs, S, p⟩ := t
  rw [M.evE] at p
  exact TAv.first hs S p fun xs H1 m1 h1 vs e1 S1 hs1 r1 p1 => ⟨m1, h1, vs, S1, r1, p1⟩
theorem snd_bltB {b : M.B} {id : String} {x : Str} {e : Expr} {es : List Expr} {cs : M.Es} {p pos : Pos} (hc : ∀ E, CallR X (.builtin id) (rBlt L T E b)) (hg : Gl X x) (hm : X.mg x = none) (hv : bootBuiltins x = some (.builtin id)) (hn : x ≠ "__name__") (hdb : (x == ("__debug__" : Str)) = false)
    (hp : (e :: es).all plainE = true) (ha : PA X (e :: es) (TAv L T call W cs)) : PE X (.Call (.Name x p) (e :: es) [] pos) (TEv L T call W (.blt b cs)) := by
  have hp' := hp
  rw [List.all_cons, Bool.and_eq_true] at hp'
  exact ⟨fun pins s τ H Q I t => (pe_callB (hc fun cls d H' => W cls d τ H') hg hm hv ha hn hdb (plain_star hp'.1) (stars_any hp'.2)).run pins s τ H Q I (blt_op t)⟩
theorem snd_bltT {b : M.B} {id : String} {x : Str} {e : Expr} {es : List Expr} {cs : M.Es} {p pos : Pos} (hc : ∀ E, CallR X (.type id) (rBlt L T E b)) (hg : Gl X x) (hm : X.mg x = none) (hv : bootBuiltins x = some (.type id)) (hn : x ≠ "__name__") (hdb : (x == ("__debug__" : Str)) = false)
    (hp : (e :: es).all plainE = true) (ha : PA X (e :: es) (TAv L T call W cs)) : PE X (.Call (.Name x p) (e :: es) [] pos) (TEv L T call W (.blt b cs)) := by
  have hp' := hp
  rw [List.all_cons, Bool.and_eq_true] at hp'
  exact ⟨fun pins s τ H Q I t => (pe_callTy (hc fun cls d H' => W cls d τ H') hg hm hv ha hn hdb (plain_star hp'.1) (stars_any hp'.2)).run pins s τ H Q I (blt_op t)⟩
/-- what a receiver is -/
def RecvOk (L : Lk) (X : Cx) (b : M.B) (Ty : String) : Prop := ∀ (pins : List (Addr × Obj)) (s : Shared) (σ : St) (H : Hp) (m : Mp) (h : M.Heap) (a : M.Val) (x : V) (v : Value), Inv X pins σ H s → RelV x v → Sim L m h H → vrel L m H a x → M.recv b a h = true →
  s.TypeIs v Ty ∧ ∀ q, v = .ref q → ∃ ob, s.heap.get? q = some ob ∧ ob.dict = none
theorem snd_bm {b : M.B} {Ty id : String} {name : Str} {o e : Expr} {es : List Expr} {co : M.E} {cs : M.Es} {apos cpos : Pos} (pa : PlainAttrs Ty) (slot : Slot Ty name id) (hty : typeOf (.builtin id) = pure (.type "method_descriptor"))
    (hr : RecvOk L X b Ty) (hm : ∀ E, MtR X id (rBm L T E b)) (ho : PE X o (TEv L T call W co)) (ha : PA X (e :: es) (TAv L T call W cs)) (po : plainE o = true) (hp : (e :: es).all plainE = true) (hl : (e :: es).length < 30) (hline : (apos.endLine == cpos.line) = true) :
    PE X (.Call (.Attribute o name apos) (e :: es) [] cpos) (TEv L T call W (.bm b co cs)) := by
  refine ⟨fun pins s τ H Q I ⟨m, h, σ, hs, S, p⟩ => ?_⟩
  rw [M.evE] at p
  have few : ((backTo cpos (starEach (e :: es) X.env)).all (fun x => !x.1) && (backToKw cpos (keywordEach [] X.env)).all (fun x => x.1.isSome) && decide ((e :: es).length + ([] : List Keyword).length + (if ([] : List Keyword).isEmpty then 0 else 1) < 30)) = true := by
    rw [stars_all hp, Bool.true_and]
    exact decide_eq_true hl
  have t1 := TEv.first (c := co) (W := W) (L := L) (T := T) (call := call) (R := fun x H1 => ∃ m1 h1 v, Sim L m1 h1 H1 ∧ vrel L m1 H1 v x ∧ M.recv b v h1 = true ∧
      TAv L T call W cs τ H1 fun xs H2 => rBm L T (fun cls d H' => W cls d τ H') b x xs H2 Q) hs S p fun x H1 m1 h1 v e1 S1 hs1 r1 p1 => by
    split at p1
    · rename_i c
      exact ⟨m1, h1, v, S1, r1, c, TAv.first hs1 S1 p1 fun xs H2 m2 h2 vs e2 S2 hs2 r2 p2 => ⟨m2, h2, v, vs, S2, vrel.ext e2 r1, r2, p2⟩⟩
    · exact p1.elim
  refine wpAny_Call_method_late (plain_base po _) few hline rfl (thn (ho.run pins s τ H _ I t1) fun v s1 ⟨x, H1, I1, r1, m1, h1, a, S1, ra, c, q1⟩ => ?_)
  obtain ⟨g1, g2⟩ := hr pins s1 τ H1 m1 h1 a x v I1 r1 S1 ra c
  refine ⟨Ty, id, pa, slot, hty, g1, g2, ?_⟩
  have hA := ha.run cpos pins s1 τ H1 _ I1 q1
  have hp' := hp
  rw [List.all_cons, Bool.and_eq_true] at hp'
  rw [plain_star hp'.1] at hA ⊢
  refine Calls.callWith_builtin (by show (false || (backTo cpos (starEach es X.env)).any (·.1)) = false; rw [stars_any hp'.2] <;> rfl) (Calls.evalArgs_plain ?_)
  exact thn hA fun us s2 ⟨vs, H2, I2, r2, q2⟩ => hm (fun cls d H' => W cls d τ H') pins s2 τ H2 x vs v us Q I2 r1 r2 q2
theorem recv_list {b : M.B} (hb : ∀ a h, M.recv b a h = true → ∃ vs, M.lstOf h a = some vs) (hK : X.K = L.K) : RecvOk L X b "list" := by
  intro pins s σ H m h a x v I rx S ra c
  obtain ⟨vs, e⟩ := hb a h c
  obtain ⟨A, ys, rfl, z, _⟩ := S.seq ra e
  exact tyV_is I rx (T := "list") (.inl ⟨rfl, ys, by rw [hK]; exact z⟩)
theorem recv_append {h : M.Heap} {a : M.Val} (c : M.recv .append a h = true) : ∃ vs, M.lstOf h a = some vs := by
  unfold M.recv at c
  simp only at c
  split at c
  · split at c
    · rename_i e
      exact ⟨_, by unfold M.lstOf; simp only [e]; rfl⟩
    · cases c
  · cases c
theorem recv_extend {h : M.Heap} {a : M.Val} (c : M.recv .extend a h = true) : ∃ vs, M.lstOf h a = some vs := recv_append c
theorem recv_count {h : M.Heap} {a : M.Val} (c : M.recv .count a h = true) : ∃ vs, M.lstOf h a = some vs := Option.isSome_iff_exists.mp c
/-! ### d.get(k), d.get(k, v) -/
theorem optD {r : Option M.Val} {r' : Option V} {d : M.Val} {y : V} (q : optRel L m H r r') (rd : vrel L m H d y) : vrel L m H (r.getD d) (r'.getD y) := by
  cases r <;> cases r' <;> first | exact rd | exact q | exact q.elim
theorem recv_get (G : Glb L X) : RecvOk L X .get "dict" := by
  intro pins s σ H m h a x v I rx S ra c
  unfold M.recv at c
  simp only at c
  split at c
  · rename_i kvs e
    cases a with
    | ref a' =>
      obtain ⟨A, ea, rfl⟩ := ra
      obtain ⟨o, eo, ro⟩ := S.obj a' A ea
      have e : h.get a' = some (.dct kvs) := e
      rw [eo] at e
      cases e
      obtain ⟨ys, z, _⟩ := ro
      cases rx
      obtain ⟨g1, g2, _⟩ := isD_at I (.inl ⟨ys, .inl z⟩)
      exact ⟨g1, g2⟩
    | glb n =>
      obtain ⟨rfl, hn⟩ := ra
      cases rx
      refine G.typ n (glb6 e) ?_ (.inl ⟨kvs, e⟩) pins s σ H I
      rcases hn with q | hn
      · exact absurd q (glb6 e)
      · exact hn
    | _ => cases e
  · rename_i kvs e
    cases a with
    | ref a' =>
      obtain ⟨A, ea, rfl⟩ := ra
      obtain ⟨o, eo, ro⟩ := S.obj a' A ea
      have e : h.get a' = some (.dcT kvs) := e
      rw [eo] at e
      cases e
      obtain ⟨ys, z, _⟩ := ro
      cases rx
      obtain ⟨g1, g2, _⟩ := isD_at I (.inr ⟨ys, .inl z⟩)
      exact ⟨g1, g2⟩
    | glb n =>
      obtain ⟨rfl, hn⟩ := ra
      cases rx
      refine G.typ n (glb6 e) ?_ (.inr ⟨kvs, e⟩) pins s σ H I
      rcases hn with q | hn
      · exact absurd q (glb6 e)
      · exact hn
    | _ => cases e
  · cases c
theorem getD_post {E : XK} {d k y : M.Val} {Q : VK} (p : Post (L := L) T (vrel L) E (M.bGet d k y h) m H Q) : ∃ o r, M.dictOf h d = some o ∧ M.dGet o k = some r ∧ Post (L := L) T (vrel L) E (.ok (r.getD y) h) m H Q := by
  unfold M.bGet at p
  cases e : (M.dictOf h d).bind (M.dGet · k) with
  | none => rw [e] at p; exact p.elim
  | some r =>
    rw [e] at p
    obtain ⟨o, e1, e2⟩ := Option.bind_eq_some_iff.mp e
    refine ⟨o, r, e1, e2, ?_⟩
    cases r with
    | none => exact p
    | some v => exact p
theorem mtR_get {E : XK} (hu : X.A.units + 1 < cLine) (G : Glb L X) : MtR X "dict.get" (rBm L T E .get) := by
  intro pins s σ H x xs v us Q I rx rxs ⟨m, h, a, vs, S, ra, rs, p⟩
  have p : Post (L := L) T (vrel L) E (match a :: vs with
    | [d, k] => M.bGet d k .non h
    | [d, k, y] => M.bGet d k y h
    | _ => .bad) m H Q := p
  have main : ∀ (k d : M.Val) (y z : V) (more : List V), vrel L m H k y → vrel L m H d z → ((xs = [y] ∧ z = .non) ∨ xs = [y, z]) → Post (L := L) T (vrel L) E (M.bGet a k d h) m H Q →
      wpAny (model X.prog X.w) X.A (PySem.call (.builtin "dict.get") (v :: us)) (EP X pins σ Q) X.xe s := by
    intro k d y z more rk rd hx p
    obtain ⟨o, r, e1, e2, p0⟩ := getD_post p
    cases a with
    | ref a' =>
      obtain ⟨A, ea, rfl⟩ := ra
      obtain ⟨o', eo, ro⟩ := S.obj a' A ea
      have e1 : h.get a' = some o := e1
      rw [eo] at e1
      cases e1
      obtain ⟨r', g, rr⟩ := dGet_rel ro e2 rk
      cases rx
      rcases hx with ⟨rfl, rfl⟩ | rfl
      · obtain ⟨u, rfl, ru⟩ := Vals.one rxs
        exact d_get1 hu I g ru fun w' s' I' r1 => ⟨_, H, I', r1, p0.val S (optD rr rd)⟩
      · obtain ⟨u, u2, rfl, ru, ru2⟩ := Vals.two rxs
        exact d_get2 hu I g ru ru2 fun w' s' I' r1 => ⟨_, H, I', r1, p0.val S (optD rr rd)⟩
    | glb n =>
      obtain ⟨ea, hn⟩ := ra
      have hn : L.hg n = true := by
        rcases hn with q | hn
        · exact absurd q (glb6 e1)
        · exact hn
      refine G.get pins s σ H x xs v us Q I rx rxs ⟨n, o, k, r, m, y, z, glb6 e1, hn, e1, e2, rk, ea, hx, fun w hw => ?_⟩
      cases r with
      | none => exact p0.val S (by rw [show w = z from hw]; exact rd)
      | some v0 => exact p0.val S (hw m)
    | _ => cases e1
  split at p
  · rename_i d k e
    cases e
    obtain ⟨y, t, rfl, r1, r2⟩ := rs
    cases (show t = [] from r2)
    exact main k .non y .non [] r1 rfl (.inl ⟨rfl, rfl⟩) p
  · rename_i d k w e
    cases e
    obtain ⟨y, z, rfl, r1, r2⟩ := vrels2 rs
    exact main k w y z [] r1 r2 (.inr rfl) p
  · exact p.elim
end
end Br
end

section
set_option Elab.async false
set_option linter.all false
set_option maxRecDepth 100000
set_option maxHeartbeats 1000000
/-! B10: fields, defs, methods, new instances. -/
namespace Br
open PySem L2
/-- what a def does, to the depth n -/
def spec (L : Lk) (T : M.Tab) (n f : Nat) : Sp := fun vs H Q E => ∃ m h lv, vrels L m H lv vs ∧ Sim L m h H ∧ Post (L := L) T (vrel L) E (M.callAt T n f lv h) m H Q
/-- the classes of the table -/
structure Fx (L : Lk) (T : M.Tab) : Prop where
  cls : ∀ c f, T.init c = some f → Cls L.K (L.cA c)
  mks : ∀ c f, T.init c = some f → Mk L.K (L.cA c) (L.fA f)
  meth : ∀ c m f, T.meth c m = some f → Meth L.K (L.cA c) (L.fN m) (L.fA f)
  prop : ∀ c f g, T.prop c f = some g → ∃ p, PropOf L.K (L.cA c) (L.fN f) p (L.fA g)
  noat : ∀ c f, T.fld c f = true → NoAttr L.K (L.cA c) (L.fN f)
  inj : ∀ a b, L.fN a = L.fN b → a = b
/-- the defs of the table, to the depth n -/
def Fns (L : Lk) (T : M.Tab) (X : Cx) (n : Nat) : Prop := ∀ f F, T.fn f = some F → ∃ fd ps, FnOk X.prog X.w X.K X.mg X.base (CX X.prog X.w) (2 * n) (L.fA f) fd ps (spec L T n f) ∧ Binds X.K fd ps [] ∧ PySem.W.keepIn X.K (.ref (L.fA f)) = true
/-- what is true of a def's body -/
structure Gd (L : Lk) (T : M.Tab) (X : Cx) (W : WX) (n : Nat) : Prop where
  hK : X.K = L.K
  nd : X.N.Nodup
  room : Room (2 * n + 1) X.A
  tk : Takes X W
  fx : Fx L T
  fns : Fns L T X n
  glb : ∀ X' : Cx, X'.prog = X.prog → X'.w = X.w → X'.K = X.K → Glb L X'
section
variable {L : Lk} {T : M.Tab} {X : Cx} {m : Mp} {h : M.Heap} {H : Hp} {W : WX} {n : Nat}
theorem callAt_fn {f : Nat} {lv : List M.Val} {E : XK} {Q : VK} (p : Post (L := L) T (vrel L) E (M.callAt T n f lv h) m H Q) : ∃ F, T.fn f = some F := by
  cases n with
  | zero => exact p.elim
  | succ n =>
    unfold M.callAt at p
    split at p
    · rename_i F e
      exact ⟨F, e⟩
    · exact p.elim
theorem fn_run (G : Gd L T X W n) {f : Nat} {pins : List (Addr × Obj)} {τ : St} {H : Hp} {s : Shared} {Q : VK} {us : List Value} {vs : List V} {m : Mp} {h : M.Heap} {lv : List M.Val} (I : Inv X pins τ H s) (r : Vals vs us) (rl : vrels L m H lv vs) (S : Sim L m h H)
    (p : Post (L := L) T (vrel L) (fun cls d H' => W cls d τ H') (M.callAt T n f lv h) m H Q) : wpAny (model X.prog X.w) X.A (call (.ref (L.fA f)) us) (EP X pins τ Q) X.xe s := by
  obtain ⟨F, e⟩ := callAt_fn p
  obtain ⟨fd, ps, ok, hb, _⟩ := G.fns f F e
  exact run_fnS (E := WE W) ok (G.room.mono (by omega)) hb (passAt G.tk τ) I r ⟨m, h, lv, rl, S, p⟩
theorem kvrel.look {f : Nat} (hi : ∀ a b, L.fN a = L.fN b → a = b) : ∀ {fs : List (Nat × M.Val)} {ys : List (Str × V)}, kvrel (L := L) L.fN m H fs ys → optRel L m H (M.lookF f fs) (ys.lookup (L.fN f))
  | [], ys, r => by
    have e : ys = [] := r
    rw [e]
    trivial
  | (g, v) :: rest, ys, r => by
    obtain ⟨y, t, rfl, r1, r2⟩ := r
    unfold M.lookF
    rw [List.lookup_cons]
    by_cases e : f = g
    · subst e
      rw [if_pos rfl, beq_self_eq_true]
      exact r1
    · rw [if_neg e, beq_eq_false_iff_ne.mpr fun q => e (hi _ _ q)]
      exact kvrel.look hi r2
/-- an instance -/
theorem Sim.ins (S : Sim L m h H) {a c : Nat} {A : Addr} {fs : List (Nat × M.Val)} (ea : m a = some A) (e : h.get a = some (.ins c fs)) :
    ∃ dx ys, H A = some (.ins (L.cA c) dx ys) ∧ kvrel (L := L) L.fN m H fs ys ∧ Cls L.K (L.cA c) ∧ ∀ p ∈ fs, NoAttr L.K (L.cA c) (L.fN p.1) := by
  obtain ⟨o, eo, ro⟩ := S.obj a A ea
  rw [e] at eo
  cases eo
  exact ro
theorem lookF_mem {f : Nat} {v : M.Val} : ∀ {fs : List (Nat × M.Val)}, M.lookF f fs = some v → (f, v) ∈ fs
  | [], e => by cases e
  | (g, w) :: r, e => by
    unfold M.lookF at e
    split at e
    · rename_i q
      cases e
      rw [q]
      exact List.mem_cons_self ..
    · exact List.mem_cons_of_mem _ (lookF_mem e)
/-! ### f(e, ..) -/
theorem call_arg (G : Gd L T X W n) {f : Nat} {cs : M.Es} {τ : St} {H : Hp} {Q : VK} (t : TEv L T (M.callAt T n) W (.call f cs []) τ H Q) :
    TAv L T (M.callAt T n) W cs τ H fun xs H1 => ∃ m1 h1 vs, Sim L m1 h1 H1 ∧ vrels L m1 H1 vs xs ∧ Post (L := L) T (vrel L) (fun cls d H' => W cls d τ H') (M.callAt T n f vs h1) m1 H1 Q := by
  obtain ⟨m, h, σ, hs, S, q⟩ := t
  rw [M.evE] at q
  exact TAv.first hs S q fun xs H1 m1 h1 vs e1 S1 hs1 r1 p1 => ⟨m1, h1, vs, S1, r1, by rw [List.append_nil] at p1; exact p1⟩
theorem snd_call (G : Gd L T X W n) {f : Nat} {x : Str} {e : Expr} {es : List Expr} {cs : M.Es} {p pos : Pos} (hf : (T.fn f).isSome = true) (hg : Gl X x) (hm : X.mg x = some (.ref (L.fA f))) (hdb : (x == ("__debug__" : Str)) = false)
    (ha : PA X (e :: es) (TAv L T (M.callAt T n) W cs)) (hp : (e :: es).all plainE = true) : PE X (.Call (.Name x p) (e :: es) [] pos) (TEv L T (M.callAt T n) W (.call f cs [])) := by
  obtain ⟨F, eF⟩ := Option.isSome_iff_exists.mp hf
  obtain ⟨_, _, _, _, kp⟩ := G.fns f F eF
  have hp' := hp
  rw [List.all_cons, Bool.and_eq_true] at hp'
  refine ⟨fun pins s τ H Q I t => wpAny_Call_Name_kw (ld_glob I hg hm (PySem.W.callWith_K (h₀ := X.base) I.ok.mod.kin kp (thn (ha.run pos pins s τ H _ I (call_arg G t)) fun us s1 ⟨vs, H1, I1, r, m1, h1, lv, S1, rl, q⟩ => ⟨I1.kIn, ?_⟩) (plain_star hp'.1) (stars_any hp'.2)) hdb)⟩
  exact fn_run G I1 r rl S1 q
theorem evEs_nil {call : Nat → List M.Val → M.Heap → M.R M.Val} {τ : St} {H : Hp} {R : List V → Hp → Prop} (t : TAv L T call W .nil τ H R) : R [] H := by
  obtain ⟨m, h, σ, hs, S, p⟩ := t
  rw [M.evEs] at p
  exact p m H [] .refl S rfl
theorem snd_call0 (G : Gd L T X W n) {f : Nat} {x : Str} {p pos : Pos} (hf : (T.fn f).isSome = true) (hg : Gl X x) (hm : X.mg x = some (.ref (L.fA f))) (hdb : (x == ("__debug__" : Str)) = false) :
    PE X (.Call (.Name x p) [] [] pos) (TEv L T (M.callAt T n) W (.call f .nil [])) := by
  obtain ⟨F, eF⟩ := Option.isSome_iff_exists.mp hf
  obtain ⟨_, _, _, _, kp⟩ := G.fns f F eF
  refine ⟨fun pins s τ H Q I t => ?_⟩
  obtain ⟨m1, h1, lv, S1, rl, q⟩ := evEs_nil (call_arg G t)
  exact wpAny_Call_Name_kw (ld_glob I hg hm (PySem.W.callWith_K0 I.kIn kp (fn_run (us := []) G I .nil rl S1 q)) hdb)
/-! ### o.f -/
theorem snd_fld (G : Gd L T X W n) {o : Expr} {co : M.E} {f : Nat} {x : Str} {pos : Pos} (hx : x = L.fN f) (ho : PE X o (TEv L T (M.callAt T n) W co)) (po : plainE o = true) :
    PE X (.Attribute o x pos) (TEv L T (M.callAt T n) W (.fld co f)) := by
  subst hx
  refine ⟨fun pins s τ H Q I ⟨m, h, σ, hs, S, q⟩ => ?_⟩
  rw [M.evE] at q
  have t := TEv.first (c := co) (W := W) (L := L) (T := T) (call := M.callAt T n) (R := fun x H1 => ∃ m1 h1 v, Sim L m1 h1 H1 ∧ vrel L m1 H1 v x ∧ Post (L := L) T (vrel L) (fun cls d H' => W cls d τ H') (M.getF T (M.callAt T n) v f h1) m1 H1 Q) hs S q
    fun x H1 m1 h1 v e1 S1 hs1 r1 p1 => ⟨m1, h1, v, S1, r1, p1⟩
  refine attr_of (plain_base po _) (thn (ho.run pins s τ H _ I t) fun u s1 ⟨x, H1, I1, rx, m1, h1, v, S1, rv, p⟩ => ?_)
  unfold M.getF at p
  split at p
  · rename_i a
    obtain ⟨A, ea, rfl⟩ := rv
    obtain rfl : u = Value.ref A := rx
    split at p
    · rename_i c fs e
      obtain ⟨dx, ys, hA, rk, hc, hn⟩ := S1.ins ea e
      have lk := rk.look (f := f) G.fx.inj
      split at p
      · rename_i w e2
        rw [e2] at lk
        cases ey : ys.lookup (L.fN f) with
        | none => rw [ey] at lk; exact lk.elim
        | some y =>
          rw [ey] at lk
          exact getattr_ok I1 hA (by rw [G.hK]; exact hc) (by rw [G.hK]; exact hn _ (lookF_mem e2)) ey fun u s' I' ru => ⟨y, H1, I', ru, p.val S1 lk⟩
      · split at p
        · rename_i g e3
          obtain ⟨pr, hp⟩ := G.fx.prop c f g e3
          cases e4 : M.callAt T n g [.ref a] h1 with
          | ok v2 h2 =>
            rw [e4] at p
            have p0 : Post (L := L) T (vrel L) (fun _ _ _ => False) (M.callAt T n g [.ref a] h1) m1 H1 Q := by rw [e4]; exact p
            obtain ⟨F, eF⟩ := callAt_fn p0
            obtain ⟨fd, ps, ok, hb, _⟩ := G.fns g F eF
            exact getprop_ok (dvs := []) (E := fun _ _ _ => False) I1 hA (by rw [G.hK]; exact hc) (by rw [G.hK]; exact hp) ok (G.room.mono (by omega)) hb .nil (fun _ _ _ _ _ _ _ ⟨_, _, _, _, _, _, _, _, _, _, _, _, w⟩ => w.elim) ⟨m1, h1, [.ref a], ⟨_, [], rfl, ⟨A, ea, rfl⟩, rfl⟩, S1, p0⟩
          | exc _ _ _ => rw [e4] at p; exact p.elim
          | bad => rw [e4] at p; exact p.elim
        · exact p.elim
    · exact p.elim
  · exact p.elim
/-! ### o.m(e, ..) -/
theorem call_eq {o : Expr} {m : Str} {apos pos : Pos} {es : List Expr} {env : Env} (po : plainE o = true) (hp : es.all plainE = true) (hl : es.length < 30) (hline : (apos.endLine == pos.line) = true) : ∃ pl : Sem Bool, eval (.Call (.Attribute o m apos) es [] pos) env = (do
      let ov ← eval o env
      standAt apos.atName
      let (f, first) ← holding [ov] (getMethod ov m pl)
      callWith pos f first (backTo pos (starEach es env)) (backToKw pos (keywordEach [] env))) := by
  refine ⟨(do return (← importBound o env).getD true), ?_⟩
  rw [arm_eval_Call, plain_base po]
  have hform : methodCallForm (es.length + ([] : List Keyword).length) (backTo pos (starEach es env)) (backToKw pos (keywordEach [] env)) = true := by
    unfold methodCallForm
    rw [stars_all hp, Bool.true_and]
    exact decide_eq_true hl
  have hpos : methodCallPos true o env apos pos = pure pos := by
    unfold methodCallPos
    rw [hline]
    rfl
  unfold methodCall
  rw [hform, hpos]
  rfl
theorem meth_split (G : Gd L T X W n) {co : M.E} {k : Nat} {cs : M.Es} {τ : St} {H : Hp} {Q : VK} (t : TEv L T (M.callAt T n) W (.meth co k cs) τ H Q) :
    TEv L T (M.callAt T n) W co τ H fun x H1 => ∃ A dx ys c f, x = .ref A ∧ H1 A = some (.ins (L.cA c) dx ys) ∧ Cls X.K (L.cA c) ∧ Meth X.K (L.cA c) (L.fN k) (L.fA f) ∧ ys.lookup (L.fN k) = none ∧
      TAv L T (M.callAt T n) W cs τ H1 fun xs H2 => ∃ m2 h2 vs, Sim L m2 h2 H2 ∧ vrels L m2 H2 vs (x :: xs) ∧ Post (L := L) T (vrel L) (fun cls d H' => W cls d τ H') (M.callAt T n f vs h2) m2 H2 Q := by
  obtain ⟨m, h, σ, hs, S, q⟩ := t
  rw [M.evE] at q
  refine TEv.first hs S q fun x H1 m1 h1 v e1 S1 hs1 r1 p => ?_
  split at p
  · rename_i f e
    unfold M.methOf at e
    split at e
    · rename_i a
      obtain ⟨A, ea, rfl⟩ := r1
      split at e
      · rename_i c fs e2
        obtain ⟨dx, ys, hA, rk, hc, hn⟩ := S1.ins ea e2
        have lk := rk.look (f := k) G.fx.inj
        split at e
        · rename_i e3
          rw [e3] at lk
          refine ⟨A, dx, ys, c, f, rfl, hA, by rw [G.hK]; exact hc, by rw [G.hK]; exact G.fx.meth c k f e, ?_, ?_⟩
          · cases ey : ys.lookup (L.fN k) with
            | none => rfl
            | some y => rw [ey] at lk; exact lk.elim
          · exact TAv.first hs1 S1 p fun xs H2 m2 h2 vs e4 S2 hs2 r2 p2 => ⟨m2, h2, .ref a :: vs, S2, ⟨_, xs, rfl, ⟨A, e4.mono a A ea, rfl⟩, r2⟩, p2⟩
        · cases e
      · cases e
    · cases e
  · exact p.elim
theorem meth_kp (G : Gd L T X W n) {C : Addr} {k : Str} {f : Addr} (hm : Meth X.K C k f) : PySem.W.keepIn X.K (.ref f) = true := hm.kp
theorem snd_meth (G : Gd L T X W n) {o e : Expr} {es : List Expr} {co : M.E} {k : Nat} {x : Str} {cs : M.Es} {apos pos : Pos} (hx : x = L.fN k) (ho : PE X o (TEv L T (M.callAt T n) W co)) (ha : PA X (e :: es) (TAv L T (M.callAt T n) W cs))
    (po : plainE o = true) (hp : (e :: es).all plainE = true) (hl : (e :: es).length < 30) (hline : (apos.endLine == pos.line) = true) : PE X (.Call (.Attribute o x apos) (e :: es) [] pos) (TEv L T (M.callAt T n) W (.meth co k cs)) := by
  subst hx
  obtain ⟨pl, ht⟩ := call_eq (m := L.fN k) (env := X.env) po hp hl hline
  have hp' := hp
  rw [List.all_cons, Bool.and_eq_true] at hp'
  refine ⟨fun pins s τ H Q I t => PySem.W.methodCall_KW (pl := pl) (thn (ho.run pins s τ H _ I (meth_split G t)) fun u s1 ⟨x, H1, I1, rx, A, dx, ys, c, f, ex, hA, hc, hm, l, q⟩ => ?_) ht⟩
  subst ex
  obtain rfl : u = Value.ref A := rx
  refine getmeth_ok I1 hA hc hm l (PySem.W.callWith_K (first := [.ref A]) (h₀ := X.base) I.ok.mod.kin hm.kp (thn (ha.run pos pins s1 τ H1 _ I1 q) fun us s2 ⟨vs, H2, I2, r, m2, h2, lv, S2, rl, q2⟩ => ⟨I2.kIn, ?_⟩) (plain_star hp'.1) (stars_any hp'.2))
  exact fn_run (us := .ref A :: us) (vs := .ref A :: vs) G I2 (.cons rfl r) rl S2 q2
theorem snd_meth0 (G : Gd L T X W n) {o : Expr} {co : M.E} {k : Nat} {x : Str} {apos pos : Pos} (hx : x = L.fN k) (ho : PE X o (TEv L T (M.callAt T n) W co)) (po : plainE o = true) (hline : (apos.endLine == pos.line) = true) :
    PE X (.Call (.Attribute o x apos) [] [] pos) (TEv L T (M.callAt T n) W (.meth co k .nil)) := by
  subst hx
  obtain ⟨pl, ht⟩ := call_eq (m := L.fN k) (es := []) (env := X.env) po rfl (by decide) hline
  refine ⟨fun pins s τ H Q I t => PySem.W.methodCall_KW (pl := pl) (thn (ho.run pins s τ H _ I (meth_split G t)) fun u s1 ⟨x, H1, I1, rx, A, dx, ys, c, f, ex, hA, hc, hm, l, q⟩ => ?_) ht⟩
  subst ex
  obtain rfl : u = Value.ref A := rx
  obtain ⟨m2, h2, lv, S2, rl, q2⟩ := evEs_nil q
  exact getmeth_ok I1 hA hc hm l (PySem.W.callWith_K0 (first := [.ref A]) I1.kIn hm.kp (fn_run (us := [.ref A]) (vs := [.ref A]) G I1 (.cons rfl .nil) rl S2 q2))
end
end Br
end

section
set_option Elab.async false
set_option linter.all false
set_option maxRecDepth 100000
set_option maxHeartbeats 1000000
/-! B11: new instances. -/
namespace Br
open PySem L2
section
variable {L : Lk} {T : M.Tab} {X : Cx} {m : Mp} {h : M.Heap} {H : Hp} {W : WX} {n : Nat}
theorem make_run (G : Gd L T X W n) {c f : Nat} {pins : List (Addr × Obj)} {τ : St} {H : Hp} {s : Shared} {Q : VK} {us : List Value} {vs : List V} {m : Mp} {h : M.Heap} {lv : List M.Val} (I : Inv X pins τ H s) (r : Vals vs us) (rl : vrels L m H lv vs) (S : Sim L m h H)
    (hc : T.init c = some f) (p : Post (L := L) T (vrel L) (fun cls d H' => W cls d τ H') (M.make T (M.callAt T n) c lv h) m H Q) : wpAny (model X.prog X.w) X.A (call (.ref (L.cA c)) us) (EP X pins τ Q) X.xe s := by
  have mk := G.fx.mks c f hc
  rw [← G.hK] at mk
  have cl := G.fx.cls c f hc
  have hx : H (s.heap.objs.size + 1) = none := I.hok.fresh (Nat.le_succ _)
  have hdx : H s.heap.objs.size = none := I.hok.fresh (Nat.le_refl _)
  have ne : s.heap.objs.size ≠ s.heap.objs.size + 1 := Nat.ne_of_lt (Nat.lt_succ_self _)
  have I2 := Inv.made (C := L.cA c) I
  have x1 : Ext m H m (upd H s.heap.objs.size (.own (s.heap.objs.size + 1))) := Ext.fresh hdx
  have S1 : Sim L m h (upd H s.heap.objs.size (.own (s.heap.objs.size + 1))) := Sim.fresh S hdx
  have hx1 : upd H s.heap.objs.size (.own (s.heap.objs.size + 1)) (s.heap.objs.size + 1) = none := by rw [upd_ne ne.symm]; exact hx
  have x2 := Ext.push (O := .ins (L.cA c) s.heap.objs.size []) S1 hx1
  have S2 : Sim L (bindAt m h.size (s.heap.objs.size + 1)) (h.push (.ins c [])) (upd (upd H s.heap.objs.size (.own (s.heap.objs.size + 1))) (s.heap.objs.size + 1) (.ins (L.cA c) s.heap.objs.size [])) :=
    Sim.push S1 hx1 ⟨s.heap.objs.size, [], upd_same, rfl, cl, fun p hp => by cases hp⟩
  have hself : bindAt m h.size (s.heap.objs.size + 1) h.size = some (s.heap.objs.size + 1) := by unfold bindAt; rw [if_pos rfl]
  have rl2 : vrels L (bindAt m h.size (s.heap.objs.size + 1)) (upd (upd H s.heap.objs.size (.own (s.heap.objs.size + 1))) (s.heap.objs.size + 1) (.ins (L.cA c) s.heap.objs.size [])) (.ref h.size :: lv) (V.ref (s.heap.objs.size + 1) :: vs) :=
    ⟨_, vs, rfl, ⟨_, hself, rfl⟩, vrels.ext (x1.trans x2) rl⟩
  have p2 : Post (L := L) T (vrel L) (fun cls d H' => W cls d τ H') (M.callAt T n f (.ref h.size :: lv) (h.push (.ins c []))) (bindAt m h.size (s.heap.objs.size + 1))
      (upd (upd H s.heap.objs.size (.own (s.heap.objs.size + 1))) (s.heap.objs.size + 1) (.ins (L.cA c) s.heap.objs.size [])) (fun v H2 => v = .non ∧ Q (.ref (s.heap.objs.size + 1)) H2) := by
    unfold M.make at p
    rw [hc] at p
    simp only at p
    split at p
    · rename_i h1 e
      rw [e]
      intro m' H' x e1 s1 rv
      exact ⟨rv, p m' H' _ (x1.trans (x2.trans e1)) s1 ⟨_, e1.mono _ _ hself, rfl⟩⟩
    · exact p.elim
    · rename_i e
      rw [e]
      exact Post.ext (α := M.Val) (β := V) (rel := vrel L) (r := .exc _ _ _) (Q := Q) (x1.trans x2) p
    · exact p.elim
  obtain ⟨F, eF⟩ := callAt_fn p2
  obtain ⟨fd, ps, ok, hb, _⟩ := G.fns f F eF
  have r2 : Vals (V.ref (s.heap.objs.size + 1) :: vs) (Value.ref (s.heap.objs.size + 1) :: us) := .cons rfl r
  have sp : spec L T n f (V.ref (s.heap.objs.size + 1) :: vs) _ (fun v H2 => v = .non ∧ Q (.ref (s.heap.objs.size + 1)) H2) (WE W τ) := ⟨_, _, _, rl2, S2, p2⟩
  have hl : (Value.ref (s.heap.objs.size + 1) :: us).length = ps.length := by rw [← r2.length]; exact ok.len _ _ _ _ sp
  have b := hb { s with heap := (s.heap.push PySem.W.emptyDict).push (PySem.W.instObj (L.cA c) s.heap.objs.size) } (Value.ref (s.heap.objs.size + 1) :: us) I2.kIn (by rw [List.append_nil]; exact hl)
  rw [List.append_nil] at b
  have hr : Room (2 * n) (X.A.under (.builtin "type.__call__" ⟨.ref (L.cA c) :: us, []⟩)) := G.room.make (L.cA c) us []
  refine wpAny_call (make_map (f := L.fA f) I.kIn mk.makes mk.init (beq_iff_eq.mp mk.fn) (codeAny_mono (ok.run _ X.stack _ _ ⟨Value.ref (s.heap.objs.size + 1) :: us, []⟩ _ _ _ (WE W τ) hr (I2.env0.make (L.cA c) us []) b r2 sp) fun fl s' hq => ?_))
  cases fl with
  | error e => exact passAt G.tk τ pins _ _ e s' I2 hq
  | ok fl =>
    cases fl with
    | ret u =>
      obtain ⟨v, H', I3, rv, ev, q3⟩ := I2.after hq
      subst ev
      exact ⟨rv, ⟨V.ref (s.heap.objs.size + 1), H', I3, rfl, q3⟩⟩
    | next => exact hq.elim
    | brk => exact hq.elim
    | cont => exact hq.elim
theorem make_arg {c : Nat} {cs : M.Es} {τ : St} {H : Hp} {Q : VK} (t : TEv L T (M.callAt T n) W (.mk c cs) τ H Q) :
    TAv L T (M.callAt T n) W cs τ H fun xs H1 => ∃ m1 h1 vs, Sim L m1 h1 H1 ∧ vrels L m1 H1 vs xs ∧ Post (L := L) T (vrel L) (fun cls d H' => W cls d τ H') (M.make T (M.callAt T n) c vs h1) m1 H1 Q := by
  obtain ⟨m, h, σ, hs, S, q⟩ := t
  rw [M.evE] at q
  exact TAv.first hs S q fun xs H1 m1 h1 vs e1 S1 hs1 r1 p1 => ⟨m1, h1, vs, S1, r1, p1⟩
theorem snd_mk (G : Gd L T X W n) {c : Nat} {x : Str} {e : Expr} {es : List Expr} {cs : M.Es} {p pos : Pos} (hc : (T.init c).isSome = true) (hg : Gl X x) (hm : X.mg x = some (.ref (L.cA c))) (hdb : (x == ("__debug__" : Str)) = false)
    (ha : PA X (e :: es) (TAv L T (M.callAt T n) W cs)) (hp : (e :: es).all plainE = true) : PE X (.Call (.Name x p) (e :: es) [] pos) (TEv L T (M.callAt T n) W (.mk c cs)) := by
  obtain ⟨f, ef⟩ := Option.isSome_iff_exists.mp hc
  have mk := G.fx.mks c f ef
  rw [← G.hK] at mk
  have hp' := hp
  rw [List.all_cons, Bool.and_eq_true] at hp'
  refine ⟨fun pins s τ H Q I t => wpAny_Call_Name_kw (ld_glob I hg hm (PySem.W.callWith_K (h₀ := X.base) I.ok.mod.kin mk.kp (thn (ha.run pos pins s τ H _ I (make_arg t)) fun us s1 ⟨vs, H1, I1, r, m1, h1, lv, S1, rl, q⟩ => ⟨I1.kIn, ?_⟩) (plain_star hp'.1) (stars_any hp'.2)) hdb)⟩
  exact make_run G I1 r rl S1 ef q
theorem snd_mk0 (G : Gd L T X W n) {c : Nat} {x : Str} {p pos : Pos} (hc : (T.init c).isSome = true) (hg : Gl X x) (hm : X.mg x = some (.ref (L.cA c))) (hdb : (x == ("__debug__" : Str)) = false) :
    PE X (.Call (.Name x p) [] [] pos) (TEv L T (M.callAt T n) W (.mk c .nil)) := by
  obtain ⟨f, ef⟩ := Option.isSome_iff_exists.mp hc
  have mk := G.fx.mks c f ef
  rw [← G.hK] at mk
  refine ⟨fun pins s τ H Q I t => ?_⟩
  obtain ⟨m1, h1, lv, S1, rl, q⟩ := evEs_nil (make_arg t)
  exact wpAny_Call_Name_kw (ld_glob I hg hm (PySem.W.callWith_K0 I.kIn mk.kp (make_run (us := []) G I .nil rl S1 ef q)) hdb)
end
end Br
end

section
set_option Elab.async false
set_option linter.all false
set_option maxRecDepth 100000
set_option maxHeartbeats 1000000
/-! B12: what is walked. -/
namespace Br
open PySem L2
mutual
theorem beq_eq : ∀ {a b : M.Val}, M.Val.beq a b = true → a = b
  | .non, b, e => by cases b <;> simp [M.Val.beq] at e ⊢
  | .bl _, b, e => by cases b <;> simp [M.Val.beq] at e ⊢; exact e
  | .int _, b, e => by cases b <;> simp [M.Val.beq] at e ⊢; exact e
  | .str _, b, e => by cases b <;> simp [M.Val.beq] at e ⊢; exact e
  | .ref _, b, e => by cases b <;> simp [M.Val.beq] at e ⊢; exact e
  | .glb _, b, e => by cases b <;> simp [M.Val.beq] at e ⊢; exact e
  | .tup _, b, e => by
    cases b <;> simp [M.Val.beq] at e ⊢
    exact beqs_eq e
theorem beqs_eq : ∀ {a b : List M.Val}, M.Val.beqs a b = true → a = b
  | [], b, e => by cases b <;> simp [M.Val.beqs] at e ⊢
  | x :: xs, b, e => by
    cases b with
    | nil => simp [M.Val.beqs] at e
    | cons y ys =>
      simp only [M.Val.beqs, Bool.and_eq_true] at e
      rw [beq_eq e.1, beqs_eq e.2]
end
/-- a walk of the hand layer over what a walk of M has -/
def ItOk (L : Lk) (m : Mp) (H : Hp) (src : M.Src) (J : It) : Prop := ∀ (i : Nat) (m' : Mp) (h' : M.Heap) (H' : Hp), Le m H m' H' → Sim L m' h' H' → M.stands h' src = true →
  (∀ v, src.items[i]? = some v → J.go i H' ∧ ∀ x H2, J.yld i H' x H2 → vrel L m' H2 v x ∧ Ext m' H' m' H2 ∧ Sim L m' h' H2) ∧ (src.items.length ≤ i → J.stop i H')
section
variable {L : Lk} {T : M.Tab} {X : Cx} {m : Mp} {h : M.Heap} {H : Hp} {call : Nat → List M.Val → M.Heap → M.R M.Val} {W : WX}
theorem stands_own {a : Nat} {vs items : List M.Val} (e : M.stands h ⟨some (a, vs), items⟩ = true) : h.get a = some (.lst vs) := by
  unfold M.stands at e
  simp only at e
  split at e
  · rename_i ws e2
    rw [← beqs_eq e]
    exact e2
  · cases e
/-- a tuple's items -/
theorem itOk_tup {A : Addr} {vs : List M.Val} {ys : List V} (st : SqT L.K H A ys) (r : vrels L m H vs ys) : ItOk L m H ⟨none, vs⟩ (Itt L.K A) := by
  intro i m' h' H' x S _
  have st' := SqT.le (L := L) x st
  have r' := vrels.le x r
  refine ⟨fun v ev => ?_, fun hl => ⟨ys, st', by rw [← r'.length]; exact hl⟩⟩
  obtain ⟨y, ey, ry⟩ := r'.get ev
  refine ⟨⟨ys, y, st', ey⟩, fun z H2 ⟨e2, hz⟩ => ?_⟩
  subst e2
  have := hz ys st'
  rw [ey] at this
  cases this
  exact ⟨ry, .refl, S⟩
/-- a list that stays -/
theorem itOk_scr {A : Addr} {vs : List M.Val} {ys : List V} (st : SqI L.K H A ys) (r : vrels L m H vs ys) : ItOk L m H ⟨none, vs⟩ (Itl L.K A) := by
  intro i m' h' H' x S _
  have st' := (SqI.le (L := L) x st).sql
  have r' := vrels.le x r
  refine ⟨fun v ev => ?_, fun hl => ⟨ys, st', by rw [← r'.length]; exact hl⟩⟩
  obtain ⟨y, ey, ry⟩ := r'.get ev
  refine ⟨⟨ys, y, st', ey⟩, fun z H2 ⟨e2, hz⟩ => ?_⟩
  subst e2
  have := hz ys st'
  rw [ey] at this
  cases this
  exact ⟨ry, .refl, S⟩
theorem own_at {a : Nat} {A : Addr} {vs items : List M.Val} {m' : Mp} {h' : M.Heap} {H' : Hp} (ea : m a = some A) (x : Le m H m' H') (S : Sim L m' h' H') (s : M.stands h' ⟨some (a, vs), items⟩ = true) : ∃ ys, H' A = some (.lst ys) ∧ vrels L m' H' vs ys := by
  have e := stands_own s
  exact S.lst (x.mono a A ea) (by unfold M.lstOf; simp only [e])
theorem itOk_lst {a : Nat} {A : Addr} {vs : List M.Val} (ea : m a = some A) : ItOk L m H ⟨some (a, vs), vs⟩ (Itl L.K A) := by
  intro i m' h' H' x S s
  obtain ⟨ys, z, r'⟩ := own_at ea x S s
  refine ⟨fun v ev => ?_, fun hl => ⟨ys, SqL.of z, by rw [← r'.length]; exact hl⟩⟩
  obtain ⟨y, ey, ry⟩ := r'.get ev
  refine ⟨⟨ys, y, SqL.of z, ey⟩, fun w H2 ⟨e2, hz⟩ => ?_⟩
  subst e2
  have := hz ys (SqL.of z)
  rw [ey] at this
  cases this
  exact ⟨ry, .refl, S⟩
theorem itOk_rev {a : Nat} {A : Addr} {vs : List M.Val} (ea : m a = some A) : ItOk L m H ⟨some (a, vs), vs.reverse⟩ (Itv L.K A vs.length) := by
  intro i m' h' H' x S s
  obtain ⟨ys, z, r'⟩ := own_at ea x S s
  refine ⟨fun v ev => ?_, fun hl => by rw [List.length_reverse] at hl; exact hl⟩
  have hi : i < vs.length := by
    have := (List.getElem?_eq_some_iff.mp ev).1
    rw [List.length_reverse] at this
    exact this
  rw [List.getElem?_reverse hi] at ev
  obtain ⟨y, ey, ry⟩ := r'.get ev
  refine ⟨⟨hi, ys, y, SqL.of z, ey⟩, fun w H2 ⟨e2, hz⟩ => ?_⟩
  subst e2
  have := hz ys (SqL.of z)
  rw [ey] at this
  cases this
  exact ⟨ry, .refl, S⟩
theorem enumL_get : ∀ {vs : List M.Val} {k : Int} {i : Nat} {v : M.Val}, (M.enumL k vs)[i]? = some v → ∃ w, vs[i]? = some w ∧ v = .tup [.int (k + i), w]
  | [], _, i, v, e => by simp [M.enumL] at e
  | w :: vs, k, 0, v, e => by
    simp [M.enumL] at e
    exact ⟨w, rfl, by rw [← e]; simp⟩
  | w :: vs, k, i + 1, v, e => by
    have e' : (M.enumL (k + 1) vs)[i]? = some v := by simpa [M.enumL] using e
    obtain ⟨u, e1, e2⟩ := enumL_get e'
    refine ⟨u, by simpa using e1, ?_⟩
    rw [e2]
    have : k + 1 + (i : Int) = k + ((i + 1 : Nat) : Int) := by omega
    rw [this]
theorem enumL_len : ∀ {vs : List M.Val} {k : Int}, (M.enumL k vs).length = vs.length
  | [], _ => rfl
  | _ :: vs, k => by
    show (M.enumL (k + 1) vs).length + 1 = vs.length + 1
    rw [enumL_len]
theorem itOk_enum {a : Nat} {A : Addr} {vs : List M.Val} (ea : m a = some A) : ItOk L m H ⟨some (a, vs), M.enumL 0 vs⟩ (Ite L.K A) := by
  intro i m' h' H' x S s
  obtain ⟨ys, z, r'⟩ := own_at ea x S s
  refine ⟨fun v ev => ?_, fun hl => ⟨ys, SqL.of z, by rw [← r'.length]; rw [enumL_len] at hl; exact hl⟩⟩
  obtain ⟨w, ew, rfl⟩ := enumL_get ev
  obtain ⟨y, ey, ry⟩ := r'.get ew
  refine ⟨⟨ys, y, SqL.of z, ey⟩, fun u H2 ⟨t, x2, e1, hn, e2, hz⟩ => ?_⟩
  have q := hz ys (SqL.of z)
  rw [ey] at q
  cases q
  subst e1 e2
  have x1 : Ext m' H' m' (upd H' t (.tup [.int (i : Nat), y])) := Ext.fresh hn
  refine ⟨⟨t, _, rfl, .inl upd_same, ⟨_, _, rfl, ?_, _, _, rfl, vrel.ext x1 ry, rfl⟩⟩, x1, Sim.fresh S hn⟩
  show V.int _ = V.int _
  rw [Int.zero_add]
theorem rangeL_get : ∀ {n : Nat} {lo c : Int} {i : Nat} {v : M.Val}, (M.rangeL lo c n)[i]? = some v → i < n ∧ v = .int (lo + i * c)
  | 0, _, _, i, v, e => by simp [M.rangeL] at e
  | n + 1, lo, c, 0, v, e => by
    simp [M.rangeL] at e
    exact ⟨Nat.zero_lt_succ _, by rw [← e]; simp⟩
  | n + 1, lo, c, i + 1, v, e => by
    have e' : (M.rangeL (lo + c) c n)[i]? = some v := by simpa [M.rangeL] using e
    obtain ⟨h1, h2⟩ := rangeL_get e'
    refine ⟨Nat.succ_lt_succ h1, ?_⟩
    rw [h2]
    have : lo + c + (i : Int) * c = lo + ((i + 1 : Nat) : Int) * c := by
      rw [Int.natCast_add, Int.add_mul]
      simp
      omega
    rw [this]
theorem rangeL_len : ∀ {n : Nat} {lo c : Int}, (M.rangeL lo c n).length = n
  | 0, _, _ => rfl
  | n + 1, lo, c => by
    show (M.rangeL (lo + c) c n).length + 1 = n + 1
    rw [rangeL_len]
theorem itOk_rng {lo : Int} {n : Nat} : ItOk L m H ⟨none, M.rangeL lo 1 n⟩ (Itr lo n) := by
  intro i m' h' H' x S _
  refine ⟨fun v ev => ?_, fun hl => by rw [rangeL_len] at hl; exact hl⟩
  obtain ⟨hi, rfl⟩ := rangeL_get ev
  refine ⟨hi, fun w H2 ⟨e2, e3⟩ => ?_⟩
  subst e2
  refine ⟨?_, .refl, S⟩
  rw [e3, Int.mul_one]
  rfl
theorem itOk_rngC {lo c : Int} {n : Nat} : ItOk L m H ⟨none, M.rangeL lo c n⟩ (Itc lo c n) := by
  intro i m' h' H' x S _
  refine ⟨fun v ev => ?_, fun hl => by rw [rangeL_len] at hl; exact hl⟩
  obtain ⟨hi, rfl⟩ := rangeL_get ev
  refine ⟨hi, fun w H2 ⟨e2, e3⟩ => ?_⟩
  subst e2
  exact ⟨e3, .refl, S⟩
theorem itOk_str {z : M.Sg} : ItOk L m H ⟨none, z.map fun c => .str [c]⟩ (Its (toS z)) := by
  intro i m' h' H' x S _
  have hz : (toS z).cps.size = z.length := by unfold toS; simp
  refine ⟨fun v ev => ?_, fun hl => by
    rw [List.length_map] at hl
    show (toS z).cps.size ≤ i
    rw [hz]; exact hl⟩
  rw [List.getElem?_map] at ev
  obtain ⟨c, ec, rfl⟩ := Option.map_eq_some_iff.mp ev
  have hi := (List.getElem?_eq_some_iff.mp ec).1
  refine ⟨by show i < (toS z).cps.size; rw [hz]; exact hi, fun w H2 ⟨e2, c', e3, e4⟩ => ?_⟩
  subst e2
  have e5 : (toS z).cps[i]? = some c := by unfold toS; simpa using ec
  rw [e5] at e3
  cases e3
  exact ⟨e4, .refl, S⟩
/-! ### the readings -/
def TIv (L : Lk) (T : M.Tab) (call : Nat → List M.Val → M.Heap → M.R M.Val) (W : WX) (c : M.It) : TI := fun τ H R => ∃ m h σ, srel (L := L) m H σ τ ∧ Sim L m h H ∧ Post (L := L) T (fun m H src J => ItOk L m H src J) (fun cls d H' => W cls d τ H') (M.evIt T call c σ h) m H R
/-- the first part of a walk: its value is known ahead -/
theorem TEv.known {c : M.E} {τ : St} {H : Hp} {m : Mp} {h h1 : M.Heap} {σ : M.Slots} {v : M.Val} {R : V → Hp → Prop} (hs : srel (L := L) m H σ τ) (S : Sim L m h H) (e : M.evE T call c σ h = .ok v h1)
    (k : ∀ x H1 m1, Ext m H m1 H1 → Sim L m1 h1 H1 → srel (L := L) m1 H1 σ τ → vrel L m1 H1 v x → R x H1) : TEv L T call W c τ H R :=
  ⟨m, h, σ, hs, S, by rw [e]; exact fun m1 H1 x e1 s1 r => k x H1 m1 e1 s1 (hs.ext e1) r⟩
theorem TEv.exc {c : M.E} {τ : St} {H : Hp} {m : Mp} {h h1 : M.Heap} {σ : M.Slots} {k : Nat} {vs : List M.Val} {α β : Type} {rel : Mp → Hp → α → β → Prop} {Q : β → Hp → Prop} {R : V → Hp → Prop} (hs : srel (L := L) m H σ τ) (S : Sim L m h H) (e : M.evE T call c σ h = .exc k vs h1)
    (p : Post (L := L) T rel (fun cls d H' => W cls d τ H') (.exc k vs h1) m H Q) : TEv L T call W c τ H R :=
  ⟨m, h, σ, hs, S, by rw [e]; exact p⟩
theorem sni_over {l tg : Expr} {c : M.E} (hK : X.K = L.K) (hl : PE X l (TEv L T call W c)) : PI X tg l (TIv L T call W (.over c)) := by
  refine ⟨fun pins s τ H R I ⟨m, h, σ, hs, S, p⟩ => ?_⟩
  rw [M.evIt] at p
  cases e : M.evE T call c σ h with
  | bad => rw [e] at p; exact p.elim
  | exc k vs h1 =>
    rw [e] at p
    exact (pi_str hl).run pins s τ H R I (TEv.exc hs S e p)
  | ok v h1 =>
    rw [e] at p
    cases v with
    | tup vs =>
      refine (pi_tup hl).run pins s τ H R I (TEv.known hs S e fun x H1 m1 e1 S1 hs1 r => ?_)
      obtain ⟨A, ys, rfl, st, r1⟩ := r
      rw [hK]
      exact ⟨A, rfl, ⟨ys, TupK.of st⟩, p m1 H1 _ e1 S1 (itOk_tup (TupK.of st) r1)⟩
    | str z =>
      refine (pi_str hl).run pins s τ H R I (TEv.known hs S e fun x H1 m1 e1 S1 hs1 r => ⟨toS z, r, p m1 H1 _ e1 S1 itOk_str⟩)
    | ref a =>
      have p : Post (L := L) T (fun m H src J => ItOk L m H src J) (fun cls d H' => W cls d τ H') (match h1.get a with
        | some (.lst vs) => .ok ⟨some (a, vs), vs⟩ h1
        | _ => .bad) m H R := p
      split at p
      · rename_i vs e2
        refine (pi_list hl).run pins s τ H R I (TEv.known hs S e fun x H1 m1 e1 S1 hs1 r => ?_)
        obtain ⟨A, ea, rfl⟩ := r
        obtain ⟨ys, z, r1⟩ := S1.lst (xs := vs) ea (by unfold M.lstOf; simp only [e2])
        rw [hK]
        exact ⟨A, rfl, ⟨ys, SqL.of z⟩, p m1 H1 _ e1 S1 (itOk_lst ea)⟩
      · exact p.elim
    | glb n =>
      have p : Post (L := L) T (fun m H src J => ItOk L m H src J) (fun cls d H' => W cls d τ H') (if n = 6 then .ok ⟨none, h1.scr⟩ h1 else .bad) m H R := p
      split at p
      · rename_i q
        subst q
        refine (pi_list hl).run pins s τ H R I (TEv.known hs S e fun x H1 m1 e1 S1 hs1 r => ?_)
        obtain ⟨rfl, _⟩ := r
        obtain ⟨ys, z, r1⟩ := S1.scr
        rw [hK]
        exact ⟨_, rfl, ⟨ys, z.sql⟩, p m1 H1 _ e1 S1 (itOk_scr z r1)⟩
      · exact p.elim
    | _ => exact p.elim
section
variable {α β : Type} {rel : Mp → Hp → α → β → Prop} {τ : St} {σ : M.Slots} {Q : β → Hp → Prop} {R : List V → Hp → Prop}
theorem TAv.of1 {c : M.E} {f : M.Val → M.Heap → M.R α} (hs : srel (L := L) m H σ τ) (S : Sim L m h H) (p : Post (L := L) T rel (fun cls d H' => W cls d τ H') ((M.evE T call c σ h).bind f) m H Q)
    (k : ∀ x H1 m1 h1 v, Sim L m1 h1 H1 → vrel L m1 H1 v x → Post (L := L) T rel (fun cls d H' => W cls d τ H') (f v h1) m1 H1 Q → R [x] H1) : TAv L T call W (.cons c .nil) τ H R := by
  refine ⟨m, h, σ, hs, S, ?_⟩
  rw [M.evEs]
  cases e : M.evE T call c σ h with
  | bad => rw [e] at p; exact p.elim
  | exc q vs h1 => rw [e] at p; exact p
  | ok v h1 =>
    rw [e] at p
    show Post (L := L) T _ _ ((M.evEs T call .nil σ h1).bind fun vs h2 => .ok (v :: vs) h2) m H R
    rw [M.evEs]
    intro m' H' xs e1 S1 r
    obtain ⟨x, rfl, rx⟩ := vrels1 r
    exact k x H' m' h1 v S1 rx (Post.ext e1 p)
theorem TAv.of2 {c d : M.E} {f : M.Val → M.Val → M.Heap → M.R α} (hs : srel (L := L) m H σ τ) (S : Sim L m h H) (p : Post (L := L) T rel (fun cls d H' => W cls d τ H') ((M.evE T call c σ h).bind fun x h1 => (M.evE T call d σ h1).bind fun y h2 => f x y h2) m H Q)
    (k : ∀ x y H1 m1 h1 v w, Sim L m1 h1 H1 → vrel L m1 H1 v x → vrel L m1 H1 w y → Post (L := L) T rel (fun cls d H' => W cls d τ H') (f v w h1) m1 H1 Q → R [x, y] H1) : TAv L T call W (.cons c (.cons d .nil)) τ H R := by
  refine ⟨m, h, σ, hs, S, ?_⟩
  rw [M.evEs]
  cases e : M.evE T call c σ h with
  | bad => rw [e] at p; exact p.elim
  | exc q vs h1 => rw [e] at p; exact p
  | ok v h1 =>
    rw [e] at p
    have p : Post (L := L) T rel (fun cls d H' => W cls d τ H') ((M.evE T call d σ h1).bind fun y h2 => f v y h2) m H Q := p
    show Post (L := L) T _ _ ((M.evEs T call (.cons d .nil) σ h1).bind fun vs h2 => .ok (v :: vs) h2) m H R
    rw [M.evEs]
    cases e2 : M.evE T call d σ h1 with
    | bad => rw [e2] at p; exact p.elim
    | exc q vs h1 => rw [e2] at p; exact p
    | ok w h2 =>
      rw [e2] at p
      show Post (L := L) T _ _ (((M.evEs T call .nil σ h2).bind fun vs h2 => .ok (w :: vs) h2).bind fun vs h2 => .ok (v :: vs) h2) m H R
      rw [M.evEs]
      intro m' H' xs e1 S1 r
      obtain ⟨x, y, rfl, rx, ry⟩ := vrels2 r
      exact k x y H' m' h2 v w S1 rx ry (Post.ext e1 p)
theorem TAv.of3 {c d e : M.E} {f : M.Val → M.Val → M.Val → M.Heap → M.R α} (hs : srel (L := L) m H σ τ) (S : Sim L m h H) (p : Post (L := L) T rel (fun cls d H' => W cls d τ H') ((M.evE T call c σ h).bind fun x h1 => (M.evE T call d σ h1).bind fun y h2 => (M.evE T call e σ h2).bind fun z h3 => f x y z h3) m H Q)
    (k : ∀ x y z H1 m1 h1 v w u, Sim L m1 h1 H1 → vrel L m1 H1 v x → vrel L m1 H1 w y → vrel L m1 H1 u z → Post (L := L) T rel (fun cls d H' => W cls d τ H') (f v w u h1) m1 H1 Q → R [x, y, z] H1) : TAv L T call W (.cons c (.cons d (.cons e .nil))) τ H R := by
  refine ⟨m, h, σ, hs, S, ?_⟩
  rw [M.evEs]
  cases e1 : M.evE T call c σ h with
  | bad => rw [e1] at p; exact p.elim
  | exc q vs h1 => rw [e1] at p; exact p
  | ok v h1 =>
    rw [e1] at p
    have p : Post (L := L) T rel (fun cls d H' => W cls d τ H') ((M.evE T call d σ h1).bind fun y h2 => (M.evE T call e σ h2).bind fun z h3 => f v y z h3) m H Q := p
    show Post (L := L) T _ _ ((M.evEs T call (.cons d (.cons e .nil)) σ h1).bind fun vs h2 => .ok (v :: vs) h2) m H R
    rw [M.evEs]
    cases e2 : M.evE T call d σ h1 with
    | bad => rw [e2] at p; exact p.elim
    | exc q vs h1 => rw [e2] at p; exact p
    | ok w h2 =>
      rw [e2] at p
      have p : Post (L := L) T rel (fun cls d H' => W cls d τ H') ((M.evE T call e σ h2).bind fun z h3 => f v w z h3) m H Q := p
      show Post (L := L) T _ _ (((M.evEs T call (.cons e .nil) σ h2).bind fun vs h2 => .ok (w :: vs) h2).bind fun vs h2 => .ok (v :: vs) h2) m H R
      rw [M.evEs]
      cases e3 : M.evE T call e σ h2 with
      | bad => rw [e3] at p; exact p.elim
      | exc q vs h1 => rw [e3] at p; exact p
      | ok u h3 =>
        rw [e3] at p
        show Post (L := L) T _ _ ((((M.evEs T call .nil σ h3).bind fun vs h2 => .ok (u :: vs) h2).bind fun vs h2 => .ok (w :: vs) h2).bind fun vs h2 => .ok (v :: vs) h2) m H R
        rw [M.evEs]
        intro m' H' xs q1 S1 r
        obtain ⟨x, t, rfl, rx, r'⟩ := r
        obtain ⟨y, z, rfl, ry, rz⟩ := vrels2 r'
        exact k x y z H' m' h3 v w u S1 rx ry rz (Post.ext q1 p)
end
theorem in62_and {i j : Int} (h : (M.in62 i && M.in62 j) = true) : (-(2 ^ 62) ≤ i ∧ i < 2 ^ 62) ∧ -(2 ^ 62) ≤ j ∧ j < 2 ^ 62 := by
  rw [Bool.and_eq_true] at h
  exact ⟨in62_ok h.1, in62_ok h.2⟩
theorem sni_range1 {a tg : Expr} {c : M.E} {p pos : Pos} (hg : Gl X "range") (hm : X.mg "range" = none) (pa : plainE a = true) (ha : PA X [a] (TAv L T call W (.cons c .nil))) : PI X tg (.Call (.Name "range" p) [a] [] pos) (TIv L T call W (.range1 c)) :=
  ⟨fun pins s τ H R I ⟨m, h, σ, hs, S, p⟩ => (pi_range1 hg hm ha (stars (es := [a]) (by rw [List.all_cons, pa]; rfl))).run pins s τ H R I (by
    rw [M.evIt] at p
    refine TAv.of1 hs S p fun x H1 m1 h1 v S1 r p1 => ?_
    split at p1
    · rename_i n
      split at p1
      · rename_i q
        exact ⟨n, congrArg (fun z => [z]) (show x = .int n from r), (in62_ok q).1, (in62_ok q).2, p1 m1 H1 _ .refl S1 itOk_rng⟩
      · exact p1.elim
    · exact p1.elim)⟩
theorem sni_range2 {a b tg : Expr} {c d : M.E} {p pos : Pos} (hg : Gl X "range") (hm : X.mg "range" = none) (pa : plainE a = true) (pb : plainE b = true) (ha : PA X [a, b] (TAv L T call W (.cons c (.cons d .nil)))) : PI X tg (.Call (.Name "range" p) [a, b] [] pos) (TIv L T call W (.range2 c d)) :=
  ⟨fun pins s τ H R I ⟨m, h, σ, hs, S, p⟩ => (pi_range2 hg hm ha (stars (es := [a, b]) (by rw [List.all_cons, List.all_cons, pa, pb]; rfl)) (stars (es := [b]) (by rw [List.all_cons, pb]; rfl))).run pins s τ H R I (by
    rw [M.evIt] at p
    refine TAv.of2 hs S p fun x y H1 m1 h1 v w S1 r r2 p1 => ?_
    split at p1
    · rename_i i j
      split at p1
      · rename_i q
        have q := in62_and q
        cases (show x = .int i from r)
        cases (show y = .int j from r2)
        exact ⟨i, j, rfl, ⟨q.1.1, q.1.2, q.2.1, q.2.2⟩, p1 m1 H1 _ .refl S1 itOk_rng⟩
      · exact p1.elim
    · exact p1.elim)⟩
theorem rgC {i j c : Int} (hi : -(2 ^ 62) ≤ i ∧ i < 2 ^ 62) (hj : -(2 ^ 62) ≤ j ∧ j < 2 ^ 62) (h0 : 0 < c) (h1 : c < 1073741824) : RgC i j c (M.rangeN i j c) := by
  refine ⟨by omega, by omega, ?_, ?_⟩
  · have h2 : 0 ≤ (j - i - 1) / c ∨ j ≤ i := by
      by_cases q : j ≤ i
      · exact .inr q
      · exact .inl (Int.ediv_nonneg (by omega) (by omega))
    have h3 : i < j → (j - i - 1) / c ≤ j - i - 1 := fun q => Int.ediv_le_self _ (by omega)
    have h4 : i < j → (j - i - 1) / c * c ≤ j - i - 1 := fun q => Int.ediv_mul_le _ (by omega)
    unfold Builtin.Range.small
    unfold Builtin.Range.rangeSize
    rw [if_pos h0]
    simp only [Builtin.Range.rangeFitsLong, Bool.and_eq_true, Bool.or_eq_true, decide_eq_true_eq, beq_iff_eq, if_pos h0]
    generalize (j - i - 1) / c = z at h2 h3 h4 ⊢
    clear h4
    by_cases q : i < j
    · rw [if_pos q]
      have := h3 q
      omega
    · rw [if_neg q]
      omega
  · unfold Builtin.Range.rangeSize M.rangeN
    rw [if_pos h0, if_pos h0]
    by_cases q : i < j
    · rw [if_pos q, if_pos q]
      have e : (j - i + c - 1) / c = (j - i - 1) / c + 1 := by
        have : j - i + c - 1 = (j - i - 1) + 1 * c := by omega
        rw [this, Int.add_mul_ediv_right _ _ (by omega)]
      rw [e]
      have := Int.ediv_nonneg (a := j - i - 1) (b := c) (by omega) (by omega)
      omega
    · rw [if_neg q, if_neg q]
      rfl
theorem sni_range3 {a b e tg : Expr} {c d f : M.E} {p pos : Pos} (hg : Gl X "range") (hm : X.mg "range" = none) (pa : plainE a = true) (pb : plainE b = true) (pe : plainE e = true) (ha : PA X [a, b, e] (TAv L T call W (.cons c (.cons d (.cons f .nil))))) : PI X tg (.Call (.Name "range" p) [a, b, e] [] pos) (TIv L T call W (.range3 c d f)) :=
  ⟨fun pins s τ H R I ⟨m, h, σ, hs, S, p⟩ => (pi_range3 hg hm ha (plain_star pa) (stars_any (es := [b, e]) (by rw [List.all_cons, List.all_cons, pb, pe]; rfl))).run pins s τ H R I (by
    rw [M.evIt] at p
    refine TAv.of3 hs S p fun x y z H1 m1 h1 v w u S1 r r2 r3 p1 => ?_
    split at p1
    · rename_i i j k
      split at p1
      · rename_i q
        have q := Bool.and_eq_true_iff.mp q
        have q2 := Bool.and_eq_true_iff.mp q.2
        have q1 := in62_and q.1
        cases (show x = .int i from r)
        cases (show y = .int j from r2)
        cases (show z = .int k from r3)
        exact ⟨i, j, k, _, rfl, rgC q1.1 q1.2 (of_decide_eq_true q2.1) (of_decide_eq_true q2.2), p1 m1 H1 _ .refl S1 itOk_rngC⟩
      · exact p1.elim
    · exact p1.elim)⟩
theorem sni_rev {a tg : Expr} {c : M.E} {p pos : Pos} (hK : X.K = L.K) (hg : Gl X "reversed") (hm : X.mg "reversed" = none) (pa : plainE a = true) (ha : PA X [a] (TAv L T call W (.cons c .nil))) : PI X tg (.Call (.Name "reversed" p) [a] [] pos) (TIv L T call W (.rev c)) :=
  ⟨fun pins s τ H R I ⟨m, h, σ, hs, S, p⟩ => (pi_reversed hg hm ha (stars (es := [a]) (by rw [List.all_cons, pa]; rfl))).run pins s τ H R I (by
    rw [M.evIt] at p
    refine TAv.of1 hs S p fun x H1 m1 h1 v S1 r p1 => ?_
    split at p1
    · rename_i a
      split at p1
      · rename_i vs e
        obtain ⟨A, ea, rfl⟩ := r
        obtain ⟨ys, z, r1⟩ := S1.lst ea e
        refine ⟨A, ys, rfl, SqL.of z, ?_⟩
        rw [← r1.length, hK]
        exact p1 m1 H1 _ .refl S1 (itOk_rev ea)
      · exact p1.elim
    · exact p1.elim)⟩
theorem sni_enum {a : Expr} {c : M.E} {p pos tpos : Pos} {elts : List Expr} {kk : Nat} (hK : X.K = L.K) (hg : Gl X "enumerate") (hm : X.mg "enumerate" = none) (pa : plainE a = true) (ha : PA X [a] (TAv L T call W (.cons c .nil))) :
    PI X (.Tuple elts kk tpos) (.Call (.Name "enumerate" p) [a] [] pos) (TIv L T call W (.enum c)) :=
  ⟨fun pins s τ H R I ⟨m, h, σ, hs, S, p⟩ => (pi_enum hg hm ha (stars (es := [a]) (by rw [List.all_cons, pa]; rfl))).run pins s τ H R I (by
    rw [M.evIt] at p
    refine TAv.of1 hs S p fun x H1 m1 h1 v S1 r p1 => ?_
    split at p1
    · rename_i a
      split at p1
      · rename_i vs e
        obtain ⟨A, ea, rfl⟩ := r
        obtain ⟨ys, z, r1⟩ := S1.lst ea e
        refine ⟨A, ys, rfl, SqL.of z, ?_⟩
        rw [hK]
        exact p1 m1 H1 _ .refl S1 (itOk_enum ea)
      · exact p1.elim
    · exact p1.elim)⟩
end
end Br
end

section
set_option Elab.async false
set_option linter.all false
set_option maxRecDepth 100000
set_option maxHeartbeats 1000000
/-! B13: targets; comprehensions. -/
namespace Br
open PySem L2
section
variable {L : Lk} {T : M.Tab} {X : Cx} {m : Mp} {h : M.Heap} {H : Hp} {W : WX} {n : Nat}
/-! ### more names for the same things -/
mutual
theorem vrel.up {m m' : Mp} {H : Hp} (E : ∀ a A, m a = some A → m' a = some A) : ∀ {x : M.Val} {v : V}, vrel L m H x v → vrel L m' H x v
  | .non, _, h => h
  | .bl _, _, h => h
  | .int _, _, h => h
  | .str _, _, h => h
  | .ref a, _, h => by
    obtain ⟨A, e, q⟩ := h
    exact ⟨A, E a A e, q⟩
  | .tup vs, _, h => by
    obtain ⟨A, ys, e, s, r⟩ := h
    exact ⟨A, ys, e, s, vrels.up E r⟩
  | .glb _, _, h => h
theorem vrels.up {m m' : Mp} {H : Hp} (E : ∀ a A, m a = some A → m' a = some A) : ∀ {xs : List M.Val} {ys : List V}, vrels L m H xs ys → vrels L m' H xs ys
  | [], _, h => h
  | x :: xs, _, h => by
    obtain ⟨y, r, e, h1, h2⟩ := h
    exact ⟨y, r, e, vrel.up E h1, vrels.up E h2⟩
end
theorem kvrel.up {κ κ' : Type} {f : κ → κ'} {m m' : Mp} {H : Hp} (x : ∀ a A, m a = some A → m' a = some A) : ∀ {kvs : List (κ × M.Val)} {ys : List (κ' × V)}, kvrel (L := L) f m H kvs ys → kvrel (L := L) f m' H kvs ys
  | [], _, h => h
  | (k, z) :: r, _, h => by
    obtain ⟨y, t, e, h1, h2⟩ := h
    exact ⟨y, t, e, vrel.up x h1, kvrel.up x h2⟩
theorem orel.up {m m' : Mp} {H : Hp} (x : ∀ a A, m a = some A → m' a = some A) {o : M.Obj} {A : Addr} (r : orel (L := L) m H o A) : orel (L := L) m' H o A := by
  cases o with
  | lst _ => obtain ⟨ys, z, q⟩ := r; exact ⟨ys, z, vrels.up x q⟩
  | dct _ => obtain ⟨ys, z, q⟩ := r; exact ⟨ys, z, kvrel.up x q⟩
  | dcT _ => obtain ⟨ys, z, q⟩ := r; exact ⟨ys, z, kvrel.up x q⟩
  | ins _ _ => obtain ⟨dx, ys, z, q, c⟩ := r; exact ⟨dx, ys, z, kvrel.up x q, c⟩
/-- a thing of the hand layer's heap becomes an object of M's -/
theorem bind_up (S : Sim L m h H) {D : Addr} : ∀ a A, m a = some A → bindAt m h.size D a = some A := fun a A e => by
  unfold bindAt
  rw [if_neg (Nat.ne_of_lt (S.old e).2)]
  exact e
theorem Sim.adopt (S : Sim L m h H) {D : Addr} {o : M.Obj} (nD : ∀ a, m a ≠ some D) (r : orel (L := L) m H o D) : Sim L (bindAt m h.size D) (h.push o) H where
  obj := fun a A e => by
    by_cases z : a = h.size
    · subst z
      unfold bindAt at e
      rw [if_pos rfl] at e
      cases e
      exact ⟨o, by rw [M.Heap.get_push, if_pos rfl], orel.up (bind_up S) r⟩
    · unfold bindAt at e
      rw [if_neg z] at e
      obtain ⟨o', q, r'⟩ := S.obj a A e
      exact ⟨o', by rw [M.Heap.get_push, if_neg z]; exact q, orel.up (bind_up S) r'⟩
  inj := fun a b A e e' => by
    unfold bindAt at e e'
    split at e <;> split at e'
    · rename_i h1 h2; rw [h1, h2]
    · cases e; exact absurd e' (nD b)
    · cases e'; exact absurd e (nD a)
    · exact S.inj a b A e e'
  scr := let ⟨ys, q, r⟩ := S.scr; ⟨ys, q, vrels.up (bind_up S) r⟩
theorem Ext.adopt {m0 : Mp} {H0 : Hp} (x : Ext m0 H0 m H) (S : Sim L m h H) {D : Addr} (n0 : H0 D = none) : Ext m0 H0 (bindAt m h.size D) H where
  mono := fun a A e => bind_up S a A (x.mono a A e)
  new := fun a A e => by
    unfold bindAt at e
    split at e
    · cases e; exact .inr n0
    · exact x.new a A e
  keep := x.keep
  imm := x.imm
  there := x.there
/-! ### targets -/
def asgS : List Nat → List V → St → St
  | i :: is, y :: ys, τ => asgS is ys (τ.set i (some y))
  | _, _, τ => τ
def TGv (K : PySem.W.Frag) (tg : M.Tg) : TG := fun v τ H Q => match tg with
  | .one i => Q (τ.set i (some v)) H
  | .many is => ∃ A ys, v = .ref A ∧ SqT K H A ys ∧ ys.length = is.length ∧ Q (asgS is ys τ) H
def slotsT : M.Tg → List Nat
  | .one i => [i]
  | .many is => is
def asgT (K : PySem.W.Frag) (tg : M.Tg) (τ : St) (v : V) (H : Hp) (τ1 : St) : Prop := match tg with
  | .one i => τ1 = τ.set i (some v)
  | .many is => ∃ A ys, v = .ref A ∧ SqT K H A ys ∧ ys.length = is.length ∧ τ1 = asgS is ys τ
theorem setSlots_rel : ∀ {is : List Nat} {vs : List M.Val} {ys : List V} {σ σ1 : M.Slots} {τ : St}, M.setSlots is vs σ = some σ1 → vrels L m H vs ys → srel (L := L) m H σ τ → ys.length = is.length ∧ srel (L := L) m H σ1 (asgS is ys τ)
  | [], [], ys, σ, σ1, τ, e, r, s => by
    cases e
    cases (show ys = [] from r)
    exact ⟨rfl, s⟩
  | i :: is, v :: vs, ys, σ, σ1, τ, e, r, s => by
    obtain ⟨y, t, rfl, r1, r2⟩ := r
    obtain ⟨h1, h2⟩ := setSlots_rel (is := is) (vs := vs) e r2 (srel.set r1 i s)
    exact ⟨by rw [List.length_cons, List.length_cons, h1], h2⟩
  | [], _ :: _, _, _, _, _, e, _, _ => by cases e
  | _ :: _, [], _, _, _, _, e, _, _ => by cases e
theorem TGv.of {tg : M.Tg} {x : M.Val} {v : V} {σ σ1 : M.Slots} {τ : St} {Q : St → Hp → Prop} (s : srel (L := L) m H σ τ) (r : vrel L m H x v) (e : M.assignT tg x σ = some σ1) (k : ∀ τ1, srel (L := L) m H σ1 τ1 → asgT L.K tg τ v H τ1 → Q τ1 H) : TGv L.K tg v τ H Q := by
  cases tg with
  | one i =>
    cases e
    exact k _ (srel.set r i s) rfl
  | many is =>
    cases x with
    | tup vs =>
      obtain ⟨A, ys, rfl, st, r1⟩ := r
      obtain ⟨h1, h2⟩ := setSlots_rel e r1 s
      exact ⟨A, ys, rfl, TupK.of st, h1, k _ h2 ⟨A, ys, rfl, TupK.of st, h1, rfl⟩⟩
    | _ => cases e
theorem wipe_get (τ : St) : ∀ (vs : List Nat) (j : Nat), (wipe τ vs)[j]? = if j ∈ vs then (if j < τ.length then some none else none) else τ[j]?
  | [], j => by simp [wipe]
  | v :: vs, j => by
    unfold wipe
    rw [List.getElem?_set, wipe_get τ vs j, wipe_length]
    by_cases e : v = j
    · subst e; simp
    · rw [if_neg e]
      have : (j ∈ v :: vs) ↔ j ∈ vs := by
        rw [List.mem_cons]
        exact ⟨fun q => q.resolve_left fun z => e z.symm, .inr⟩
      simp only [this]
theorem asgS_len : ∀ (is : List Nat) (ys : List V) (τ : St), (asgS is ys τ).length = τ.length
  | [], _, _ => rfl
  | _ :: _, [], _ => rfl
  | i :: is, y :: ys, τ => by
    show (asgS is ys (τ.set i (some y))).length = _
    rw [asgS_len, List.length_set]
theorem asgS_out {j : Nat} : ∀ {is : List Nat} {ys : List V} {τ : St}, j ∉ is → (asgS is ys τ)[j]? = τ[j]?
  | [], _, _, _ => rfl
  | _ :: _, [], _, _ => rfl
  | i :: is, y :: ys, τ, h => by
    rw [List.mem_cons, not_or] at h
    show (asgS is ys (τ.set i (some y)))[j]? = _
    rw [asgS_out h.2, List.getElem?_set_ne fun e => h.1 e.symm]
theorem asgT_wipe {K : PySem.W.Frag} {tg : M.Tg} {τ τ1 : St} {v : V} (h : asgT K tg τ v H τ1) {vs : List Nat} (hv : ∀ i ∈ slotsT tg, i ∈ vs) : wipe τ1 vs = wipe τ vs := by
  refine List.ext_getElem? fun j => ?_
  rw [wipe_get, wipe_get]
  by_cases hj : j ∈ vs
  · rw [if_pos hj, if_pos hj]
    have : τ1.length = τ.length := by
      cases tg with
      | one i => rw [show τ1 = τ.set i (some v) from h, List.length_set]
      | many is =>
        obtain ⟨A, ys, _, _, _, e⟩ := h
        rw [e, asgS_len]
    rw [this]
  · rw [if_neg hj, if_neg hj]
    have hj' : j ∉ slotsT tg := fun q => hj (hv j q)
    cases tg with
    | one i =>
      rw [show τ1 = τ.set i (some v) from h, List.getElem?_set_ne]
      intro e
      exact hj' (by rw [← e]; exact List.mem_singleton_self _)
    | many is =>
      obtain ⟨A, ys, _, _, _, e⟩ := h
      rw [e]
      exact asgS_out hj'
theorem wipeT_rel {tg : M.Tg} {σ : M.Slots} {τ : St} (s : srel (L := L) m H σ τ) : srel (L := L) m H (M.wipeT tg σ) (wipe τ (slotsT tg)) := by
  cases tg with
  | one i => exact srel.none i s
  | many is =>
    show srel (L := L) m H (is.foldr (fun i σ => σ.set i none) σ) (wipe τ is)
    induction is with
    | nil => exact s
    | cons i is ih => exact srel.none i ih
/-- a name that is stored into -/
def NmOk (X : Cx) (i : Nat) (e : Expr) : Prop := ∃ x pos, e = .Name x pos ∧ X.N[i]? = some x ∧ L2.Loc X.env.scope x ∧ (X.fn x = true ∨ X.env.scope.names.lookup x = some .local)
theorem pgImp {X : Cx} {e : Expr} {t t' : TG} (h : PG X e t) (i : ∀ v σ H Q, t' v σ H Q → t v σ H Q) : PG X e t' := ⟨fun pins s σ H v u Q I r q => h.run pins s σ H v u Q I r (i v σ H Q q)⟩
theorem pgsImp {X : Cx} {e : List Expr} {t t' : TGs} (h : PGs X e t) (i : ∀ v σ H Q, t' v σ H Q → t v σ H Q) : PGs X e t' := ⟨fun pins s σ H v u Q I r q => h.run pins s σ H v u Q I r (i v σ H Q q)⟩
inductive NmsOk (X : Cx) : List Nat → List Expr → Prop
  | nil : NmsOk X [] []
  | cons {i : Nat} {e : Expr} {is : List Nat} {es : List Expr} (h : NmOk X i e) (t : NmsOk X is es) : NmsOk X (i :: is) (e :: es)
theorem pgs_names (hn : X.N.Nodup) {is : List Nat} {es : List Expr} (h : NmsOk X is es) : PGs X es (fun ys τ H Q => ys.length = is.length ∧ Q (asgS is ys τ) H) ∧ (assignEach es X.env).length = is.length ∧ (assignEach es X.env).findIdx? (·.1) = none := by
  induction h with
  | nil =>
    refine ⟨pgsImp pgs_nil fun ys τ H Q ⟨h1, q⟩ => ?_, rfl, rfl⟩
    obtain rfl := List.eq_nil_of_length_eq_zero h1
    exact ⟨rfl, q⟩
  | cons h t ih =>
    obtain ⟨x, pos, rfl, hi, hl, hf⟩ := h
    obtain ⟨h1, h2, h3⟩ := ih
    refine ⟨pgsImp (pgs_cons (pg_name hn hi hl hf) h1 rfl) fun ys τ H Q ⟨q1, q⟩ => ?_, ?_, ?_⟩
    · cases ys with
      | nil => cases q1
      | cons y ys => exact ⟨y, ys, rfl, by simpa using q1, q⟩
    · show (assignEach _ X.env).length + 1 = _
      rw [h2]
      rfl
    · show (List.findIdx? (·.1) ((false, assign _ X.env) :: assignEach _ X.env)) = none
      rw [List.findIdx?_cons]
      simp [h3]
theorem pg_one {i : Nat} {e : Expr} (hn : X.N.Nodup) (h : NmOk X i e) : PG X e (TGv L.K (.one i)) := by
  obtain ⟨x, pos, rfl, hi, hl, hf⟩ := h
  exact pg_name hn hi hl hf
theorem pg_many {is : List Nat} {es : List Expr} {k : Nat} {pos : Pos} (hK : X.K = L.K) (hc : X.calm = true) (hn : X.N.Nodup) (h : NmsOk X is es) : PG X (.Tuple es k pos) (TGv L.K (.many is)) := by
  obtain ⟨h1, h2, h3⟩ := pgs_names hn h
  refine pgImp (pg_tup hc h1 h2 h3) fun v τ H Q ⟨A, ys, e, st, hl, q⟩ => ?_
  rw [hK]
  exact ⟨A, ys, e, st, hl, hl, q⟩
end
end Br
end

section
set_option Elab.async false
set_option linter.all false
set_option maxRecDepth 100000
set_option maxHeartbeats 1000000
/-! B14: comprehensions. -/
namespace Br
open PySem L2
section
variable {L : Lk} {T : M.Tab} {X : Cx} {W : WX}
abbrev Wf : WX := fun _ _ _ _ => False
def TTo (L : Lk) (T : M.Tab) (call : Nat → List M.Val → M.Heap → M.R M.Val) (W : WX) (c : M.Option_E) : TT := fun τ H Q => ∃ m h σ, srel (L := L) m H σ τ ∧ Sim L m h H ∧ Post (L := L) T brel (fun cls d H' => W cls d τ H') (M.evO T call c σ h) m H Q
variable {call : Nat → List M.Val → M.Heap → M.R M.Val}
theorem ptsImp {X : Cx} {e : List Expr} {t t' : TT} (h : PTs X e t) (i : ∀ σ H Q, t' σ H Q → t σ H Q) : PTs X e t' := ⟨fun pins s σ H Q I q => h.run pins s σ H Q I (i σ H Q q)⟩
theorem snts_no : PTs X [] (TTo L T call W .no) := ptsImp pts_nil fun τ H Q ⟨m, h, σ, hs, S, p⟩ => by
  rw [M.evO] at p
  exact p m H true .refl S rfl
theorem snts_yes {e : Expr} {c : M.E} (h : PT X e (TTv L T call W c)) : PTs X [e] (TTo L T call W (.yes c)) := ptsImp (pts_one h) fun τ H Q ⟨m, h, σ, hs, S, p⟩ => by
  rw [M.evO] at p
  exact ⟨m, h, σ, hs, S, p⟩
/-- the walk of a comprehension stands at i -/
structure At (L : Lk) (m0 : Mp) (H0 : Hp) (D : Addr) (acc : List M.Val) (h' : M.Heap) (H' : Hp) (m' : Mp) (ys : List V) : Prop where
  ext : Ext m0 H0 m' H'
  sim : Sim L m' h' H'
  dst : H' D = some (.lst ys)
  rel : vrels L m' H' acc ys
  out : ∀ a, m' a ≠ some D
theorem drop_cons {α : Type} {xs : List α} {i : Nat} {x : α} (h : xs[i]? = some x) : xs.drop i = x :: xs.drop (i + 1) := by
  have hi := (List.getElem?_eq_some_iff.mp h).1
  rw [List.drop_eq_getElem_cons hi, (List.getElem?_eq_some_iff.mp h).2]
theorem Ext.out {m m' : Mp} {H H' : Hp} (x : Ext m H m' H') {D : Addr} (o : ∀ a, m a ≠ some D) (hD : H D ≠ none) : ∀ a, m' a ≠ some D := fun a e => by
  rcases x.new a D e with q | q
  · exact o a q
  · exact hD q
mutual
theorem vrel.tups {m : Mp} {H H' : Hp} (E : ∀ A ys, H A = some (.tup ys) → H' A = some (.tup ys)) : ∀ {x : M.Val} {v : V}, vrel L m H x v → vrel L m H' x v
  | .non, _, h => h
  | .bl _, _, h => h
  | .int _, _, h => h
  | .str _, _, h => h
  | .ref a, _, h => h
  | .tup vs, _, h => by
    obtain ⟨A, ys, e, s, r⟩ := h
    refine ⟨A, ys, e, ?_, vrels.tups E r⟩
    rcases s with s | s
    · exact .inl (E A ys s)
    · exact .inr s
  | .glb _, _, h => h
theorem vrels.tups {m : Mp} {H H' : Hp} (E : ∀ A ys, H A = some (.tup ys) → H' A = some (.tup ys)) : ∀ {xs : List M.Val} {ys : List V}, vrels L m H xs ys → vrels L m H' xs ys
  | [], _, h => h
  | x :: xs, _, h => by
    obtain ⟨y, r, e, h1, h2⟩ := h
    exact ⟨y, r, e, vrel.tups E h1, vrels.tups E h2⟩
end
theorem kvrel.tups {κ κ' : Type} {f : κ → κ'} {m : Mp} {H H' : Hp} (x : ∀ A ys, H A = some (.tup ys) → H' A = some (.tup ys)) : ∀ {kvs : List (κ × M.Val)} {ys : List (κ' × V)}, kvrel (L := L) f m H kvs ys → kvrel (L := L) f m H' kvs ys
  | [], _, h => h
  | (k, z) :: r, _, h => by
    obtain ⟨y, t, e, h1, h2⟩ := h
    exact ⟨y, t, e, vrel.tups x h1, kvrel.tups x h2⟩
theorem srel.tups {m : Mp} {H H' : Hp} (x : ∀ A ys, H A = some (.tup ys) → H' A = some (.tup ys)) : ∀ {σ : M.Slots} {τ : St}, srel (L := L) m H σ τ → srel (L := L) m H' σ τ
  | [], _, h => h
  | o :: r, _, h => by
    obtain ⟨p, q, e, h1, h2⟩ := h
    refine ⟨p, q, e, ?_, srel.tups x h2⟩
    cases o <;> cases p <;> first | exact h1 | exact vrel.tups x h1
theorem wipe_wipe (τ : St) (vs : List Nat) : wipe (wipe τ vs) vs = wipe τ vs := by
  refine List.ext_getElem? fun j => ?_
  rw [wipe_get, wipe_get, wipe_length]
  by_cases hj : j ∈ vs
  · rw [if_pos hj, if_pos hj]
  · rw [if_neg hj, if_neg hj]
/-- a thing that M does not have is changed -/
theorem Ext.scratch {m1 m : Mp} {H1 H : Hp} {D : Addr} {O : HO} (x : Ext m1 H1 m H) (n0 : H1 D = none) : Ext m1 H1 m (upd H D O) where
  mono := x.mono
  new := x.new
  keep := fun A O' n e => by rw [upd_ne (ne_of_none e n0)]; exact x.keep A O' n e
  imm := fun A O' i e => by rw [upd_ne (ne_of_none e n0)]; exact x.imm A O' i e
  there := fun A e => by
    by_cases z : A = D
    · rw [z, upd_same]; exact Option.some_ne_none _
    · rw [upd_ne z]; exact x.there A e
theorem tups_upd {H : Hp} {D : Addr} {O O' : HO} (hD : H D = some O') (hO : ¬ Imm O') : ∀ A ys, H A = some (.tup ys) → upd H D O A = some (.tup ys) := fun A ys e => by
  rw [upd_ne]
  · exact e
  · rintro rfl
    rw [hD] at e
    cases e
    exact hO trivial
theorem Sim.scratch {m : Mp} {h : M.Heap} {H : Hp} {D : Addr} {O O' : HO} (S : Sim L m h H) (out : ∀ a, m a ≠ some D) (hD : H D = some O') (hO : ¬ Imm O') : Sim L m h (upd H D O) where
  obj := fun a A e => by
    obtain ⟨o, q, r⟩ := S.obj a A e
    have k : upd H D O A = H A := upd_ne fun z => out a (by rw [← z]; exact e)
    refine ⟨o, q, ?_⟩
    cases o with
    | lst _ => obtain ⟨ys, z, q⟩ := r; exact ⟨ys, by rw [k]; exact z, vrels.tups (tups_upd hD hO) q⟩
    | dct _ => obtain ⟨ys, z, q⟩ := r; exact ⟨ys, by rw [k]; exact z, kvrel.tups (tups_upd hD hO) q⟩
    | dcT _ => obtain ⟨ys, z, q⟩ := r; exact ⟨ys, by rw [k]; exact z, kvrel.tups (tups_upd hD hO) q⟩
    | ins _ _ => obtain ⟨dx, ys, z, q, c⟩ := r; exact ⟨dx, ys, by rw [k]; exact z, kvrel.tups (tups_upd hD hO) q, c⟩
  inj := S.inj
  scr := let ⟨ys, q, r⟩ := S.scr; ⟨ys, by
    rcases q with ⟨o, q⟩ | q
    · refine .inl ⟨o, ?_⟩
      rw [upd_ne]
      · exact q
      · intro e
        rw [e, hD] at q
        cases q
        exact hO trivial
    · exact .inr q, vrels.tups (tups_upd hD hO) r⟩
theorem compL_len {src : M.Src} {tg : M.Tg} {σ : M.Slots} {cond : M.Slots → M.Heap → M.R Bool} {elt : M.Slots → M.Heap → M.R M.Val} : ∀ (l acc : List M.Val) (h : M.Heap), match M.compL src tg σ cond elt l acc h with
    | .ok zs _ => acc.length ≤ zs.length
    | .exc _ _ _ => False
    | .bad => True
  | [], acc, h => by
    rw [M.compL]
    split
    · rename_i e
      split at e
      · cases e; exact Nat.le_refl _
      · cases e
    · rename_i e
      split at e <;> cases e
    · trivial
  | v :: vs, acc, h => by
    rw [M.compL]
    by_cases st : M.stands h src = true
    · rw [if_pos st]
      cases M.assignT tg v σ with
      | none => trivial
      | some σ1 =>
        cases ec : cond σ1 h with
        | bad => simp only [ec]
        | exc _ _ _ => simp only [ec]
        | ok b h1 =>
          simp only [ec]
          cases b with
          | false => exact compL_len vs acc h1
          | true =>
            cases ee : elt σ1 h1 with
            | bad => simp only [ee]
            | exc _ _ _ => simp only [ee]
            | ok y h2 =>
              simp only [ee]
              have := compL_len (src := src) (tg := tg) (σ := σ) (cond := cond) (elt := elt) vs (acc ++ [y]) h2
              revert this
              cases M.compL src tg σ cond elt vs (acc ++ [y]) h2 with
              | ok zs _ =>
                intro q
                rw [List.length_append] at q
                exact Nat.le_trans (Nat.le_add_right _ _) q
              | exc _ _ _ => exact id
              | bad => exact id
    · rw [if_neg st]
      trivial
theorem comp_line {src : M.Src} {tg : M.Tg} {σ : M.Slots} {cond : M.Slots → M.Heap → M.R Bool} {elt : M.Slots → M.Heap → M.R M.Val} {l acc : List M.Val} {h : M.Heap} {E : XK} {m : Mp} {H : Hp} {Q : VK}
    (p : Post (L := L) T (vrel L) E ((M.compL src tg σ cond elt l acc h).bind fun ys h2 => if ys.length ≤ M.sizeLine then .ok (.ref h2.size) (h2.push (.lst ys)) else .bad) m H Q) : acc.length ≤ M.sizeLine := by
  have q := compL_len (src := src) (tg := tg) (σ := σ) (cond := cond) (elt := elt) l acc h
  cases e : M.compL src tg σ cond elt l acc h with
  | ok zs h2 =>
    rw [e] at p q
    have p : Post (L := L) T (vrel L) E (if zs.length ≤ M.sizeLine then .ok (.ref h2.size) (h2.push (.lst zs)) else .bad) m H Q := p
    split at p
    · rename_i z
      exact Nat.le_trans q z
    · exact p.elim
  | exc _ _ _ => rw [e] at q; exact q.elim
  | bad => rw [e] at p; exact p.elim
theorem comp_walk {tg : M.Tg} {src : M.Src} {J : It} {σ : M.Slots} {τ : St} {cond : M.Option_E} {elt : M.E} {m1 : Mp} {h1 : M.Heap} {H1 : Hp} {D : Addr} {E : XK} {Q : VK} (hs : srel (L := L) m1 H1 σ τ) (S1 : Sim L m1 h1 H1) (ok : ItOk L m1 H1 src J) (n0 : H1 D = none)
    (p : Post (L := L) T (vrel L) E ((M.compL src tg (M.wipeT tg σ) (fun σ1 h => M.evO T call cond σ1 h) (fun σ1 h => M.evE T call elt σ1 h) src.items [] h1).bind fun ys h2 => if ys.length ≤ M.sizeLine then .ok (.ref h2.size) (h2.push (.lst ys)) else .bad) m1 H1 Q) :
    ∃ Wi : Nat → Nat → Hp → Prop, (∃ k, Wi 0 k (upd H1 D (.lst []))) ∧ ∀ i k H, Wi i k H →
      (J.stop i H ∧ Q (.ref D) H) ∨ (J.go i H ∧ ∃ Nx : Hp → Prop, (∀ H', Nx H' → ∃ k', k' < k ∧ Wi (i + 1) k' H') ∧ ∀ x H', J.yld i H x H' → TGv L.K tg x (wipe τ (slotsT tg)) H' fun σ2 H2 => wipe σ2 (slotsT tg) = wipe τ (slotsT tg) ∧ TTo L T call Wf cond σ2 H2 fun b H3 =>
        if b = true then TEv L T call Wf elt σ2 H3 fun y H4 => ∃ acc, H4 D = some (.lst acc) ∧ acc.length < sizeLine ∧ Nx (upd H4 D (.lst (acc ++ [y]))) else Nx H3) := by
  let go := fun (l : List M.Val) (acc : List M.Val) (h : M.Heap) => M.compL src tg (M.wipeT tg σ) (fun σ1 h => M.evO T call cond σ1 h) (fun σ1 h => M.evE T call elt σ1 h) l acc h
  let Wi : Nat → Nat → Hp → Prop := fun i k H => k = src.items.length - i ∧ i ≤ src.items.length ∧ ∃ m' h' acc ys, At L m1 H1 D acc h' H m' ys ∧
    Post (L := L) T (vrel L) E ((go (src.items.drop i) acc h').bind fun ys h2 => if ys.length ≤ M.sizeLine then .ok (.ref h2.size) (h2.push (.lst ys)) else .bad) m1 H1 Q
  refine ⟨Wi, ⟨_, rfl, Nat.zero_le _, m1, h1, [], [], ⟨Ext.fresh n0, Sim.fresh S1 n0, upd_same, rfl, fun a e => (S1.old e).1 n0⟩, p⟩, fun i k H ⟨hk, hi, m', h', acc, ys, A, p⟩ => ?_⟩
  have line : ys.length = acc.length := A.rel.length.symm
  by_cases st : M.stands h' src = true
  · obtain ⟨ok1, ok2⟩ := ok i m' h' H A.ext.le A.sim st
    cases ev : src.items[i]? with
    | none =>
      have hl : src.items.length ≤ i := by
        rcases Nat.lt_or_ge i src.items.length with q | q
        · rw [List.getElem?_eq_getElem q] at ev; cases ev
        · exact q
      refine .inl ⟨ok2 hl, ?_⟩
      rw [List.drop_of_length_le hl] at p
      have e : go [] acc h' = .ok acc h' := by
        show M.compL src tg _ _ _ [] acc h' = _
        rw [M.compL, if_pos st]
      rw [e] at p
      have p : Post (L := L) T (vrel L) E (if acc.length ≤ M.sizeLine then .ok (.ref h'.size) (h'.push (.lst acc)) else .bad) m1 H1 Q := p
      split at p
      · refine p _ H _ (A.ext.adopt A.sim n0) (A.sim.adopt A.out ⟨ys, A.dst, A.rel⟩) ⟨D, ?_, rfl⟩
        unfold bindAt
        rw [if_pos rfl]
      · exact p.elim
    | some v =>
      obtain ⟨hgo, hy⟩ := ok1 v ev
      have hlt := (List.getElem?_eq_some_iff.mp ev).1
      refine .inr ⟨hgo, fun H' => Wi (i + 1) (src.items.length - (i + 1)) H', fun H' q => ⟨_, by omega, q⟩, fun x H2 hx => ?_⟩
      obtain ⟨rv, x2, S2⟩ := hy x H2 hx
      rw [drop_cons ev] at p
      have e : go (v :: src.items.drop (i + 1)) acc h' = (match M.assignT tg v (M.wipeT tg σ) with
          | some σ1 => (match M.evO T call cond σ1 h' with
            | .ok true h1 => (match M.evE T call elt σ1 h1 with
              | .ok y h2 => go (src.items.drop (i + 1)) (acc ++ [y]) h2
              | _ => .bad)
            | .ok false h1 => go (src.items.drop (i + 1)) acc h1
            | _ => .bad)
          | none => .bad) := by
        show M.compL src tg _ _ _ (v :: _) acc h' = _
        rw [M.compL, if_pos st]
        try rfl
      rw [e] at p
      have hs2 : srel (L := L) m' H2 (M.wipeT tg σ) (wipe τ (slotsT tg)) := srel.ext (A.ext.trans x2) (wipeT_rel hs)
      cases ea : M.assignT tg v (M.wipeT tg σ) with
      | none => rw [ea] at p; exact p.elim
      | some σ1 =>
        rw [ea] at p
        refine TGv.of hs2 rv ea fun τ1 hs3 asg => ⟨(asgT_wipe asg fun i h => h).trans (wipe_wipe _ _), m', h', σ1, hs3, S2, ?_⟩
        cases ec : M.evO T call cond σ1 h' with
        | bad => simp only [ec] at p; exact p.elim
        | exc _ _ _ => simp only [ec] at p; exact p.elim
        | ok b h3 =>
          simp only [ec] at p
          intro m3 H3 b' x3 S3 eb
          cases (show b' = b from eb)
          have D2 : H2 D = some (.lst ys) := x2.keep D _ A.out A.dst
          have o2 := A.out
          have D3 : H3 D = some (.lst ys) := x3.keep D _ o2 D2
          have o3 := x3.out o2 (by rw [D2]; exact Option.some_ne_none _)
          have ext3 := (A.ext.trans x2).trans x3
          cases b with
          | false =>
            rw [if_neg Bool.false_ne_true]
            exact ⟨rfl, hlt, m3, h3, acc, ys, ⟨ext3, S3, D3, vrels.ext (x2.trans x3) A.rel, o3⟩, p⟩
          | true =>
            rw [if_pos rfl]
            refine ⟨m3, h3, σ1, hs3.ext x3, S3, ?_⟩
            cases ee : M.evE T call elt σ1 h3 with
            | bad => simp only [ee] at p; exact p.elim
            | exc _ _ _ => simp only [ee] at p; exact p.elim
            | ok y h4 =>
              simp only [ee] at p
              intro m4 H4 z x4 S4 rz
              have D4 : H4 D = some (.lst ys) := x4.keep D _ o3 D3
              have o4 := x4.out o3 (by rw [D3]; exact Option.some_ne_none _)
              have ln : (acc ++ [y]).length ≤ M.sizeLine := comp_line p
              rw [List.length_append, List.length_singleton] at ln
              have nI : ¬ Imm (HO.lst ys) := id
              have rr : vrels L m4 H4 (acc ++ [y]) (ys ++ [z]) := vrels.app (vrels.ext ((x2.trans x3).trans x4) A.rel) (vrels.one rz)
              exact ⟨ys, D4, by rw [line, ← lineEq]; omega, rfl, hlt, m4, h4, acc ++ [y], ys ++ [z], ⟨(ext3.trans x4).scratch n0, S4.scratch o4 D4 nI, upd_same, vrels.tups (tups_upd D4 nI) rr, o4⟩, p⟩
  · have e : ∀ l, go l acc h' = .bad := by
      intro l
      show M.compL src tg _ _ _ l acc h' = .bad
      cases l with
      | nil => rw [M.compL, if_neg st]
      | cons v vs => rw [M.compL, if_neg st]
    rw [e] at p
    exact p.elim
theorem comp_op {tg : M.Tg} {it : M.It} {cond : M.Option_E} {elt : M.E} {τ : St} {H : Hp} {Q : VK} {vs : List Nat} (hv : vs = slotsT tg) (t : TEv L T call W (.comp elt tg it cond) τ H Q) :
    tLc (TIv L T call W it) (TGv L.K tg) (TTo L T call Wf cond) (TEv L T call Wf elt) vs τ H Q := by
  subst hv
  obtain ⟨m, h, σ, hs, S, p⟩ := t
  rw [M.evE] at p
  exact ⟨m, h, σ, hs, S, (Post.bind p).imp fun J H1 ⟨m1, h1, src, e, s, r, q⟩ D n0 => comp_walk (hs.ext e) s r n0 q⟩
theorem snd_comp {elt tg iter : Expr} {ifs : List Expr} {scope : Scope} {own : List (Str × Nat)} {pos : Pos} {t : M.Tg} {ci : M.It} {cond : M.Option_E} {ce : M.E} (hc : X.calm = true) (hN : X.N.Nodup) (hi : PI X tg iter (TIv L T call W ci)) (ok : BlkOk X.N X.env.scope scope own) (hv : own.map (·.2) = slotsT t)
    (hg : ∀ (s : Shared) (H : Hp) (C : Addr) (cl : List (Str × Addr)) (fp : List Addr), PG (X.blk s H scope (compEnvC scope cl C X.env) fp) tg (TGv L.K t)) (ht : ∀ (s : Shared) (H : Hp) (C : Addr) (cl : List (Str × Addr)) (fp : List Addr), PTs (X.blk s H scope (compEnvC scope cl C X.env) fp) ifs (TTo L T call Wf cond))
    (he : ∀ (s : Shared) (H : Hp) (C : Addr) (cl : List (Str × Addr)) (fp : List Addr), PE (X.blk s H scope (compEnvC scope cl C X.env) fp) elt (TEv L T call Wf ce)) (hp : plainE iter = true) :
    PE X (.ListComp elt [⟨tg, iter, ifs, 0⟩] scope pos) (TEv L T call W (.comp ce t ci cond)) :=
  peImp (pe_lc hc hN hi ok hg ht he (plain_fold hp)) fun τ H Q q => comp_op hv q
end
end Br
end

section
set_option Elab.async false
set_option linter.all false
set_option maxRecDepth 100000
set_option maxHeartbeats 1000000
/-! B15: comprehensions of two walks. -/
namespace Br
open PySem L2
section
variable {L : Lk} {T : M.Tab} {X : Cx} {W : WX} {call : Nat → List M.Val → M.Heap → M.R M.Val}
theorem srel.le {m m' : Mp} {H H' : Hp} (x : Le m H m' H') : ∀ {σ : M.Slots} {τ : St}, srel (L := L) m H σ τ → srel (L := L) m' H' σ τ
  | [], _, h => h
  | o :: r, _, h => by
    obtain ⟨p, q, e, h1, h2⟩ := h
    refine ⟨p, q, e, ?_, srel.le x h2⟩
    cases o <;> cases p <;> first | exact h1 | exact vrel.le x h1
theorem Le.scratch {m0 m : Mp} {H0 H : Hp} {D : Addr} {O O' : HO} (x : Le m0 H0 m H) (hD : H D = some O') (hO : ¬ Imm O') : Le m0 H0 m (upd H D O) where
  mono := x.mono
  imm := fun A Oi i e => by
    have e1 := x.imm A Oi i e
    rw [upd_ne]
    · exact e1
    · rintro rfl
      rw [hD] at e1
      cases e1
      exact hO i
theorem compL2_len {src : M.Src} {tg : M.Tg} {σ : M.Slots} {inner : M.Slots → M.Heap → M.R (List M.Val)} : ∀ (l acc : List M.Val) (h : M.Heap), match M.compL2 src tg σ inner l acc h with
    | .ok zs _ => acc.length ≤ zs.length
    | .exc _ _ _ => False
    | .bad => True
  | [], acc, h => by
    rw [M.compL2]
    by_cases st : M.stands h src = true
    · rw [if_pos st]
      exact Nat.le_refl _
    · rw [if_neg st]
      trivial
  | v :: vs, acc, h => by
    rw [M.compL2]
    by_cases st : M.stands h src = true
    · rw [if_pos st]
      cases M.assignT tg v σ with
      | none => trivial
      | some σ1 =>
        cases ec : inner σ1 h with
        | bad => simp only [ec]
        | exc _ _ _ => simp only [ec]
        | ok ys h2 =>
          simp only [ec]
          have := compL2_len (src := src) (tg := tg) (σ := σ) (inner := inner) vs (acc ++ ys) h2
          revert this
          cases M.compL2 src tg σ inner vs (acc ++ ys) h2 with
          | ok zs _ =>
            intro q
            rw [List.length_append] at q
            exact Nat.le_trans (Nat.le_add_right _ _) q
          | exc _ _ _ => exact id
          | bad => exact id
    · rw [if_neg st]
      trivial
theorem comp2_line {src : M.Src} {tg : M.Tg} {σ : M.Slots} {inner : M.Slots → M.Heap → M.R (List M.Val)} {l acc : List M.Val} {h : M.Heap} {E : XK} {m : Mp} {H : Hp} {Q : VK}
    (p : Post (L := L) T (vrel L) E ((M.compL2 src tg σ inner l acc h).bind fun ys h2 => if ys.length ≤ M.sizeLine then .ok (.ref h2.size) (h2.push (.lst ys)) else .bad) m H Q) : acc.length ≤ M.sizeLine := by
  have q := compL2_len (src := src) (tg := tg) (σ := σ) (inner := inner) l acc h
  cases e : M.compL2 src tg σ inner l acc h with
  | ok zs h2 =>
    rw [e] at p q
    have p : Post (L := L) T (vrel L) E (if zs.length ≤ M.sizeLine then .ok (.ref h2.size) (h2.push (.lst zs)) else .bad) m H Q := p
    split at p
    · rename_i z
      exact Nat.le_trans q z
    · exact p.elim
  | exc _ _ _ => rw [e] at q; exact q.elim
  | bad => rw [e] at p; exact p.elim
theorem comp2_walk {t1 t2 : M.Tg} {i2 : M.It} {src : M.Src} {J : It} {σ : M.Slots} {τ : St} {elt : M.E} {m1 : Mp} {h1 : M.Heap} {H1 : Hp} {D : Addr} {E : XK} {Q : VK} (hs : srel (L := L) m1 H1 σ τ) (S1 : Sim L m1 h1 H1) (ok : ItOk L m1 H1 src J) (n0 : H1 D = none)
    (p : Post (L := L) T (vrel L) E ((M.compL2 src t1 (M.wipeT t2 (M.wipeT t1 σ)) (fun σ1 h => (M.evIt T call i2 σ1 h).bind fun src2 h2 => M.compL src2 t2 (M.wipeT t2 σ1) (fun _ h => .ok true h) (fun σ2 h => M.evE T call elt σ2 h) src2.items [] h2) src.items [] h1).bind
      fun ys h2 => if ys.length ≤ M.sizeLine then .ok (.ref h2.size) (h2.push (.lst ys)) else .bad) m1 H1 Q) :
    ∃ Wi : Nat → Nat → Hp → Prop, (∃ k, Wi 0 k (upd H1 D (.lst []))) ∧ ∀ i k H, Wi i k H →
      (J.stop i H ∧ Q (.ref D) H) ∨ (J.go i H ∧ ∃ Nx : Hp → Prop, (∀ H', Nx H' → ∃ k', k' < k ∧ Wi (i + 1) k' H') ∧ ∀ x H', J.yld i H x H' → TGv L.K t1 x (wipe τ (slotsT t2 ++ slotsT t1)) H' fun σ2 H2 => wipe σ2 (slotsT t2 ++ slotsT t1) = wipe τ (slotsT t2 ++ slotsT t1) ∧ TTo L T call Wf .no σ2 H2 fun b H3 =>
        if b = true then TIv L T call Wf i2 σ2 H3 fun J1 H4 => ∃ W1 : Nat → Nat → Hp → Prop, (∃ k, W1 0 k H4) ∧ ∀ j k H, W1 j k H →
          (J1.stop j H ∧ Nx H) ∨ (J1.go j H ∧ ∃ Nx1 : Hp → Prop, (∀ H', Nx1 H' → ∃ k', k' < k ∧ W1 (j + 1) k' H') ∧ ∀ x H', J1.yld j H x H' → TGv L.K t2 x (wipe σ2 (slotsT t2)) H' fun σ3 H5 => wipe σ3 (slotsT t2) = wipe σ2 (slotsT t2) ∧ TTo L T call Wf .no σ3 H5 fun b H6 =>
            if b = true then TEv L T call Wf elt σ3 H6 fun y H7 => ∃ acc, H7 D = some (.lst acc) ∧ acc.length < sizeLine ∧ Nx1 (upd H7 D (.lst (acc ++ [y]))) else Nx1 H6)
        else Nx H3) := by
  let goI := fun (src2 : M.Src) (σ1 : M.Slots) (l acc : List M.Val) (h : M.Heap) => M.compL src2 t2 (M.wipeT t2 σ1) (fun _ h => .ok true h) (fun σ2 h => M.evE T call elt σ2 h) l acc h
  let go := fun (l : List M.Val) (acc : List M.Val) (h : M.Heap) => M.compL2 src t1 (M.wipeT t2 (M.wipeT t1 σ)) (fun σ1 h => (M.evIt T call i2 σ1 h).bind fun src2 h2 => goI src2 σ1 src2.items [] h2) l acc h
  let fin : List M.Val → M.Heap → M.R M.Val := fun ys h2 => if ys.length ≤ M.sizeLine then .ok (.ref h2.size) (h2.push (.lst ys)) else .bad
  let Wi : Nat → Nat → Hp → Prop := fun i k H => k = src.items.length - i ∧ i ≤ src.items.length ∧ ∃ m' h' acc ys, At L m1 H1 D acc h' H m' ys ∧ Post (L := L) T (vrel L) E ((go (src.items.drop i) acc h').bind fin) m1 H1 Q
  refine ⟨Wi, ⟨_, rfl, Nat.zero_le _, m1, h1, [], [], ⟨Ext.fresh n0, Sim.fresh S1 n0, upd_same, rfl, fun a e => (S1.old e).1 n0⟩, p⟩, fun i k H ⟨hk, hi, m', h', acc, ys, A, p⟩ => ?_⟩
  by_cases st : M.stands h' src = true
  · obtain ⟨ok1, ok2⟩ := ok i m' h' H A.ext.le A.sim st
    cases ev : src.items[i]? with
    | none =>
      have hl : src.items.length ≤ i := by
        rcases Nat.lt_or_ge i src.items.length with q | q
        · rw [List.getElem?_eq_getElem q] at ev; cases ev
        · exact q
      refine .inl ⟨ok2 hl, ?_⟩
      rw [List.drop_of_length_le hl] at p
      have e : go [] acc h' = .ok acc h' := by
        show M.compL2 src t1 _ _ [] acc h' = _
        rw [M.compL2, if_pos st]
      rw [e] at p
      have p : Post (L := L) T (vrel L) E (if acc.length ≤ M.sizeLine then .ok (.ref h'.size) (h'.push (.lst acc)) else .bad) m1 H1 Q := p
      split at p
      · refine p _ H _ (A.ext.adopt A.sim n0) (A.sim.adopt A.out ⟨ys, A.dst, A.rel⟩) ⟨D, ?_, rfl⟩
        unfold bindAt
        rw [if_pos rfl]
      · exact p.elim
    | some v =>
      obtain ⟨hgo, hy⟩ := ok1 v ev
      have hlt := (List.getElem?_eq_some_iff.mp ev).1
      refine .inr ⟨hgo, fun H' => Wi (i + 1) (src.items.length - (i + 1)) H', fun H' q => ⟨_, by omega, q⟩, fun x H2 hx => ?_⟩
      obtain ⟨rv, x2, S2⟩ := hy x H2 hx
      rw [drop_cons ev] at p
      have e : go (v :: src.items.drop (i + 1)) acc h' = (match M.assignT t1 v (M.wipeT t2 (M.wipeT t1 σ)) with
          | some σ1 => (match (M.evIt T call i2 σ1 h').bind fun src2 h2 => goI src2 σ1 src2.items [] h2 with
            | .ok zs h2 => go (src.items.drop (i + 1)) (acc ++ zs) h2
            | _ => .bad)
          | none => .bad) := by
        show M.compL2 src t1 _ _ (v :: _) acc h' = _
        rw [M.compL2, if_pos st]
        try rfl
      rw [e] at p
      have hs2 : srel (L := L) m' H2 (M.wipeT t2 (M.wipeT t1 σ)) (wipe τ (slotsT t2 ++ slotsT t1)) := by
        have : wipe τ (slotsT t2 ++ slotsT t1) = wipe (wipe τ (slotsT t1)) (slotsT t2) := by
          induction slotsT t2 with
          | nil => rfl
          | cons a r ih => show (wipe τ (r ++ slotsT t1)).set a none = _; rw [ih]; rfl
        rw [this]
        exact srel.ext (A.ext.trans x2) (wipeT_rel (wipeT_rel hs))
      cases ea : M.assignT t1 v (M.wipeT t2 (M.wipeT t1 σ)) with
      | none => rw [ea] at p; exact p.elim
      | some σ1 =>
        rw [ea] at p
        refine TGv.of hs2 rv ea fun τ1 hs3 asg => ⟨(asgT_wipe asg fun i h => List.mem_append_right _ h).trans (wipe_wipe _ _), m', h', σ1, hs3, S2, ?_⟩
        rw [M.evO]
        intro m3 H3 b' x3 S3 eb
        cases (show b' = true from eb)
        rw [if_pos rfl]
        have D2 : H2 D = some (.lst ys) := x2.keep D _ A.out A.dst
        have o2 := A.out
        have D3 : H3 D = some (.lst ys) := x3.keep D _ o2 D2
        have o3 := x3.out o2 (by rw [D2]; exact Option.some_ne_none _)
        have ext3 := (A.ext.trans x2).trans x3
        have hs4 := hs3.ext x3
        refine ⟨m3, h', σ1, hs4, S3, ?_⟩
        cases eI : M.evIt T call i2 σ1 h' with
        | bad => simp only [eI] at p; exact p.elim
        | exc _ _ _ => simp only [eI] at p; exact p.elim
        | ok src2 h2 =>
          simp only [eI] at p
          intro m4 H4 J1 x4 S4 okI
          have D4 : H4 D = some (.lst ys) := x4.keep D _ o3 D3
          have o4 := x4.out o3 (by rw [D3]; exact Option.some_ne_none _)
          have ext4 := ext3.trans x4
          have hs5 := hs4.ext x4
          have okI : ItOk L m4 H4 src2 J1 := okI
          have p : Post (L := L) T (vrel L) E ((match goI src2 σ1 src2.items [] h2 with
            | .ok zs h2 => go (src.items.drop (i + 1)) (acc ++ zs) h2
            | _ => .bad).bind fin) m1 H1 Q := p
          let W1 : Nat → Nat → Hp → Prop := fun j k H => k = src2.items.length - j ∧ j ≤ src2.items.length ∧ ∃ m' h' accI ys, At L m1 H1 D (acc ++ accI) h' H m' ys ∧ Le m4 H4 m' H ∧
            Post (L := L) T (vrel L) E ((match goI src2 σ1 (src2.items.drop j) accI h' with
            | .ok zs h2 => go (src.items.drop (i + 1)) (acc ++ zs) h2
            | _ => .bad).bind fin) m1 H1 Q
          refine ⟨W1, ⟨_, rfl, Nat.zero_le _, m4, h2, [], ys, ⟨ext4, S4, D4, by rw [List.append_nil]; exact vrels.ext ((x2.trans x3).trans x4) A.rel, o4⟩, .refl, p⟩, fun j k5 H5 ⟨hk5, hj, m5, h5, accI, ys5, A5, le5, p5⟩ => ?_⟩
          by_cases st5 : M.stands h5 src2 = true
          · obtain ⟨ok5, ok6⟩ := okI j m5 h5 H5 le5 A5.sim st5
            cases ev5 : src2.items[j]? with
            | none =>
              have hl : src2.items.length ≤ j := by
                rcases Nat.lt_or_ge j src2.items.length with q | q
                · rw [List.getElem?_eq_getElem q] at ev5; cases ev5
                · exact q
              refine .inl ⟨ok6 hl, rfl, hlt, m5, h5, acc ++ accI, ys5, A5, ?_⟩
              rw [List.drop_of_length_le hl] at p5
              have e5 : goI src2 σ1 [] accI h5 = .ok accI h5 := by
                show M.compL src2 t2 _ _ _ [] accI h5 = _
                rw [M.compL, if_pos st5]
              rw [e5] at p5
              exact p5
            | some v5 =>
              obtain ⟨hgo5, hy5⟩ := ok5 v5 ev5
              have hlt5 := (List.getElem?_eq_some_iff.mp ev5).1
              refine .inr ⟨hgo5, fun H' => W1 (j + 1) (src2.items.length - (j + 1)) H', fun H' q => ⟨_, by omega, q⟩, fun x5 H6 hx5 => ?_⟩
              obtain ⟨rv5, x6, S6⟩ := hy5 x5 H6 hx5
              rw [drop_cons ev5] at p5
              have e5 : goI src2 σ1 (v5 :: src2.items.drop (j + 1)) accI h5 = (match M.assignT t2 v5 (M.wipeT t2 σ1) with
                  | some σ2 => (match M.evE T call elt σ2 h5 with
                    | .ok y h2 => goI src2 σ1 (src2.items.drop (j + 1)) (accI ++ [y]) h2
                    | _ => .bad)
                  | none => .bad) := by
                show M.compL src2 t2 _ _ _ (v5 :: _) accI h5 = _
                rw [M.compL, if_pos st5]
                try rfl
              rw [e5] at p5
              have hs6 : srel (L := L) m5 H6 (M.wipeT t2 σ1) (wipe τ1 (slotsT t2)) := srel.ext x6 (srel.le le5 (wipeT_rel hs5))
              cases ea5 : M.assignT t2 v5 (M.wipeT t2 σ1) with
              | none => rw [ea5] at p5; exact p5.elim
              | some σ2 =>
                rw [ea5] at p5
                refine TGv.of hs6 rv5 ea5 fun τ2 hs7 asg2 => ⟨(asgT_wipe asg2 fun i h => h).trans (wipe_wipe _ _), m5, h5, σ2, hs7, S6, ?_⟩
                rw [M.evO]
                intro m7 H7 b7 x7 S7 eb7
                cases (show b7 = true from eb7)
                rw [if_pos rfl]
                have D6 : H6 D = some (.lst ys5) := x6.keep D _ A5.out A5.dst
                have D7 : H7 D = some (.lst ys5) := x7.keep D _ A5.out D6
                have o7 := x7.out A5.out (by rw [D6]; exact Option.some_ne_none _)
                refine ⟨m7, h5, σ2, hs7.ext x7, S7, ?_⟩
                cases ee : M.evE T call elt σ2 h5 with
                | bad => simp only [ee] at p5; exact p5.elim
                | exc _ _ _ => simp only [ee] at p5; exact p5.elim
                | ok y h8 =>
                  simp only [ee] at p5
                  intro m8 H8 z x8 S8 rz
                  have D8 : H8 D = some (.lst ys5) := x8.keep D _ o7 D7
                  have o8 := x8.out o7 (by rw [D7]; exact Option.some_ne_none _)
                  have nI : ¬ Imm (HO.lst ys5) := id
                  have rr : vrels L m8 H8 (acc ++ (accI ++ [y])) (ys5 ++ [z]) := by
                    rw [← List.append_assoc]
                    exact vrels.app (vrels.ext ((x6.trans x7).trans x8) A5.rel) (vrels.one rz)
                  have ln : (acc ++ (accI ++ [y])).length ≤ M.sizeLine := by
                    have q := compL_len (src := src2) (tg := t2) (σ := M.wipeT t2 σ1) (cond := fun _ h => .ok true h) (elt := fun σ2 h => M.evE T call elt σ2 h) (src2.items.drop (j + 1)) (accI ++ [y]) h8
                    cases e9 : M.compL src2 t2 (M.wipeT t2 σ1) (fun _ h => .ok true h) (fun σ2 h => M.evE T call elt σ2 h) (src2.items.drop (j + 1)) (accI ++ [y]) h8 with
                    | ok zs h9 =>
                      have e9' : goI src2 σ1 (src2.items.drop (j + 1)) (accI ++ [y]) h8 = .ok zs h9 := e9
                      rw [e9'] at p5
                      rw [e9] at q
                      have := comp2_line (L := L) (T := T) p5
                      rw [List.length_append] at this ⊢
                      omega
                    | exc _ _ _ => rw [e9] at q; exact q.elim
                    | bad =>
                      have e9' : goI src2 σ1 (src2.items.drop (j + 1)) (accI ++ [y]) h8 = .bad := e9
                      rw [e9'] at p5
                      exact p5.elim
                  have l5 := A5.rel.length
                  refine ⟨ys5, D8, ?_, rfl, hlt5, m8, h8, accI ++ [y], ys5 ++ [z], ⟨(((A5.ext.trans x6).trans x7).trans x8).scratch n0, S8.scratch o8 D8 nI, upd_same, vrels.tups (tups_upd D8 nI) rr, o8⟩, (le5.trans ((x6.trans x7).trans x8).le).scratch D8 nI, p5⟩
                  rw [← l5, ← lineEq]
                  rw [List.length_append, List.length_append, List.length_singleton] at ln
                  rw [List.length_append]
                  omega
          · have e5 : ∀ l, goI src2 σ1 l accI h5 = .bad := by
              intro l
              show M.compL src2 t2 _ _ _ l accI h5 = .bad
              cases l with
              | nil => rw [M.compL, if_neg st5]
              | cons v vs => rw [M.compL, if_neg st5]
            rw [e5] at p5
            exact p5.elim
  · have e : ∀ l, go l acc h' = .bad := by
      intro l
      show M.compL2 src t1 _ _ l acc h' = .bad
      cases l with
      | nil => rw [M.compL2, if_neg st]
      | cons v vs => rw [M.compL2, if_neg st]
    rw [e] at p
    exact p.elim
theorem comp2_op {t1 t2 : M.Tg} {i1 i2 : M.It} {elt : M.E} {τ : St} {H : Hp} {Q : VK} {vs vs1 : List Nat} (hv : vs = slotsT t2 ++ slotsT t1) (hv1 : vs1 = slotsT t2) (t : TEv L T call W (.comp2 elt t1 i1 t2 i2) τ H Q) :
    tLc2 (TIv L T call W i1) (TGv L.K t1) (TTo L T call Wf .no) (TIv L T call Wf i2) (TGv L.K t2) (TTo L T call Wf .no) (TEv L T call Wf elt) vs vs1 τ H Q := by
  subst hv hv1
  obtain ⟨m, h, σ, hs, S, p⟩ := t
  rw [M.evE] at p
  exact ⟨m, h, σ, hs, S, (Post.bind p).imp fun J H1 ⟨m1, h1, src, e, s, r, q⟩ D n0 => comp2_walk (hs.ext e) s r n0 q⟩
end
end Br
end

section
set_option Elab.async false
set_option linter.all false
set_option maxRecDepth 100000
set_option maxHeartbeats 1000000
/-! B16: statements. -/
namespace Br
open PySem L2
section
variable {L : Lk} {T : M.Tab} {X : Cx} {W : WX} {n : Nat} {m : Mp} {h : M.Heap} {H : Hp}
def PostF (L : Lk) (T : M.Tab) (W : WX) (r : M.Fl) (m : Mp) (H : Hp) (D : Ends) : Prop := match r with
  | .nx σ h' => ∀ m' H' τ, Ext m H m' H' → Sim L m' h' H' → srel (L := L) m' H' σ τ → D.nx τ H'
  | .ret v h' => ∀ m' H' x, Ext m H m' H' → Sim L m' h' H' → vrel L m' H' v x → D.rt x H'
  | .brk σ h' => ∀ m' H' τ, Ext m H m' H' → Sim L m' h' H' → srel (L := L) m' H' σ τ → D.bk τ H'
  | .cnt σ h' => ∀ m' H' τ, Ext m H m' H' → Sim L m' h' H' → srel (L := L) m' H' σ τ → D.ct τ H'
  | .exc c vs σ h' => ∀ m' H' d τ, Ext m H m' H' → Sim L m' h' H' → srel (L := L) m' H' σ τ → ExcD (L := L) T m' H' c vs d → W (.ref (L.cA c)) d τ H'
  | .bad => False
theorem PostF.ext {r : M.Fl} {m1 : Mp} {H1 : Hp} {D : Ends} (x : Ext m H m1 H1) (p : PostF L T W r m H D) : PostF L T W r m1 H1 D := by
  cases r with
  | nx σ h' => exact fun m' H' y e s q => p m' H' y (x.trans e) s q
  | ret v h' => exact fun m' H' y e s q => p m' H' y (x.trans e) s q
  | brk σ h' => exact fun m' H' y e s q => p m' H' y (x.trans e) s q
  | cnt σ h' => exact fun m' H' y e s q => p m' H' y (x.trans e) s q
  | exc c vs σ h' => exact fun m' H' d τ e s q1 q2 => p m' H' d τ (x.trans e) s q1 q2
  | bad => exact p
def TSv (L : Lk) (T : M.Tab) (call : Nat → List M.Val → M.Heap → M.R M.Val) (W : WX) (c : M.St) : TS := fun D τ H => ∃ m h σ, srel (L := L) m H σ τ ∧ Sim L m h H ∧ PostF L T W (M.evS T call c σ h) m H D
def TBv (L : Lk) (T : M.Tab) (call : Nat → List M.Val → M.Heap → M.R M.Val) (W : WX) (c : M.Bk) : TS := fun D τ H => ∃ m h σ, srel (L := L) m H σ τ ∧ Sim L m h H ∧ PostF L T W (M.evB T call c σ h) m H D
variable {call : Nat → List M.Val → M.Heap → M.R M.Val}
theorem St.first {c : M.E} {τ : St} {σ : M.Slots} {f : M.Val → M.Heap → M.Fl} {D : Ends} {R : V → Hp → Prop} (hs : srel (L := L) m H σ τ) (S : Sim L m h H) (p : PostF L T W ((M.evE T call c σ h).st σ f) m H D)
    (k : ∀ x H1 m1 h1 v, Ext m H m1 H1 → Sim L m1 h1 H1 → srel (L := L) m1 H1 σ τ → vrel L m1 H1 v x → PostF L T W (f v h1) m1 H1 D → R x H1) : TEv L T call W c τ H R := by
  refine ⟨m, h, σ, hs, S, ?_⟩
  cases e : M.evE T call c σ h with
  | bad => rw [e] at p; exact p.elim
  | exc q vs h1 =>
    rw [e] at p
    exact fun m' H' d e s q => p m' H' d τ e s (hs.ext e) q
  | ok v h1 =>
    rw [e] at p
    exact fun m' H' x e s r => k x H' m' h1 v e s (hs.ext e) r (PostF.ext e p)
/-! ### one by one -/
def isComp : Expr → Bool
  | .ListComp .. => true | .SetComp .. => true | .DictComp .. => true | _ => false
theorem swaps_no {e : Expr} {t : Option Expr} {l : Nat} {env : Env} (h : isComp e = false) : swapsWith e t l env = pure false := by
  cases e <;> first | rfl | cases h
theorem sns_ex {e : Expr} {c : M.E} {pos : Pos} (he : PE X e (TEv L T call W c)) (h : isComp e = false) : PS X (.Expr e pos) (TSv L T call W (.ex c)) :=
  psImp (ps_expr he (swaps_no h)) fun D τ H ⟨m, h, σ, hs, S, p⟩ => by
    rw [M.evS] at p
    exact St.first hs S p fun x H1 m1 h1 v e1 S1 hs1 r1 p1 => p1 m1 H1 τ .refl S1 hs1
theorem sns_pass {pos : Pos} : PS X (.Pass pos) (TSv L T call W .pass) := psImp ps_pass fun D τ H ⟨m, h, σ, hs, S, p⟩ => by
  rw [M.evS] at p
  exact p m H τ .refl S hs
theorem sns_brk {pos : Pos} : PS X (.Break pos) (TSv L T call W .brk) := psImp ps_break fun D τ H ⟨m, h, σ, hs, S, p⟩ => by
  rw [M.evS] at p
  exact p m H τ .refl S hs
theorem sns_cnt {pos : Pos} : PS X (.Continue pos) (TSv L T call W .cnt) := psImp ps_continue fun D τ H ⟨m, h, σ, hs, S, p⟩ => by
  rw [M.evS] at p
  exact p m H τ .refl S hs
theorem sns_ret {e : Expr} {c : M.E} {pos : Pos} (he : PE X e (TEv L T call W c)) : PS X (.Return (some e) pos) (TSv L T call W (.ret c)) :=
  psImp (ps_ret he) fun D τ H ⟨m, h, σ, hs, S, p⟩ => by
    rw [M.evS] at p
    exact St.first hs S p fun x H1 m1 h1 v e1 S1 hs1 r1 p1 => p1 m1 H1 x .refl S1 r1
theorem sns_retn {pos : Pos} : PS X (.Return none pos) (TSv L T call W .retn) := psImp ps_retN fun D τ H ⟨m, h, σ, hs, S, p⟩ => by
  rw [M.evS] at p
  exact p m H .non .refl S rfl
theorem sns_raise {c : Nat} {es : M.Es} {st : Stmt} (h : T.exf c = none) : PS X st (TSv L T call W (.raise c es)) := psImp ps_never fun D τ H ⟨m, hh, σ, hs, S, p⟩ => by
  rw [M.evS, h] at p
  exact p
/-- x = e, a, b = e -/
theorem set_asg {tg : M.Tg} {c : M.E} {D : Ends} {τ : St} {H : Hp} (t : TSv L T call W (.set tg c) D τ H) : tAsg (TEv L T call W c) (TGv L.K tg) D τ H := by
  obtain ⟨m, h, σ, hs, S, p⟩ := t
  rw [M.evS] at p
  refine St.first hs S p fun x H1 m1 h1 v e1 S1 hs1 r1 p1 => ?_
  cases ea : M.assignT tg v σ with
  | none => rw [ea] at p1; exact p1.elim
  | some σ1 =>
    rw [ea] at p1
    exact TGv.of hs1 r1 ea fun τ1 hs2 asg => p1 m1 H1 τ1 .refl S1 hs2
theorem sns_set {i : Nat} {x : Str} {e : Expr} {c : M.E} {pos pos' : Pos} (hN : X.N.Nodup) (hx : NmOk X i (.Name x pos')) (he : PE X e (TEv L T call W c)) (h : swapsWith e (some (.Name x pos')) pos.line X.env = pure false) : PS X (.Assign [.Name x pos'] e pos) (TSv L T call W (.set (.one i) c)) := by
  obtain ⟨y, p, e1, hi, hl, hf⟩ := hx
  cases e1
  exact psImp (ps_set hN hi hl he h hf) fun D τ H t => set_asg t
theorem sns_asg {is : List Nat} {es : List Expr} {k : Nat} {e : Expr} {c : M.E} {pos pos' : Pos} (hg : PG X (.Tuple es k pos') (TGv L.K (.many is))) (he : PE X e (TEv L T call W c)) (h : isComp e = false) (ht : ∀ vs k p, e ≠ .Tuple vs k p) :
    PS X (.Assign [.Tuple es k pos'] e pos) (TSv L T call W (.set (.many is) c)) := by
  refine psImp (ps_asg he hg (by unfold swapsWithSole; exact swaps_no h) ?_ rfl) fun D τ H t => set_asg t
  cases e <;> first | rfl | exact absurd rfl (ht _ _ _)
theorem sns_par {i j : Nat} {x y : Str} {a b : Expr} {ca cb : M.E} {px py pt pos : Pos} {kt k2 : Nat} {pt2 : Pos} (hc : X.calm = true) (hN : X.N.Nodup) (hi : X.N[i]? = some x) (hj : X.N[j]? = some y) (hij : i ≠ j)
    (hx : X.env.scope.names.lookup x = some .local) (hy : X.env.scope.names.lookup y = some .local) (ha : PA X [a, b] (TAv L T call W (.cons ca (.cons cb .nil))))
    (hw : swappedStores [.Tuple [.Name x px, .Name y py] kt pt] (.Tuple [a, b] k2 pt2) X.env = pure (some [x, y])) :
    PS X (.Assign [.Tuple [.Name x px, .Name y py] kt pt] (.Tuple [a, b] k2 pt2) pos) (TSv L T call W (.set (.many [i, j]) (.tup (.cons ca (.cons cb .nil))))) :=
  psImp (ps_par hc hN hi hj hij hx hy ha hw rfl) fun D τ H ⟨m, h, σ, hs, S, p⟩ => by
    rw [M.evS, M.evE] at p
    refine ⟨m, h, σ, hs, S, ?_⟩
    cases e : M.evEs T call (.cons ca (.cons cb .nil)) σ h with
    | bad => rw [e] at p; exact p.elim
    | exc q vs h1 =>
      rw [e] at p
      exact fun m' H' d e s q => p m' H' d τ e s (hs.ext e) q
    | ok vs h1 =>
      rw [e] at p
      intro m' H' xs e1 S1 r
      have p : PostF L T W (M.R.st (if vs.length ≤ M.sizeLine then M.R.ok (M.Val.tup vs) h1 else .bad) σ fun v h1 => match M.assignT (.many [i, j]) v σ with
        | some σ1 => .nx σ1 h1
        | none => .bad) m H D := p
      split at p
      · have p : PostF L T W (match M.setSlots [i, j] vs σ with
          | some σ1 => .nx σ1 h1
          | none => .bad) m H D := p
        cases ea : M.setSlots [i, j] vs σ with
        | none => rw [ea] at p; exact p.elim
        | some σ1 =>
          rw [ea] at p
          obtain ⟨hl, hs2⟩ := setSlots_rel ea r (hs.ext e1)
          match xs, hl with
          | [v, w], _ => exact ⟨v, w, rfl, p m' H' _ e1 S1 hs2⟩
      · exact p.elim
/-- o.f = e -/
theorem lookup_put (hi : ∀ a b, L.fN a = L.fN b → a = b) {f : Nat} {v : M.Val} {y : V} (rv : vrel L m H v y) : ∀ {fs : List (Nat × M.Val)} {ys : List (Str × V)}, kvrel (L := L) L.fN m H fs ys → kvrel (L := L) L.fN m H (M.putF f v fs) (L2.putF (L.fN f) y ys)
  | [], ys, r => by
    cases (show ys = [] from r)
    exact ⟨y, [], rfl, rv, rfl⟩
  | (g, w) :: rest, ys, r => by
    obtain ⟨z, t, rfl, r1, r2⟩ := r
    unfold M.putF L2.putF
    by_cases e : f = g
    · subst e
      rw [if_pos rfl, if_pos rfl]
      exact ⟨y, t, rfl, rv, r2⟩
    · rw [if_neg e, if_neg fun q => e (hi _ _ q).symm]
      exact ⟨z, _, rfl, r1, lookup_put hi rv r2⟩
theorem putF_keys {f : Nat} {v : M.Val} : ∀ {fs : List (Nat × M.Val)} {p : Nat × M.Val}, p ∈ M.putF f v fs → p.1 = f ∨ ∃ q ∈ fs, q.1 = p.1
  | [], p, h => by
    have : p = (f, v) := by simpa [M.putF] using h
    exact .inl (by rw [this])
  | (g, w) :: rest, p, h => by
    unfold M.putF at h
    split at h
    · rename_i e
      rcases List.mem_cons.mp h with rfl | h
      · exact .inl e.symm
      · exact .inr ⟨p, List.mem_cons_of_mem _ h, rfl⟩
    · rcases List.mem_cons.mp h with rfl | h
      · exact .inr ⟨_, List.mem_cons_self .., rfl⟩
      · rcases putF_keys h with q | ⟨q, q1, q2⟩
        · exact .inl q
        · exact .inr ⟨q, List.mem_cons_of_mem _ q1, q2⟩
theorem sns_setf (G : Gd L T X W n) {o e : Expr} {co c : M.E} {f : Nat} {x : Str} {pos pos' : Pos} (hx : x = L.fN f) (ho : PE X o (TEv L T call W co)) (he : PE X e (TEv L T call W c)) : PS X (.Assign [.Attribute o x pos'] e pos) (TSv L T call W (.setf co f c)) := by
  subst hx
  refine psImp (ps_fld ho he (by cases e <;> rfl)) fun D τ H ⟨m, h, σ, hs, S, p⟩ => ?_
  rw [M.evS] at p
  refine St.first hs S p fun y H1 m1 h1 v e1 S1 hs1 r1 p1 => St.first hs1 S1 p1 fun x H2 m2 h2 w e2 S2 hs2 r2 p2 => ?_
  unfold M.setF at p2
  split at p2
  · rename_i h3 e3
    split at e3
    · rename_i a
      obtain ⟨A, ea, rfl⟩ := r2
      split at e3
      · rename_i c fs e4
        split at e3
        · rename_i q
          cases e3
          obtain ⟨dx, ys, hA, rk, hc, hn⟩ := S2.ins ea e4
          refine ⟨A, _, dx, ys, rfl, hA, by rw [G.hK]; exact hc, by rw [G.hK]; exact G.fx.noat c f q.1, by rw [← kvrel.length rk]; exact q.2, ?_⟩
          have x0 : Ext m2 H2 m2 (upd H2 A (.ins (L.cA c) dx (L2.putF (L.fN f) y ys))) := Ext.write S2 ea
          refine p2 m2 _ τ x0 (Sim.write S2 ea ⟨dx, _, upd_same, kvrel.ext x0 (lookup_put G.fx.inj (vrel.ext e2 r1) rk), hc, fun p hp => ?_⟩) (hs2.ext x0)
          rcases putF_keys hp with q1 | ⟨q1, q2, q3⟩
          · rw [q1]; exact G.fx.noat c f q.1
          · rw [← q3]; exact hn q1 q2
        · cases e3
      · cases e3
    · cases e3
  · exact p2.elim
/-- o[i] = e -/
def rSetV (L : Lk) : TSet := fun o i v H Q => ∃ m h a b c h', Sim L m h H ∧ vrel L m H a o ∧ vrel L m H b i ∧ vrel L m H c v ∧ M.setV h a b c = some h' ∧ ∀ H', Ext m H m H' → Sim L m h' H' → Q H'
theorem pset_all (hu : X.A.units + 1 < cLine) : PSet X (rSetV L) := by
  intro pins s σ H o i v ov iv u Q I ro ri rv ⟨m, h, a, b, c, h', S, ra, rb, rc, e, q⟩
  unfold M.setV at e
  split at e
  · rename_i a'
    obtain ⟨A, ea, rfl⟩ := ra
    split at e
    · rename_i vs e2
      obtain ⟨ys, z, r1⟩ := S.lst (xs := vs) ea (by unfold M.lstOf; simp only [e2])
      split at e
      · rename_i k
        obtain ⟨j, e3, rfl⟩ := Option.map_eq_some_iff.mp e
        have x0 : Ext m H m (upd H A (.lst (ys.set j v))) := Ext.write S ea
        exact set_list pins s σ H _ i v ov iv u Q I ro ri rv ⟨A, ys, k, j, rfl, rb, z, by rw [ixN_eq, ← r1.length]; exact e3, q _ x0 (Sim.write S ea ⟨_, upd_same, vrels.ext x0 (vrels.set rc j r1)⟩)⟩
      · cases e
    · rename_i o' hn e2
      obtain ⟨o2, e3, rfl⟩ := Option.map_eq_some_iff.mp e
      obtain ⟨o3, eo, ro3⟩ := S.obj a' A ea
      rw [e2] at eo
      cases eo
      obtain ⟨H', dp, x0, S'⟩ := dPut_rel S ea ro3 e3 rb rc
      cases ro
      exact d_setItem hu I dp ri rv fun s' I' => ⟨H', I', q H' x0 S'⟩
    · cases e
  · cases e
theorem sns_seti {o i e : Expr} {co ci c : M.E} {pos pos' : Pos} (hu : X.A.units + 1 < cLine) (ho : PE X o (TEv L T call W co)) (hi : PE X i (TEv L T call W ci)) (pi : plainE i = true) (he : PE X e (TEv L T call W c)) : PS X (.Assign [.Subscript o i pos'] e pos) (TSv L T call W (.seti co ci c)) := by
  refine psImp (ps_asg he (pg_sub (t := rSetV L) ho hi (pset_all hu) (by intro v; cases i <;> first | rfl | cases pi)) (by cases e <;> rfl) (by cases e <;> rfl) rfl) fun D τ H ⟨m, h, σ, hs, S, p⟩ => ?_
  rw [M.evS] at p
  refine St.first hs S p fun v H1 m1 h1 cv e1 S1 hs1 r1 p1 => St.first hs1 S1 p1 fun ov H2 m2 h2 a e2 S2 hs2 r2 p2 => St.first hs2 S2 p2 fun iv H3 m3 h3 b e3 S3 hs3 r3 p3 => ?_
  split at p3
  · rename_i h4 e4
    exact ⟨m3, h3, a, b, cv, h4, S3, vrel.ext e3 r2, r3, vrel.ext e3 (vrel.ext e2 r1), e4, fun H' x0 S' => p3 m3 H' τ x0 S' (hs3.ext x0)⟩
  · exact p3.elim
end
end Br
end

section
set_option Elab.async false
set_option linter.all false
set_option maxRecDepth 100000
set_option maxHeartbeats 1000000
/-! B17: blocks, if, for, while. -/
namespace Br
open PySem L2
section
variable {L : Lk} {T : M.Tab} {X : Cx} {W : WX} {n : Nat} {call : Nat → List M.Val → M.Heap → M.R M.Val}
theorem snb_nil : PSs X [] (TBv L T call W .nil) := pssImp pss_nil fun D τ H ⟨m, h, σ, hs, S, p⟩ => by
  rw [M.evB] at p
  exact p m H τ .refl S hs
theorem snb_cons {st : Stmt} {sts : List Stmt} {c : M.St} {cs : M.Bk} (h1 : PS X st (TSv L T call W c)) (h2 : PSs X sts (TBv L T call W cs)) : PSs X (st :: sts) (TBv L T call W (.cons c cs)) :=
  pssImp (pss_cons h1 h2) fun D τ H ⟨m, h, σ, hs, S, p⟩ => by
    rw [M.evB] at p
    refine ⟨m, h, σ, hs, S, ?_⟩
    cases e : M.evS T call c σ h with
    | nx σ1 h1 =>
      simp only [e] at p
      exact fun m' H' τ' x S' hs' => ⟨m', h1, σ1, hs', S', PostF.ext x p⟩
    | ret v h1 => simp only [e] at p; exact p
    | brk σ1 h1 => simp only [e] at p; exact p
    | cnt σ1 h1 => simp only [e] at p; exact p
    | exc c vs σ1 h1 => simp only [e] at p; exact p
    | bad => simp only [e] at p; exact p
theorem sns_if {e : Expr} {a b : List Stmt} {c : M.E} {ca cb : M.Bk} {pos : Pos} (hc : PT X e (TTv L T call W c)) (ha : PSs X a (TBv L T call W ca)) (hb : PSs X b (TBv L T call W cb)) : PS X (.If e a b pos) (TSv L T call W (.if_ c ca cb)) :=
  psImp (ps_if hc ha hb) fun D τ H ⟨m, h, σ, hs, S, p⟩ => by
    rw [M.evS] at p
    refine ⟨m, h, σ, hs, S, ?_⟩
    cases e : M.evE T call c σ h with
    | bad => rw [e] at p; exact p.elim
    | exc q vs h1 =>
      rw [e] at p
      exact fun m' H' d e s q => p m' H' d τ e s (hs.ext e) q
    | ok v h1 =>
      rw [e] at p
      cases v with
      | bl b =>
        intro m' H' x e1 S1 r
        cases (show x = b from r)
        cases b with
        | true => rw [if_pos rfl]; exact ⟨m', h1, σ, hs.ext e1, S1, PostF.ext e1 p⟩
        | false => rw [if_neg Bool.false_ne_true]; exact ⟨m', h1, σ, hs.ext e1, S1, PostF.ext e1 p⟩
      | _ => exact p.elim
theorem sns_for {tg iter : Expr} {body : List Stmt} {t : M.Tg} {ci : M.It} {cb : M.Bk} {pos : Pos} (hp : PassesOwn (model X.prog X.w) X.A X.env X.xe) (hc : X.calm = true) (hi : PI X tg iter (TIv L T call W ci)) (hg : PG X tg (TGv L.K t)) (hb : PSs X body (TBv L T call W cb)) (pi : plainE iter = true) :
    PS X (.For tg iter body [] pos) (TSv L T call W (.for_ t ci cb)) := by
  refine psImp (ps_for hp hc hi hg hb (plain_fold pi)) fun D τ H ⟨m, h, σ, hs, S, p⟩ => ?_
  rw [M.evS] at p
  refine ⟨m, h, σ, hs, S, ?_⟩
  cases e : M.evIt T call ci σ h with
  | bad => rw [e] at p; exact p.elim
  | exc q vs h1 =>
    rw [e] at p
    exact fun m' H' d e s q => p m' H' d τ e s (hs.ext e) q
  | ok src h1 =>
    rw [e] at p
    intro m1 H1 J e1 S1 ok
    have ok : ItOk L m1 H1 src J := ok
    have p : PostF L T W (M.forL src t (fun σ h => M.evB T call cb σ h) src.items σ h1) m1 H1 D := PostF.ext e1 p
    let Wi : Nat → Nat → St → Hp → Prop := fun i k τ H => k = src.items.length - i ∧ i ≤ src.items.length ∧ ∃ m' h' σ', Ext m1 H1 m' H ∧ Sim L m' h' H ∧ srel (L := L) m' H σ' τ ∧ PostF L T W (M.forL src t (fun σ h => M.evB T call cb σ h) (src.items.drop i) σ' h') m' H D
    refine ⟨Wi, ⟨_, rfl, Nat.zero_le _, m1, h1, σ, .refl, S1, hs.ext e1, p⟩, fun i k τ H ⟨hk, hi, m', h', σ', x', S', hs', p⟩ => ?_⟩
    by_cases st : M.stands h' src = true
    · obtain ⟨ok1, ok2⟩ := ok i m' h' H x'.le S' st
      cases ev : src.items[i]? with
      | none =>
        have hl : src.items.length ≤ i := by
          rcases Nat.lt_or_ge i src.items.length with q | q
          · rw [List.getElem?_eq_getElem q] at ev; cases ev
          · exact q
        rw [List.drop_of_length_le hl, M.forL, if_pos st] at p
        exact .inl ⟨ok2 hl, p m' H τ .refl S' hs'⟩
      | some v =>
        obtain ⟨hgo, hy⟩ := ok1 v ev
        have hlt := (List.getElem?_eq_some_iff.mp ev).1
        refine .inr ⟨hgo, fun τ' H' => Wi (i + 1) (src.items.length - (i + 1)) τ' H', fun τ' H' q => ⟨_, by omega, q⟩, fun x H2 hx => ?_⟩
        obtain ⟨rv, x2, S2⟩ := hy x H2 hx
        rw [drop_cons ev, M.forL, if_pos st] at p
        cases ea : M.assignT t v σ' with
        | none => rw [ea] at p; exact p.elim
        | some σ1 =>
          rw [ea] at p
          refine TGv.of (hs'.ext x2) rv ea fun τ1 hs3 asg => ⟨m', h', σ1, hs3, S2, ?_⟩
          have p := PostF.ext x2 p
          cases eb : M.evB T call cb σ1 h' with
          | nx σ2 h2 =>
            simp only [eb] at p
            exact fun m3 H3 τ3 x3 S3 hs4 => ⟨rfl, hlt, m3, h2, σ2, (x'.trans x2).trans x3, S3, hs4, PostF.ext x3 p⟩
          | cnt σ2 h2 =>
            simp only [eb] at p
            exact fun m3 H3 τ3 x3 S3 hs4 => ⟨rfl, hlt, m3, h2, σ2, (x'.trans x2).trans x3, S3, hs4, PostF.ext x3 p⟩
          | ret v h1 => simp only [eb] at p; exact p
          | brk σ2 h2 =>
            simp only [eb] at p
            exact p
          | exc c vs σ1 h1 => simp only [eb] at p; exact p
          | bad => simp only [eb] at p; exact p
    · have e : ∀ l, M.forL src t (fun σ h => M.evB T call cb σ h) l σ' h' = .bad := by
        intro l
        cases l with
        | nil => rw [M.forL, if_neg st]
        | cons v vs => rw [M.forL, if_neg st]
      rw [e] at p
      exact p.elim
theorem sns_while {e : Expr} {body : List Stmt} {c : M.E} {cb : M.Bk} {pos : Pos} (hp : PassesOwn (model X.prog X.w) X.A X.env X.xe) (hc : PT X e (TTv L T call W c)) (hb : PSs X body (TBv L T call W cb)) : PS X (.While e body [] pos) (TSv L T call W (.while_ c cb)) := by
  refine psImp (ps_while hp hc hb) fun D τ H ⟨m, h, σ, hs, S, p⟩ => ?_
  rw [M.evS] at p
  let go := fun k σ h => M.whileL (fun σ h => M.asBool (M.evE T call c σ h)) (fun σ h => M.evB T call cb σ h) k σ h
  let Wi : Nat → St → Hp → Prop := fun k τ H => ∃ m' h' σ', Sim L m' h' H ∧ srel (L := L) m' H σ' τ ∧ PostF L T W (go k σ' h') m' H D
  refine ⟨Wi, ⟨M.turns, m, h, σ, S, hs, p⟩, fun k τ H ⟨m', h', σ', S', hs', p⟩ => ?_⟩
  cases k with
  | zero => exact p.elim
  | succ k =>
    have p : PostF L T W ((M.asBool (M.evE T call c σ' h')).st σ' fun b h1 => match b with
      | false => .nx σ' h1
      | true => match M.evB T call cb σ' h1 with
        | .nx σ2 h2 => go k σ2 h2
        | .cnt σ2 h2 => go k σ2 h2
        | .brk σ2 h2 => .nx σ2 h2
        | .ret w h2 => .ret w h2
        | .exc c ws σ2 h2 => .exc c ws σ2 h2
        | .bad => .bad) m' H D := p
    refine ⟨m', h', σ', hs', S', ?_⟩
    cases ec : M.asBool (M.evE T call c σ' h') with
    | bad => rw [ec] at p; exact p.elim
    | exc q vs h1 =>
      rw [ec] at p
      exact fun m' H' d e s q => p m' H' d τ e s (hs'.ext e) q
    | ok b h1 =>
      rw [ec] at p
      intro m1 H1 b' e1 S1 eb
      cases (show b' = b from eb)
      have p := PostF.ext e1 p
      have hs1 := hs'.ext e1
      cases b with
      | false =>
        rw [if_neg Bool.false_ne_true]
        exact p m1 H1 τ .refl S1 hs1
      | true =>
        rw [if_pos rfl]
        refine ⟨fun τ' H' => Wi k τ' H', fun τ' H' q => ⟨k, Nat.lt_succ_self k, q⟩, m1, h1, σ', hs1, S1, ?_⟩
        have p : PostF L T W (match M.evB T call cb σ' h1 with
          | .nx σ2 h2 => go k σ2 h2
          | .cnt σ2 h2 => go k σ2 h2
          | .brk σ2 h2 => .nx σ2 h2
          | .ret w h2 => .ret w h2
          | .exc c ws σ2 h2 => .exc c ws σ2 h2
          | .bad => .bad) m1 H1 D := p
        cases eb : M.evB T call cb σ' h1 with
        | nx σ2 h2 =>
          simp only [eb] at p
          exact fun m3 H3 τ3 x3 S3 hs4 => ⟨m3, h2, σ2, S3, hs4, PostF.ext x3 p⟩
        | cnt σ2 h2 =>
          simp only [eb] at p
          exact fun m3 H3 τ3 x3 S3 hs4 => ⟨m3, h2, σ2, S3, hs4, PostF.ext x3 p⟩
        | ret v h1 => simp only [eb] at p; exact p
        | brk σ2 h2 => simp only [eb] at p; exact p
        | exc c vs σ1 h1 => simp only [eb] at p; exact p
        | bad => simp only [eb] at p; exact p
end
end Br
end

section
set_option Elab.async false
set_option linter.all false
set_option maxRecDepth 100000
set_option maxHeartbeats 1000000
/-! B18: the check of expressions. -/
namespace Br
open PySem L2
/-- what a name of the module is -/
inductive Gi where
  | no | bltin | int (i : Int) | str (s : M.Sg) | tup (vs : List M.Val) | tbl (n : Nat) | cls (c : Nat) | fn (f : Nat)
structure Kx where
  sc : Scope
  N : List Str
  fnB : Str → Bool
  gi : Str → Gi
  T : M.Tab
  fN : Nat → Str
def GiOk (L : Lk) (X : Cx) : Str → Gi → Prop
  | _, .no => True
  | x, .bltin => X.mg x = none
  | x, .int i => ∃ t, X.mg x = some (.int i t)
  | x, .str s => ∃ t, X.mg x = some (.str (toS s) t)
  | x, .tup vs => ∃ A ys, X.mg x = some (.ref A) ∧ TupK L.K A ys ∧ M.isStat vs = true ∧ ∀ m H, vrels L m H vs ys
  | x, .tbl n => X.mg x = some (.ref (L.gA n)) ∧ L.hg n = true
  | x, .cls c => X.mg x = some (.ref (L.cA c))
  | x, .fn f => X.mg x = some (.ref (L.fA f))
def gbl (k : Kx) (x : Str) : Bool := decide (kindB k.sc x = 4) && !(x == ("__debug__" : Str))
def vis (k : Kx) (x : Str) : Bool := (decide (kindB k.sc x = 1) || decide (kindB k.sc x = 2) || decide (kindB k.sc x = 3)) && !(x == ("__debug__" : Str)) && !(x == ("__classdict__" : Str))
def giVal : Gi → M.Val → Bool
  | .int i, .int j => decide (i = j)
  | .str s, .str z => decide (s = z)
  | .tup vs, .tup ws => M.Val.beqs vs ws
  | .tbl n, .glb m => decide (n = m)
  | _, _ => false
def isBlt : Gi → Bool
  | .bltin => true
  | _ => false
def isFn (f : Nat) : Gi → Bool
  | .fn g => decide (f = g)
  | _ => false
def isCls (f : Nat) : Gi → Bool
  | .cls g => decide (f = g)
  | _ => false
def opB : M.Op → Operator → Bool
  | .sub, .Sub => true | .fdiv, .FloorDiv => true | .mod, .Mod => true | .pow, .Pow => true | .shr, .RShift => true | .band, .BitAnd => true | .bxor, .BitXor => true | .mul, .Mult => true | .add, .Add => true
  | _, _ => false
def cmB : M.Cm → CmpOp → Bool
  | .eq, .Eq => true | .ne, .NotEq => true | .lt, .Lt => true | .le, .LtE => true | .gt, .Gt => true | .ge, .GtE => true | .isin, .In => true | .notin, .NotIn => true
  | _, _ => false
def bltB : M.B → Str → Bool
  | .len, x => decide (x = "len") | .list, x => decide (x = "list") | .tuple, x => decide (x = "tuple") | .int, x => decide (x = "int") | .max, x => decide (x = "max") | .min, x => decide (x = "min") | .ord, x => decide (x = "ord") | .str, x => decide (x = "str")
  | _, _ => false
def bmB : M.B → Str → Bool
  | .append, x => decide (x = "append") | .extend, x => decide (x = "extend") | .count, x => decide (x = "count") | .get, x => decide (x = "get")
  | _, _ => false
def notIf : Expr → Bool
  | .IfExp .. => false
  | _ => true
def nmB (k : Kx) (i : Nat) : Expr → Bool
  | .Name x _ => decide (k.N[i]? = some x) && (decide (kindB k.sc x = 1) || (decide (kindB k.sc x = 2) && k.fnB x))
  | _ => false
def nmsB (k : Kx) : List Nat → List Expr → Bool
  | [], [] => true
  | i :: is, e :: es => nmB k i e && nmsB k is es
  | _, _ => false
def ckTg (k : Kx) : M.Tg → Expr → Bool
  | .one i, e => nmB k i e
  | .many is, .Tuple es _ _ => nmsB k is es
  | _, _ => false
def blkK (k : Kx) (scope : Scope) : Kx := { k with sc := relS scope k.sc, fnB := fun x => scope.names.lookup x == some .cell }
def ownN (k : Kx) (is : List Nat) : List (Str × Nat) := is.map fun i => ((k.N[i]?).getD Str.empty, i)
def isTupE : Expr → Bool
  | .Tuple .. => true
  | _ => false
mutual
def ckE (k : Kx) : M.E → Expr → Bool
  | .loc i, .Name x _ => decide (k.N[i]? = some x) && vis k x
  | .cint i, .Constant (.int j) _ _ => decide (i = j)
  | .cstr s, .Constant (.str x) _ _ => decide (x = toS s)
  | .cbl b, .Constant (.bool c) _ _ => decide (b = c)
  | .cnon, .Constant .none _ _ => true
  | .cval v, .Name x _ => gbl k x && giVal (k.gi x) v
  | .bin op a b, .BinOp ea o eb _ => opB op o && ckE k a ea && ckE k b eb
  | .neg a, .UnaryOp .USub ea _ => ckE k a ea
  | .nt a, .UnaryOp .Not ea _ => notIf ea && ckE k a ea
  | .cmp c a b, .Compare ea [o] [eb] _ => cmB c o && plainE eb && ckE k a ea && ckE k b eb
  | .chain c d x y z, .Compare ex [o, o'] [ey, ez] _ => cmB c o && cmB d o' && plainE ez && ckE k x ex && ckE k y ey && ckE k z ez
  | .is_ a .non true, .Compare ea [.Is] [.Constant .none _ _] _ => ckE k a ea
  | .is_ a .non false, .Compare ea [.IsNot] [.Constant .none _ _] _ => ckE k a ea
  | .and_ a b, .BoolOp .And (ea :: eb :: []) _ => notIf ea && notIf eb && ckE k a ea && ckE k b eb
  | .and_ a b, .BoolOp .And (ea :: eb :: ec :: r) pos => notIf ea && ckE k a ea && ckE k b (.BoolOp .And (eb :: ec :: r) pos)
  | .or_ a b, .BoolOp .Or (ea :: eb :: []) _ => notIf ea && notIf eb && ckE k a ea && ckE k b eb
  | .or_ a b, .BoolOp .Or (ea :: eb :: ec :: r) pos => notIf ea && ckE k a ea && ckE k b (.BoolOp .Or (eb :: ec :: r) pos)
  | .ife c a b, .IfExp ec ea eb _ => notIf ec && ckE k c ec && ckE k a ea && ckE k b eb
  | .fld o f, .Attribute eo x _ => decide (x = k.fN f) && plainE eo && ckE k o eo
  | .ix o i, .Subscript eo ei _ => plainE ei && ckE k o eo && ckE k i ei
  | .sl o a b, .Subscript eo (.Slice lo hi none _) _ => ckE k o eo && ckP k a lo && ckP k b hi
  | .tup es, .Tuple ees _ _ => ckEs k es ees
  | .lst es, .List ees _ => ckEs k es ees
  | .dnew _, .Dict [] [] _ => true
  | .call f es [], .Call (.Name x _) ees [] _ => gbl k x && isFn f (k.gi x) && (k.T.fn f).isSome && ckEs k es ees
  | .mk c es, .Call (.Name x _) ees [] _ => gbl k x && isCls c (k.gi x) && (k.T.init c).isSome && ckEs k es ees
  | .meth o m es, .Call (.Attribute eo x apos) ees [] pos => decide (x = k.fN m) && plainE eo && decide (ees.length < 30) && (apos.endLine == pos.line) && ckE k o eo && ckEs k es ees
  | .blt .revList (.cons c .nil), .Call (.Name x _) [.Call (.Name y _) [e] [] _] [] _ => decide (x = "list") && decide (y = "reversed") && gbl k x && gbl k y && isBlt (k.gi x) && isBlt (k.gi y) && plainE e && ckE k c e
  | .blt b es, .Call (.Name x _) (e :: ees) [] _ => bltB b x && gbl k x && isBlt (k.gi x) && ckEs k es (e :: ees)
  | .bm b o es, .Call (.Attribute eo x apos) (e :: ees) [] pos => bmB b x && plainE eo && decide ((e :: ees).length < 30) && (apos.endLine == pos.line) && ckE k o eo && ckEs k es (e :: ees)
  | .comp elt tg it c, .ListComp eelt [⟨etg, eit, ifs, 0⟩] scope _ => plainE eit && ckIt k it etg eit && blkC k.N k.sc scope (ownN k (slotsT tg)) && ckTg (blkK k scope) tg etg && ckO (blkK k scope) c ifs && ckE (blkK k scope) elt eelt
  | .comp2 elt t1 i1 t2 i2, .ListComp eelt [⟨et1, ei1, [], 0⟩, ⟨et2, ei2, [], 0⟩] scope _ => plainE ei1 && plainE ei2 && ckIt k i1 et1 ei1 && blkC k.N k.sc scope (ownN k (slotsT t2 ++ slotsT t1)) &&
      ckTg (blkK k scope) t1 et1 && ckTg (blkK k scope) t2 et2 && ckIt (blkK k scope) i2 et2 ei2 && ckE (blkK k scope) elt eelt
  | _, _ => false
def ckP (k : Kx) : M.Option_E → Option Expr → Bool
  | .no, none => true
  | .yes c, some e => ckE k c e
  | _, _ => false
def ckO (k : Kx) : M.Option_E → List Expr → Bool
  | .no, [] => true
  | .yes c, [e] => notIf e && ckE k c e
  | _, _ => false
def ckEs (k : Kx) : M.Es → List Expr → Bool
  | .nil, [] => true
  | .cons c cs, e :: es => plainE e && ckE k c e && ckEs k cs es
  | _, _ => false
def ckIt (k : Kx) : M.It → Expr → Expr → Bool
  | .range1 a, _, .Call (.Name x _) [ea] [] _ => decide (x = "range") && gbl k x && isBlt (k.gi x) && plainE ea && ckE k a ea
  | .range2 a b, _, .Call (.Name x _) [ea, eb] [] _ => decide (x = "range") && gbl k x && isBlt (k.gi x) && plainE ea && plainE eb && ckE k a ea && ckE k b eb
  | .range3 a b c, _, .Call (.Name x _) [ea, eb, ec] [] _ => decide (x = "range") && gbl k x && isBlt (k.gi x) && plainE ea && plainE eb && plainE ec && ckE k a ea && ckE k b eb && ckE k c ec
  | .enum a, tg, .Call (.Name x _) [ea] [] _ => decide (x = "enumerate") && isTupE tg && gbl k x && isBlt (k.gi x) && plainE ea && ckE k a ea
  | .rev a, _, .Call (.Name x _) [ea] [] _ => decide (x = "reversed") && gbl k x && isBlt (k.gi x) && plainE ea && ckE k a ea
  | .over c, _, e => ckE k c e
  | _, _, _ => false
end
end Br
end

section
set_option Elab.async false
set_option linter.all false
set_option maxRecDepth 100000
set_option maxHeartbeats 1000000
/-! B19: what the check tells (printed by genck.py). -/
namespace Br
open PySem L2
theorem inv_loc {k : Kx} {i : Nat} {e : Expr} (h : ckE k (.loc i) e = true) : ∃ x pos, e = .Name x pos ∧ k.N[i]? = some x ∧ vis k x = true := by
  unfold ckE at h
  split at h
  all_goals first | (exact absurd h Bool.false_ne_true) | (rename_i q; cases q; done) | skip
  rename_i q
  cases q
  try simp only [Bool.and_eq_true, decide_eq_true_eq] at h
  skip
  exact ⟨_, _, rfl, by first | exact h | simp only [h, and_self]⟩
theorem inv_cint {k : Kx} {i : Int} {e : Expr} (h : ckE k (.cint i) e = true) : ∃ u pos, e = .Constant (.int i) u pos ∧ True := by
  unfold ckE at h
  split at h
  all_goals first | (exact absurd h Bool.false_ne_true) | (rename_i q; cases q; done) | skip
  rename_i q
  cases q
  try simp only [Bool.and_eq_true, decide_eq_true_eq] at h
  subst h
  exact ⟨_, _, rfl, trivial⟩
theorem inv_cstr {k : Kx} {s : M.Sg} {e : Expr} (h : ckE k (.cstr s) e = true) : ∃ x u pos, e = .Constant (.str x) u pos ∧ x = toS s := by
  unfold ckE at h
  split at h
  all_goals first | (exact absurd h Bool.false_ne_true) | (rename_i q; cases q; done) | skip
  rename_i q
  cases q
  try simp only [Bool.and_eq_true, decide_eq_true_eq] at h
  skip
  exact ⟨_, _, _, rfl, by first | exact h | simp only [h, and_self]⟩
theorem inv_cbl {k : Kx} {s : Bool} {e : Expr} (h : ckE k (.cbl s) e = true) : ∃ u pos, e = .Constant (.bool s) u pos ∧ True := by
  unfold ckE at h
  split at h
  all_goals first | (exact absurd h Bool.false_ne_true) | (rename_i q; cases q; done) | skip
  rename_i q
  cases q
  try simp only [Bool.and_eq_true, decide_eq_true_eq] at h
  subst h
  exact ⟨_, _, rfl, trivial⟩
theorem inv_cnon {k : Kx}  {e : Expr} (h : ckE k (.cnon) e = true) : ∃ u pos, e = .Constant .none u pos ∧ True := by
  unfold ckE at h
  split at h
  all_goals first | (exact absurd h Bool.false_ne_true) | (rename_i q; cases q; done) | skip
  rename_i q
  cases q
  try simp only [Bool.and_eq_true, decide_eq_true_eq] at h
  skip
  exact ⟨_, _, rfl, trivial⟩
theorem inv_cval {k : Kx} {v : M.Val} {e : Expr} (h : ckE k (.cval v) e = true) : ∃ x pos, e = .Name x pos ∧ gbl k x = true ∧ giVal (k.gi x) v = true := by
  unfold ckE at h
  split at h
  all_goals first | (exact absurd h Bool.false_ne_true) | (rename_i q; cases q; done) | skip
  rename_i q
  cases q
  try simp only [Bool.and_eq_true, decide_eq_true_eq] at h
  skip
  exact ⟨_, _, rfl, by first | exact h | simp only [h, and_self]⟩
theorem inv_bin {k : Kx} {op : M.Op} {a b : M.E} {e : Expr} (h : ckE k (.bin op a b) e = true) : ∃ ea o eb pos, e = .BinOp ea o eb pos ∧ opB op o = true ∧ ckE k a ea = true ∧ ckE k b eb = true := by
  unfold ckE at h
  split at h
  all_goals first | (exact absurd h Bool.false_ne_true) | (rename_i q; cases q; done) | skip
  rename_i q
  cases q
  try simp only [Bool.and_eq_true, decide_eq_true_eq] at h
  skip
  exact ⟨_, _, _, _, rfl, by first | exact h | simp only [h, and_self]⟩
theorem inv_neg {k : Kx} {a : M.E} {e : Expr} (h : ckE k (.neg a) e = true) : ∃ ea pos, e = .UnaryOp .USub ea pos ∧ ckE k a ea = true := by
  unfold ckE at h
  split at h
  all_goals first | (exact absurd h Bool.false_ne_true) | (rename_i q; cases q; done) | skip
  rename_i q
  cases q
  try simp only [Bool.and_eq_true, decide_eq_true_eq] at h
  skip
  exact ⟨_, _, rfl, by first | exact h | simp only [h, and_self]⟩
theorem inv_nt {k : Kx} {a : M.E} {e : Expr} (h : ckE k (.nt a) e = true) : ∃ ea pos, e = .UnaryOp .Not ea pos ∧ notIf ea = true ∧ ckE k a ea = true := by
  unfold ckE at h
  split at h
  all_goals first | (exact absurd h Bool.false_ne_true) | (rename_i q; cases q; done) | skip
  rename_i q
  cases q
  try simp only [Bool.and_eq_true, decide_eq_true_eq] at h
  skip
  exact ⟨_, _, rfl, by first | exact h | simp only [h, and_self]⟩
theorem inv_cmp {k : Kx} {c : M.Cm} {a b : M.E} {e : Expr} (h : ckE k (.cmp c a b) e = true) : ∃ ea o eb pos, e = .Compare ea [o] [eb] pos ∧ cmB c o = true ∧ plainE eb = true ∧ ckE k a ea = true ∧ ckE k b eb = true := by
  unfold ckE at h
  split at h
  all_goals first | (exact absurd h Bool.false_ne_true) | (rename_i q; cases q; done) | skip
  rename_i q
  cases q
  try simp only [Bool.and_eq_true, decide_eq_true_eq] at h
  skip
  exact ⟨_, _, _, _, rfl, by first | exact h | simp only [h, and_self]⟩
theorem inv_chain {k : Kx} {c d : M.Cm} {x y z : M.E} {e : Expr} (h : ckE k (.chain c d x y z) e = true) : ∃ ex o o' ey ez pos, e = Expr.Compare ex [o, o'] [ey, ez] pos ∧ cmB c o = true ∧ cmB d o' = true ∧ plainE ez = true ∧ ckE k x ex = true ∧ ckE k y ey = true ∧ ckE k z ez = true := by
  unfold ckE at h
  split at h
  all_goals first | (exact absurd h Bool.false_ne_true) | (rename_i q; cases q; done) | skip
  rename_i q
  cases q
  try simp only [Bool.and_eq_true, decide_eq_true_eq] at h
  skip
  exact ⟨_, _, _, _, _, _, rfl, by first | exact h | simp only [h, and_self]⟩
theorem inv_isT {k : Kx} {a : M.E} {e : Expr} (h : ckE k (.is_ a .non true) e = true) : ∃ ea u p pos, e = .Compare ea [.Is] [.Constant .none u p] pos ∧ ckE k a ea = true := by
  unfold ckE at h
  split at h
  all_goals first | (exact absurd h Bool.false_ne_true) | (rename_i q; cases q; done) | skip
  rename_i q
  cases q
  try simp only [Bool.and_eq_true, decide_eq_true_eq] at h
  skip
  exact ⟨_, _, _, _, rfl, by first | exact h | simp only [h, and_self]⟩
theorem inv_isF {k : Kx} {a : M.E} {e : Expr} (h : ckE k (.is_ a .non false) e = true) : ∃ ea u p pos, e = .Compare ea [.IsNot] [.Constant .none u p] pos ∧ ckE k a ea = true := by
  unfold ckE at h
  split at h
  all_goals first | (exact absurd h Bool.false_ne_true) | (rename_i q; cases q; done) | skip
  rename_i q
  cases q
  try simp only [Bool.and_eq_true, decide_eq_true_eq] at h
  skip
  exact ⟨_, _, _, _, rfl, by first | exact h | simp only [h, and_self]⟩
theorem inv_ife {k : Kx} {c a b : M.E} {e : Expr} (h : ckE k (.ife c a b) e = true) : ∃ ec ea eb pos, e = .IfExp ec ea eb pos ∧ notIf ec = true ∧ ckE k c ec = true ∧ ckE k a ea = true ∧ ckE k b eb = true := by
  unfold ckE at h
  split at h
  all_goals first | (exact absurd h Bool.false_ne_true) | (rename_i q; cases q; done) | skip
  rename_i q
  cases q
  try simp only [Bool.and_eq_true, decide_eq_true_eq] at h
  skip
  exact ⟨_, _, _, _, rfl, by first | exact h | simp only [h, and_self]⟩
theorem inv_fld {k : Kx} {o : M.E} {f : Nat} {e : Expr} (h : ckE k (.fld o f) e = true) : ∃ eo x pos, e = .Attribute eo x pos ∧ x = k.fN f ∧ plainE eo = true ∧ ckE k o eo = true := by
  unfold ckE at h
  split at h
  all_goals first | (exact absurd h Bool.false_ne_true) | (rename_i q; cases q; done) | skip
  rename_i q
  cases q
  try simp only [Bool.and_eq_true, decide_eq_true_eq] at h
  skip
  exact ⟨_, _, _, rfl, by first | exact h | simp only [h, and_self]⟩
theorem inv_sl {k : Kx} {o : M.E} {a b : M.Option_E} {e : Expr} (h : ckE k (.sl o a b) e = true) : ∃ eo lo hi p pos, e = .Subscript eo (.Slice lo hi none p) pos ∧ ckE k o eo = true ∧ ckP k a lo = true ∧ ckP k b hi = true := by
  unfold ckE at h
  split at h
  all_goals first | (exact absurd h Bool.false_ne_true) | (rename_i q; cases q; done) | skip
  rename_i q
  cases q
  try simp only [Bool.and_eq_true, decide_eq_true_eq] at h
  skip
  exact ⟨_, _, _, _, _, rfl, by first | exact h | simp only [h, and_self]⟩
theorem inv_ix {k : Kx} {o i : M.E} {e : Expr} (h : ckE k (.ix o i) e = true) : ∃ eo ei pos, e = .Subscript eo ei pos ∧ plainE ei = true ∧ ckE k o eo = true ∧ ckE k i ei = true := by
  unfold ckE at h
  split at h
  all_goals first | (exact absurd h Bool.false_ne_true) | (rename_i q; cases q; done) | skip
  rename_i q
  cases q
  try simp only [Bool.and_eq_true, decide_eq_true_eq] at h
  skip
  exact ⟨_, _, _, rfl, by first | exact h | simp only [h, and_self]⟩
theorem inv_tup {k : Kx} {es : M.Es} {e : Expr} (h : ckE k (.tup es) e = true) : ∃ ees u pos, e = .Tuple ees u pos ∧ ckEs k es ees = true := by
  unfold ckE at h
  split at h
  all_goals first | (exact absurd h Bool.false_ne_true) | (rename_i q; cases q; done) | skip
  rename_i q
  cases q
  try simp only [Bool.and_eq_true, decide_eq_true_eq] at h
  skip
  exact ⟨_, _, _, rfl, by first | exact h | simp only [h, and_self]⟩
theorem inv_lst {k : Kx} {es : M.Es} {e : Expr} (h : ckE k (.lst es) e = true) : ∃ ees pos, e = .List ees pos ∧ ckEs k es ees = true := by
  unfold ckE at h
  split at h
  all_goals first | (exact absurd h Bool.false_ne_true) | (rename_i q; cases q; done) | skip
  rename_i q
  cases q
  try simp only [Bool.and_eq_true, decide_eq_true_eq] at h
  skip
  exact ⟨_, _, rfl, by first | exact h | simp only [h, and_self]⟩
theorem inv_dnew {k : Kx} {t : Bool} {e : Expr} (h : ckE k (.dnew t) e = true) : ∃ pos, e = .Dict [] [] pos ∧ True := by
  unfold ckE at h
  split at h
  all_goals first | (exact absurd h Bool.false_ne_true) | (rename_i q; cases q; done) | skip
  rename_i q
  cases q
  try simp only [Bool.and_eq_true, decide_eq_true_eq] at h
  skip
  exact ⟨_, rfl, trivial⟩
theorem inv_mk {k : Kx} {c : Nat} {es : M.Es} {e : Expr} (h : ckE k (.mk c es) e = true) : ∃ x p ees pos, e = .Call (.Name x p) ees [] pos ∧ gbl k x = true ∧ isCls c (k.gi x) = true ∧ (k.T.init c).isSome = true ∧ ckEs k es ees = true := by
  unfold ckE at h
  split at h
  all_goals first | (exact absurd h Bool.false_ne_true) | (rename_i q; cases q; done) | skip
  rename_i q
  cases q
  try simp only [Bool.and_eq_true, decide_eq_true_eq] at h
  skip
  exact ⟨_, _, _, _, rfl, by first | exact h | simp only [h, and_self]⟩
theorem inv_meth {k : Kx} {o : M.E} {m : Nat} {es : M.Es} {e : Expr} (h : ckE k (.meth o m es) e = true) : ∃ eo x apos ees pos, e = .Call (.Attribute eo x apos) ees [] pos ∧ x = k.fN m ∧ plainE eo = true ∧ ees.length < 30 ∧ (apos.endLine == pos.line) = true ∧ ckE k o eo = true ∧ ckEs k es ees = true := by
  unfold ckE at h
  split at h
  all_goals first | (exact absurd h Bool.false_ne_true) | (rename_i q; cases q; done) | skip
  rename_i q
  cases q
  try simp only [Bool.and_eq_true, decide_eq_true_eq] at h
  skip
  exact ⟨_, _, _, _, _, rfl, by first | exact h | simp only [h, and_self]⟩
theorem inv_bm {k : Kx} {b : M.B} {o : M.E} {es : M.Es} {e : Expr} (h : ckE k (.bm b o es) e = true) : ∃ eo x apos e1 ees pos, e = .Call (.Attribute eo x apos) (e1 :: ees) [] pos ∧ bmB b x = true ∧ plainE eo = true ∧ (e1 :: ees).length < 30 ∧ (apos.endLine == pos.line) = true ∧ ckE k o eo = true ∧ ckEs k es (e1 :: ees) = true := by
  unfold ckE at h
  split at h
  all_goals first | (exact absurd h Bool.false_ne_true) | (rename_i q; cases q; done) | skip
  rename_i q
  cases q
  try simp only [Bool.and_eq_true, decide_eq_true_eq] at h
  skip
  exact ⟨_, _, _, _, _, _, rfl, by first | exact h | simp only [h, and_self]⟩
theorem inv_comp {k : Kx} {elt : M.E} {tg : M.Tg} {it : M.It} {c : M.Option_E} {e : Expr} (h : ckE k (.comp elt tg it c) e = true) : ∃ eelt etg eit ifs scope pos, e = .ListComp eelt [⟨etg, eit, ifs, 0⟩] scope pos ∧ plainE eit = true ∧ ckIt k it etg eit = true ∧ blkC k.N k.sc scope (ownN k (slotsT tg)) = true ∧ ckTg (blkK k scope) tg etg = true ∧ ckO (blkK k scope) c ifs = true ∧ ckE (blkK k scope) elt eelt = true := by
  unfold ckE at h
  split at h
  all_goals first | (exact absurd h Bool.false_ne_true) | (rename_i q; cases q; done) | skip
  rename_i q
  cases q
  try simp only [Bool.and_eq_true, decide_eq_true_eq] at h
  skip
  exact ⟨_, _, _, _, _, _, rfl, by first | exact h | simp only [h, and_self]⟩
theorem inv_comp2 {k : Kx} {elt : M.E} {t1 t2 : M.Tg} {i1 i2 : M.It} {e : Expr} (h : ckE k (.comp2 elt t1 i1 t2 i2) e = true) : ∃ eelt et1 ei1 et2 ei2 scope pos, e = .ListComp eelt [⟨et1, ei1, [], 0⟩, ⟨et2, ei2, [], 0⟩] scope pos ∧ plainE ei1 = true ∧ plainE ei2 = true ∧ ckIt k i1 et1 ei1 = true ∧ blkC k.N k.sc scope (ownN k (slotsT t2 ++ slotsT t1)) = true ∧ ckTg (blkK k scope) t1 et1 = true ∧ ckTg (blkK k scope) t2 et2 = true ∧ ckIt (blkK k scope) i2 et2 ei2 = true ∧ ckE (blkK k scope) elt eelt = true := by
  unfold ckE at h
  split at h
  all_goals first | (exact absurd h Bool.false_ne_true) | (rename_i q; cases q; done) | skip
  rename_i q
  cases q
  try simp only [Bool.and_eq_true, decide_eq_true_eq] at h
  skip
  exact ⟨_, _, _, _, _, _, _, rfl, by first | exact h | simp only [h, and_self]⟩
theorem inv_call {k : Kx} {f : Nat} {es : M.Es} {e : Expr} (h : ckE k (.call f es []) e = true) : ∃ x p ees pos, e = .Call (.Name x p) ees [] pos ∧ gbl k x = true ∧ isFn f (k.gi x) = true ∧ (k.T.fn f).isSome = true ∧ ckEs k es ees = true := by
  unfold ckE at h
  split at h
  all_goals first | (exact absurd h Bool.false_ne_true) | (rename_i q; cases q; done) | skip
  rename_i q
  cases q
  try simp only [Bool.and_eq_true, decide_eq_true_eq] at h
  skip
  exact ⟨_, _, _, _, rfl, by first | exact h | simp only [h, and_self]⟩
theorem inv_blt {k : Kx} {b : M.B} {es : M.Es} {e : Expr} (h : ckE k (.blt b es) e = true) : (∃ x p e1 ees pos, e = .Call (.Name x p) (e1 :: ees) [] pos ∧ bltB b x = true ∧ gbl k x = true ∧ isBlt (k.gi x) = true ∧ ckEs k es (e1 :: ees) = true) ∨
    ∃ c p p2 e1 pos pos2, b = .revList ∧ es = .cons c .nil ∧ e = .Call (.Name "list" p) [.Call (.Name "reversed" p2) [e1] [] pos2] [] pos ∧ gbl k "list" = true ∧ gbl k "reversed" = true ∧ isBlt (k.gi "list") = true ∧ isBlt (k.gi "reversed") = true ∧ plainE e1 = true ∧ ckE k c e1 = true := by
  unfold ckE at h
  split at h
  all_goals first | (exact absurd h Bool.false_ne_true) | (rename_i q; cases q; done) | skip
  · rename_i q
    cases q
    simp only [Bool.and_eq_true, decide_eq_true_eq] at h
    obtain ⟨⟨⟨⟨⟨⟨⟨rfl, rfl⟩, h1⟩, h2⟩, h3⟩, h4⟩, h5⟩, h6⟩ := h
    exact .inr ⟨_, _, _, _, _, _, rfl, rfl, rfl, h1, h2, h3, h4, h5, h6⟩
  · rename_i q
    cases q
    simp only [Bool.and_eq_true] at h
    exact .inl ⟨_, _, _, _, _, rfl, h.1.1.1, h.1.1.2, h.1.2, h.2⟩
theorem inv_and {k : Kx} {a b : M.E} {e : Expr} (h : ckE k (.and_ a b) e = true) : (∃ ea eb pos, e = .BoolOp .And [ea, eb] pos ∧ notIf ea = true ∧ notIf eb = true ∧ ckE k a ea = true ∧ ckE k b eb = true) ∨
    ∃ ea eb ec r pos, e = .BoolOp .And (ea :: eb :: ec :: r) pos ∧ notIf ea = true ∧ ckE k a ea = true ∧ ckE k b (.BoolOp .And (eb :: ec :: r) pos) = true := by
  unfold ckE at h
  split at h
  all_goals first | (exact absurd h Bool.false_ne_true) | (rename_i q; cases q; done) | skip
  · rename_i q
    cases q
    simp only [Bool.and_eq_true] at h
    exact .inl ⟨_, _, _, rfl, by simp only [h, and_self]⟩
  · rename_i q
    cases q
    simp only [Bool.and_eq_true] at h
    exact .inr ⟨_, _, _, _, _, rfl, by simp only [h, and_self]⟩
theorem inv_or {k : Kx} {a b : M.E} {e : Expr} (h : ckE k (.or_ a b) e = true) : (∃ ea eb pos, e = .BoolOp .Or [ea, eb] pos ∧ notIf ea = true ∧ notIf eb = true ∧ ckE k a ea = true ∧ ckE k b eb = true) ∨
    ∃ ea eb ec r pos, e = .BoolOp .Or (ea :: eb :: ec :: r) pos ∧ notIf ea = true ∧ ckE k a ea = true ∧ ckE k b (.BoolOp .Or (eb :: ec :: r) pos) = true := by
  unfold ckE at h
  split at h
  all_goals first | (exact absurd h Bool.false_ne_true) | (rename_i q; cases q; done) | skip
  · rename_i q
    cases q
    simp only [Bool.and_eq_true] at h
    exact .inl ⟨_, _, _, rfl, by simp only [h, and_self]⟩
  · rename_i q
    cases q
    simp only [Bool.and_eq_true] at h
    exact .inr ⟨_, _, _, _, _, rfl, by simp only [h, and_self]⟩
theorem inv_callD {k : Kx} {f : Nat} {es : M.Es} {d : M.Val} {ds : List M.Val} {e : Expr} (h : ckE k (.call f es (d :: ds)) e = true) : False := by
  unfold ckE at h
  exact absurd h Bool.false_ne_true
theorem inv_is {k : Kx} {a : M.E} {v : M.Val} {b : Bool} {e : Expr} (h : ckE k (.is_ a v b) e = true) : v = .non := by
  unfold ckE at h
  split at h
  all_goals first | (exact absurd h Bool.false_ne_true) | (rename_i q; cases q; done) | skip
  all_goals (rename_i q; cases q; rfl)
theorem inv_methK {k : Kx} {o : M.E} {m : Nat} {es ks : M.Es} {d : List M.Val} {e : Expr} (h : ckE k (.methK o m es ks d) e = true) : False := by
  unfold ckE at h
  exact absurd h Bool.false_ne_true
theorem inv_dcomp {k : Kx} {a b : M.E} {t : M.Tg} {i : M.It} {d : M.Option_E} {e : Expr} (h : ckE k (.dcomp a b t i d) e = true) : False := by
  unfold ckE at h
  exact absurd h Bool.false_ne_true
end Br
end

section
set_option Elab.async false
set_option linter.all false
set_option maxRecDepth 100000
set_option maxHeartbeats 1000000
/-! L1: list(reversed(x)) of a list. -/
namespace Br
open PySem PyProof.Rows
section
variable {prog : Program} {w : World} {A : Around} {E : Value → Shared → Prop} {s : Shared}
theorem ext_rev {R : Result → Shared → Prop} {it l S : Addr} {items : Array Value} {c₀ : Nat} (res : Value) (hh : A.handled = none) (hit : s.heap.IsRevIter it l ((items.size : Int) - 1)) (hl : s.heap.IsList l items) (hne : l ≠ it) (hn : items.size ≤ sizeLine) (hSi : S ≠ it) (hSl : S ≠ l)
    (hS : s.heap.get? S = some { cls := .type "list", data := .seq #[] c₀ })
    (hR : ∀ (h' : Heap) (tk : Nat) (acc : Array Value) (c : Nat), (∀ b o, b ≠ S → b ≠ it → s.heap.get? b = some o → h'.get? b = some o) → h'.get? S = some { cls := .type "list", dict := none, data := .seq acc c, slots := #[] } →
      ItemsOf (fun i v => items[items.size - 1 - i]? = some v) acc items.size → R (.ok (.ret res)) { s with heap := h', toks := tk }) :
    wpAny (model prog w) A.in1 (Builtin.List.listExtendWith (.ref S) (.ref it) res)
      (fun fin s' => match fin with | .done f => R (.ok f) s' | .again c' => c'.quiet = true ∧ codeAny (model prog w) A c' R s') (fun e s' => R (.error e) s') s := by
  have W := (Walks.listRev (prog := prog) (w := w) (A := A.in1) hh it l hne items).toS
  have hSf : S ∉ [it, l] := by
    simp only [List.mem_cons, List.not_mem_nil, or_false, not_or]
    exact ⟨hSi, hSl⟩
  have hT : s.TypeIs (.ref it) "list_reverseiterator" := hit.typeIs
  have h1 : Builtin.List.listSameRef (.ref S) (.ref it) = false := by simp [Builtin.List.listSameRef, hSi]
  unfold Builtin.List.listExtendWith
  refine wpAny_bind (wpAny_typeOf hT ?_)
  rw [if_neg (by rw [h1]; decide)]
  refine wpAny_bind (wpAny_pyIter_revIter hit ?_)
  refine wpAny_bind (wpAny_holding ?_)
  unfold Builtin.List.listLengthHint
  refine wpAny_bind (wpAny_specialOf hT RT.nolen_lri ?_)
  show wpAny _ A.in1 (specialOf (Value.ref it) (Str.ofString "__length_hint__") >>= _) _ _ _
  refine wpAny_bind (wpAny_specialOf hT RT.hint_lri ?_)
  generalize hid : ("list_reverseiterator.__length_hint__" : String) = id0
  wp_delta
  rw [show splitId id0 = some ("list_reverseiterator", "__length_hint__") from by subst hid; decide +kernel]
  subst hid
  refine wpAny_bind (wpAny_isInstance (b := true) hT (by rw [isSubtype_type]; kernel_rfl) ?_)
  refine wpAny_pure ?_
  rw [if_neg (by decide)]
  have e0 : ((items.size : Nat) : Int) - 1 - ((0 : Nat) : Int) = (items.size : Int) - 1 := by omega
  have st : Heap.IsRevIter s.heap it l (((items.size : Nat) : Int) - 1 - ((0 : Nat) : Int)) := by rw [e0]; exact hit
  refine wpAny_pure ⟨plainId_quiet F.plain_extend_loop _, codeAny_extend_loopS W hn S hSf res items.size 0 _ #[] c₀ rfl (Nat.zero_le _) ⟨Nat.zero_le _, st, hl⟩ hS (ItemsOf.nil _) fun s' acc' c' hm hS' hacc => ?_⟩
  rw [Moved.eq_with hm]
  refine hR s'.heap s'.toks acc' c' (fun b o hb hb2 e => hm.heap b o (fun hmem => ?_) e) hS' hacc
  rcases List.mem_cons.mp hmem with q | q
  · exact hb q
  · exact hb2 (List.mem_singleton.mp q)
theorem init_rev {R : Result → Shared → Prop} {it l S : Addr} {items : Array Value} (hh : A.handled = none) (hit : s.heap.IsRevIter it l ((items.size : Int) - 1)) (hl : s.heap.IsList l items) (hne : l ≠ it) (hn : items.size ≤ sizeLine) (hSi : S ≠ it) (hSl : S ≠ l)
    (hS : s.heap.get? S = some { cls := .type "list", data := .seq #[] })
    (hR : ∀ (h' : Heap) (tk : Nat) (acc : Array Value) (c : Nat), (∀ b o, b ≠ S → b ≠ it → s.heap.get? b = some o → h'.get? b = some o) → h'.get? S = some { cls := .type "list", dict := none, data := .seq acc c, slots := #[] } →
      ItemsOf (fun i v => items[items.size - 1 - i]? = some v) acc items.size → R (.ok (.ret .none)) { s with heap := h', toks := tk }) :
    wpAny (model prog w) A.in1 (Builtin.«list.__init__» ⟨[.ref S, .ref it], []⟩)
      (fun fin s' => match fin with | .done f => R (.ok f) s' | .again c' => c'.quiet = true ∧ codeAny (model prog w) A c' R s') (fun e s' => R (.error e) s') s := by
  show wpAny _ _ (do let old ← Builtin.List.listItems (.ref S); Builtin.List.listUpdate (.ref S) (fun _ => #[]); letGo old.toList.reverse; Builtin.List.listExtendWith (.ref S) (.ref it) .none) _ _ s
  refine wpAny_bind ?_
  unfold Builtin.List.listItems
  refine wpAny_bind (wpAny_seqItems hS rfl (wpAny_pure ?_))
  show wpAny _ _ (updateSeq S (fun _ => #[]) >>= fun _ => letGo (#[] : Array Value).toList.reverse >>= fun _ => Builtin.List.listExtendWith (.ref S) (.ref it) .none) _ _ s
  refine wpAny_bind (wpAny_updateSeq hS rfl ?_)
  have hS2 := Heap.get?_update_self (Obj.mapSeq (fun _ => (#[] : Array Value))) hS rfl
  have oth : ∀ b o, b ≠ S → s.heap.get? b = some o → (s.heap.update S (Obj.mapSeq (fun _ => (#[] : Array Value)))).get? b = some o := fun b o hb e => (Heap.get?_update_other _ _ (Ne.symm hb)).trans e
  refine wpAny_bind (wpAny_letGo ?_)
  have hit2 : (s.heap.update S (Obj.mapSeq (fun _ => (#[] : Array Value)))).IsRevIter it l ((items.size : Int) - 1) := hit.at fun o e => oth it o (Ne.symm hSi) e
  have hl2 : (s.heap.update S (Obj.mapSeq (fun _ => (#[] : Array Value)))).IsList l items := by
    obtain ⟨ol, h1, h2⟩ := hl
    exact ⟨ol, oth l ol (Ne.symm hSl) h1, h2⟩
  refine ext_rev (c₀ := 0) .none hh hit2 hl2 hne hn hSi hSl ?_ fun h' tk acc c hk hS' hacc => hR h' tk acc c (fun b o hb hb2 e => hk b o hb hb2 (oth b o hb e)) hS' hacc
  exact hS2
theorem list_rev {Q : Value → Shared → Prop} {it l : Addr} {items : Array Value} (hh : A.handled = none) (hit : s.heap.IsRevIter it l ((items.size : Int) - 1)) (hl : s.heap.IsList l items) (hne : l ≠ it) (hn : items.size ≤ sizeLine)
    (hQ : ∀ (h' : Heap) (tk : Nat) (acc : Array Value) (c : Nat), (∀ b o, b ≠ it → s.heap.get? b = some o → h'.get? b = some o) → h'.get? s.heap.objs.size = some { cls := .type "list", dict := none, data := .seq acc c, slots := #[] } →
      ItemsOf (fun i v => items[items.size - 1 - i]? = some v) acc items.size → Q (.ref s.heap.objs.size) { s with heap := h', toks := tk }) :
    wpAny (model prog w) A (call (.type "list") [.ref it]) Q E s := by
  refine callType_codes (Q₁ := fun obj s₁ => obj = .ref s.heap.objs.size ∧ s₁ = { s with heap := s.heap.push { cls := .type "list", data := .seq #[] } }) F.called_list (F.typeCall_list_1 _) F.entry_list_init
    (code_list_new _ ⟨rfl, rfl⟩) fun obj s₁ h₁ => ?_
  obtain ⟨rfl, rfl⟩ := h₁
  have hS : (s.heap.push { cls := .type "list", data := .seq #[] }).get? s.heap.objs.size = some { cls := .type "list", data := .seq #[] } := Heap.get?_push_size _ rfl
  obtain ⟨oi, hoi, _⟩ := id hit
  obtain ⟨ol, hol, _⟩ := id hl
  refine ⟨⟨_, hS, rfl⟩, F.args_list_init_2 _ _, init_rev (A := A.in1) hh (hit.at fun o e => Heap.get?_push_of_some _ e) (hl.push _) hne hn (Nat.ne_of_gt (Heap.lt_size hoi)) (Nat.ne_of_gt (Heap.lt_size hol)) hS fun h' tk acc c hk hS' hacc => ?_⟩
  exact ⟨rfl, hQ h' tk acc c (fun b o hb e => hk b o (Nat.ne_of_lt (Heap.lt_size e)) hb (Heap.get?_push_of_some _ e)) hS' hacc⟩
end
end Br
namespace Br
open PySem PySem.Spec PyProof.Rows L2
section
variable {X : Cx}
def tLstRev (K : PySem.W.Frag) (te : TE) : TE := fun σ H Q => te σ H fun v H1 => ∃ (a : Addr) (xs : List V), v = .ref a ∧ SqL K H1 a xs ∧ ∀ q, H1 q = none → Q (.ref q) (upd H1 q (.lst xs.reverse))
theorem pe_lstRev {e : Expr} {te : TE} {p p2 pos pos2 : Pos} (hc : X.calm = true) (hg : Gl X "list") (hm : X.mg "list" = none) (hg2 : Gl X "reversed") (hm2 : X.mg "reversed" = none) (he : PE X e te) (pe : plainE e = true) :
    PE X (.Call (.Name "list" p) [.Call (.Name "reversed" p2) [e] [] pos2] [] pos) (tLstRev X.K te) := by
  refine ⟨fun pins s σ H Q I h => ?_⟩
  refine Call_ (ld_blt I hg hm boot_list (callWith_type1 (args_cons (Call_ (ld_blt I hg2 hm2 boot_reversed (callWith_type1 (args_cons (thn (he.run pins s σ H _ I h) fun u s1 ⟨v, H1, I1, r1, q1⟩ => args_nil ?_) (plain_star pe)) (plain_star pe) rfl))) rfl) rfl rfl))
  obtain ⟨a, xs, ev, hq, q⟩ := q1
  subst ev
  obtain rfl : u = Value.ref a := r1
  obtain ⟨its, rv, p', hz⟩ := I1.list hq
  refine call_reversed_list p'.isList (args_nil ?_)
  have k0 : ∀ b o, s1.heap.get? b = some o → (s1.heap.push (revObj a ((its.toArray.size : Int) - 1))).get? b = some o := fun b o e => Heap.get?_push_of_some _ e
  have I2 : Inv X pins σ H1 { s1 with heap := s1.heap.push (revObj a ((its.toArray.size : Int) - 1)) } := I1.kept (t' := s1.toks) k0
  obtain ⟨f0, f1, f2, f3, f4, f5⟩ := I1.fpOk (H' := H1) (b := s1.heap.objs.size) (Nat.le_refl _) (I1.hok.fresh (Nat.le_refl _))
  have hl := p'.isList
  obtain ⟨ol, hol, _⟩ := id hl
  have hne : a ≠ s1.heap.objs.size := Nat.ne_of_lt (Heap.lt_size hol)
  have hn : its.toArray.size ≤ sizeLine := by rw [List.size_toArray, ← rv.length]; exact hz
  refine list_rev (s := { s1 with heap := s1.heap.push (revObj a ((its.toArray.size : Int) - 1)) }) (I1.ok.hd hc) ⟨_, Heap.get?_push_size _ rfl, rfl, rfl⟩ (hl.push _) hne hn fun h' tk acc c hk hS' hi => ?_
  have hfr : H1 (s1.heap.push (revObj a ((its.toArray.size : Int) - 1))).objs.size = none := I2.hok.fresh (Nat.le_refl _)
  have fp := I1.fpOk (H' := H1) (b := s1.heap.objs.size) (Nat.le_refl _) (I1.hok.fresh (Nat.le_refl _))
  refine ⟨.ref _, upd H1 (s1.heap.push (revObj a ((its.toArray.size : Int) - 1))).objs.size (.lst xs.reverse), ?_, rfl, q _ hfr⟩
  refine L2.Inv.turnedNew (ch := [s1.heap.objs.size]) I2 (fun b o hb e => hk b o (fun z => hb (List.mem_singleton.mpr z)) e) (fun b hb => by rw [List.mem_singleton.mp hb]; exact fp) (Nat.le_refl _) ?_
  exact ⟨by rw [List.length_reverse]; exact hz, acc.toList, c, RT.vals_rev rv hi, by rw [Array.toArray_toList]; exact hS'⟩
end
end Br
end

section
set_option Elab.async false
set_option linter.all false
set_option maxRecDepth 100000
set_option maxHeartbeats 1000000
/-! B20: what passes the check does what M says: expressions. -/
namespace Br
open PySem L2
structure Okk (L : Lk) (T : M.Tab) (X : Cx) (W : WX) (n : Nat) (k : Kx) : Prop where
  g : Gd L T X W n
  sc : X.env.scope = k.sc
  N : X.N = k.N
  fn : X.fn = k.fnB
  calm : X.calm = true
  gi : ∀ x, GiOk L X x (k.gi x)
  T : k.T = T
  fN : k.fN = L.fN
def isBoolE : Expr → Bool
  | .BoolOp .. => true
  | _ => false
structure Snd (L : Lk) (T : M.Tab) (X : Cx) (W : WX) (n : Nat) (c : M.E) (e : Expr) : Prop where
  pe : PE X e (TEv L T (M.callAt T n) W c)
  pt : notIf e = true → PT X e (TTv L T (M.callAt T n) W c)
  pw : isBoolE e = true → PW X e (TTv L T (M.callAt T n) W c)
section
variable {L : Lk} {T : M.Tab} {n : Nat}
theorem Okk.blk {X : Cx} {W : WX} {k : Kx} (O : Okk L T X W n k) {s : Shared} {H : Hp} {scope : Scope} {C : Addr} {cl : List (Str × Addr)} {fp : List Addr} : Okk L T (X.blk s H scope (compEnvC scope cl C X.env) fp) Wf n (blkK k scope) where
  g := { hK := O.g.hK, nd := O.g.nd, room := O.g.room, tk := takes_none5, fx := O.g.fx, fns := O.g.fns, glb := O.g.glb }
  sc := by
    show relS scope X.env.scope = relS scope k.sc
    rw [O.sc]
  N := O.N
  fn := rfl
  calm := O.calm
  gi := O.gi
  T := O.T
  fN := O.fN
variable {X : Cx} {W : WX} {k : Kx}
theorem Okk.gl (O : Okk L T X W n k) {x : Str} (h : gbl k x = true) : Gl X x ∧ (x == ("__debug__" : Str)) = false := by
  unfold gbl at h
  rw [Bool.and_eq_true] at h
  refine ⟨?_, by simpa using h.2⟩
  show X.env.scope.names.lookup x = _
  rw [O.sc]
  exact kind_glob h.1
theorem Okk.vis (O : Okk L T X W n k) {x : Str} (h : vis k x = true) : Vis X.env.scope x ∧ (x == ("__debug__" : Str)) = false ∧ (x == ("__classdict__" : Str)) = false := by
  unfold Br.vis at h
  rw [Bool.and_eq_true, Bool.and_eq_true] at h
  refine ⟨?_, by simpa using h.1.2, by simpa using h.2⟩
  rw [O.sc]
  exact kind_vis h.1.1
theorem lt_of_64 {a c : Nat} (h : a + 64 < c) : a + 1 < c := by omega
theorem Okk.u64 (O : Okk L T X W n k) : X.A.units + 64 < cLine := by
  have r := O.g.room
  exact r.units
theorem Okk.u1 (O : Okk L T X W n k) : X.A.units + 1 < cLine := by
  have r := O.u64
  generalize X.A.units = a at r ⊢
  generalize cLine = c at r ⊢
  exact lt_of_64 r
theorem Okk.u0 (O : Okk L T X W n k) : X.A.units < cLine := O.g.room.units0
theorem Okk.glb (O : Okk L T X W n k) : Glb L X := O.g.glb X rfl rfl rfl
theorem Okk.op (O : Okk L T X W n k) {o : M.Op} {op : Operator} (h : opB o op = true) : ∀ E, OpR X (binaryOp op) (rVal L T E (M.binV o)) := by
  unfold opB at h
  split at h
  · exact opR_sub
  · exact opR_fdiv
  · exact opR_mod
  · exact opR_pow
  · exact opR_shr
  · exact opR_band
  · exact opR_bxor
  · exact opR_mul O.g.hK
  · exact opR_add O.g.hK
  · cases h
theorem Okk.cm (O : Okk L T X W n k) {o : M.Cm} {op : CmpOp} (h : cmB o op = true) : OpR X (compareOp op) (rCmpV L (M.cmpV o)) := by
  unfold cmB at h
  split at h
  · exact cmpR_eq O.g.hK O.u64
  · exact cmpR_ne O.g.hK O.u64
  · exact cmpR_lt O.g.hK O.u0
  · exact cmpR_le
  · exact cmpR_gt
  · exact cmpR_ge
  · exact cmpR_in O.g.hK O.u1 O.glb
  · exact cmpR_notIn O.g.hK O.u1 O.glb
  · cases h
theorem Okk.free (O : Okk L T X W n k) {x : Str} (h : isBlt (k.gi x) = true) : X.mg x = none := by
  have g := O.gi x
  unfold isBlt at h
  split at h
  · rename_i e
    rw [e] at g
    exact g
  · cases h
theorem snd_rev {call : Nat → List M.Val → M.Heap → M.R M.Val} {e : Expr} {c : M.E} {p p2 pos pos2 : Pos} (hK : X.K = L.K) (hc : X.calm = true) (hg : Gl X "list") (hm : X.mg "list" = none) (hg2 : Gl X "reversed") (hm2 : X.mg "reversed" = none) (he : PE X e (TEv L T call W c)) (pe : plainE e = true) :
    PE X (.Call (.Name "list" p) [.Call (.Name "reversed" p2) [e] [] pos2] [] pos) (TEv L T call W (.blt .revList (.cons c .nil))) := by
  refine ⟨fun pins s τ H Q I ⟨m, h, σ, hs, S, q⟩ => (pe_lstRev hc hg hm hg2 hm2 he pe).run pins s τ H Q I ⟨m, h, σ, hs, S, ?_⟩⟩
  rw [M.evE, M.evEs] at q
  cases ev : M.evE T call c σ h with
  | bad => rw [ev] at q; exact q.elim
  | exc a b d => rw [ev] at q; exact q
  | ok v h1 =>
    rw [ev] at q
    have q : Post (L := L) T (vrel L) (fun cls d H' => W cls d τ H') (((M.evEs T call .nil σ h1).bind fun vs h2 => .ok (v :: vs) h2).bind fun vs h1 => M.blt .revList vs h1) m H Q := q
    rw [M.evEs] at q
    have q : Post (L := L) T (vrel L) (fun cls d H' => W cls d τ H') (M.bRevList v h1) m H Q := q
    intro m1 H1 x e1 S1 r
    unfold M.bRevList at q
    split at q
    · rename_i vs e2
      obtain ⟨A, ys, rfl, z, r1⟩ := S1.seq r e2
      exact ⟨A, ys, rfl, by rw [hK]; exact z, Post.newL S1 (vrels.rev r1) (Post.ext e1 q)⟩
    · exact q.elim
theorem toS_num (i : Int) (h : 0 ≤ i) : toS (M.strInt i) = (toString i : Str) := by
  obtain ⟨n, rfl⟩ := nn h
  have e := PySem.W.KIN.signs_num n
  unfold M.strInt toS
  rw [show ((n : Int)).toNat = n from rfl, ← e]
theorem callR_str {E : XK} : CallR X (.type "str") (rBlt L T E .str) := by
  intro pins s σ H xs us Q I r t
  obtain ⟨m, h, v, x, rfl, S, rx, p⟩ := on1_ok (fun _ _ => rfl) t
  unfold M.bStr at p
  split at p
  · rename_i i
    cases (show x = .int i from rx)
    split at p
    · rename_i c
      refine call_str_int pins s σ H _ us Q I r ⟨i, rfl, ?_, ?_⟩
      · have : i.natAbs < 2 ^ 64 := by omega
        by_cases z : i.natAbs = 0
        · rw [z]; decide
        · exact Nat.lt_trans ((Nat.log2_lt z).mpr this) (by decide)
      · rw [← toS_num i c.1]
        exact Post.val (v := M.Val.str (M.strInt i)) S rfl p
    · exact p.elim
  · exact p.elim
theorem boot_enum : bootBuiltins "enumerate" = some (.type "enumerate") := by decide +kernel
theorem boot_o : bootBuiltins "ord" = some (.builtin "ord") := by decide +kernel
theorem Okk.blt (O : Okk L T X W n k) {b : M.B} {x : Str} {e : Expr} {es : List Expr} {cs : M.Es} {p pos : Pos} (hb : bltB b x = true) (hg : gbl k x = true) (hf : isBlt (k.gi x) = true) (hp : (e :: es).all plainE = true) (ha : PA X (e :: es) (TAv L T (M.callAt T n) W cs)) :
    PE X (.Call (.Name x p) (e :: es) [] pos) (TEv L T (M.callAt T n) W (.blt b cs)) := by
  obtain ⟨g1, g2⟩ := O.gl hg
  have m := O.free hf
  unfold bltB at hb
  split at hb
  · obtain rfl := of_decide_eq_true hb; exact snd_bltB (fun E => callR_len O.g.hK) g1 m PySem.boot_len (by decide) g2 hp ha
  · obtain rfl := of_decide_eq_true hb; exact snd_bltT (fun E => callR_list O.g.hK) g1 m PyProof.Rows.boot_list (by decide) g2 hp ha
  · obtain rfl := of_decide_eq_true hb; exact snd_bltT (fun E => callR_tuple O.g.hK) g1 m PyProof.Rows.boot_tuple (by decide) g2 hp ha
  · obtain rfl := of_decide_eq_true hb; exact snd_bltT (fun E => callR_int) g1 m PyProof.Rows.boot_int (by decide) g2 hp ha
  · obtain rfl := of_decide_eq_true hb; exact snd_bltB (fun E => callR_max O.calm) g1 m PyProof.Rows.boot_max (by decide) g2 hp ha
  · obtain rfl := of_decide_eq_true hb; exact snd_bltB (fun E => callR_min O.calm) g1 m PyProof.Rows.boot_min (by decide) g2 hp ha
  · obtain rfl := of_decide_eq_true hb; exact snd_bltB (fun E => callR_ord) g1 m boot_o (by decide) g2 hp ha
  · obtain rfl := of_decide_eq_true hb; exact snd_bltT (fun E => callR_str) g1 m PyProof.Rows.boot_str (by decide) g2 hp ha
  · cases hb
theorem Okk.bm (O : Okk L T X W n k) {b : M.B} {x : Str} {o e : Expr} {es : List Expr} {co : M.E} {cs : M.Es} {apos pos : Pos} (hb : bmB b x = true) (po : plainE o = true) (hl : (e :: es).length < 30) (hline : (apos.endLine == pos.line) = true) (ho : PE X o (TEv L T (M.callAt T n) W co)) (hp : (e :: es).all plainE = true)
    (ha : PA X (e :: es) (TAv L T (M.callAt T n) W cs)) : PE X (.Call (.Attribute o x apos) (e :: es) [] pos) (TEv L T (M.callAt T n) W (.bm b co cs)) := by
  unfold bmB at hb
  split at hb
  · obtain rfl := of_decide_eq_true hb; exact snd_bm PySem.F.plainAttrs_list PySem.F.slot_list_append PySem.type_list_append (recv_list (fun a h c => recv_append c) O.g.hK) (fun E => mtR_append) ho ha po hp hl hline
  · obtain rfl := of_decide_eq_true hb; exact snd_bm PySem.F.plainAttrs_list PySem.F.slot_list_extend PySem.F.type_list_extend (recv_list (fun a h c => recv_extend c) O.g.hK) (fun E => mtR_extend O.g.hK) ho ha po hp hl hline
  · obtain rfl := of_decide_eq_true hb; exact snd_bm PySem.F.plainAttrs_list PySem.F.slot_list_count PySem.F.type_list_count (recv_list (fun a h c => recv_count c) O.g.hK) (fun E => mtR_count O.g.hK) ho ha po hp hl hline
  · obtain rfl := of_decide_eq_true hb; exact snd_bm PySem.F.plainAttrs_dict PySem.F.slot_dict_get PySem.F.type_dict_get (recv_get O.glb) (fun E => mtR_get O.u1 O.glb) ho ha po hp hl hline
  · cases hb
theorem Okk.nm (O : Okk L T X W n k) {i : Nat} {e : Expr} (h : nmB k i e = true) : NmOk X i e := by
  unfold nmB at h
  split at h
  · rename_i x pos
    simp only [Bool.and_eq_true, Bool.or_eq_true, decide_eq_true_eq] at h
    obtain ⟨h1, h2⟩ := h
    refine ⟨x, pos, rfl, by rw [O.N]; exact h1, ?_, ?_⟩
    · rw [O.sc]
      refine kind_loc ?_
      rcases h2 with h2 | h2
      · rw [decide_eq_true h2]; rfl
      · rw [decide_eq_true h2.1, Bool.or_true]
    · rcases h2 with h2 | h2
      · right
        rw [O.sc]
        unfold kindB at h2
        split at h2 <;> first | assumption | (simp at h2)
      · left
        rw [O.fn]
        exact h2.2
  · cases h
theorem Okk.nms (O : Okk L T X W n k) : ∀ {is : List Nat} {es : List Expr}, nmsB k is es = true → NmsOk X is es
  | [], [], _ => .nil
  | i :: is, e :: es, h => by
    have h : (nmB k i e && nmsB k is es) = true := h
    rw [Bool.and_eq_true] at h
    exact .cons (O.nm h.1) (O.nms h.2)
  | [], _ :: _, h => by cases h
  | _ :: _, [], h => by cases h
theorem Okk.tg (O : Okk L T X W n k) {t : M.Tg} {e : Expr} (h : ckTg k t e = true) : PG X e (TGv L.K t) := by
  cases t with
  | one i => exact pg_one O.g.nd (O.nm h)
  | many is =>
    cases e with
    | Tuple es u p => exact pg_many O.g.hK O.calm O.g.nd (O.nms h)
    | _ => cases h
def simT : Expr → Bool
  | .UnaryOp .Not _ _ => false
  | .BoolOp .. => false
  | .IfExp .. => false
  | .Compare .. => false
  | _ => true
theorem simple_t {e : Expr} (h : simT e = true) {env : Env} : ∀ whole, isTrue e env whole = (do let v ← whole; standAt e.pos; holding [v] (truthy v)) := by
  intro whole
  cases e with
  | UnaryOp op a p => cases op <;> first | rfl | cases h
  | _ => first | rfl | cases h
theorem Snd.mk1 {c : M.E} {e : Expr} (pe : PE X e (TEv L T (M.callAt T n) W c)) (h : simT e = true) : Snd L T X W n c e where
  pe := pe
  pt := fun _ => snt_val pe (simple_t h)
  pw := fun q => by cases e <;> first | exact absurd h Bool.false_ne_true | exact absurd q Bool.false_ne_true
def Snds (L : Lk) (T : M.Tab) (X : Cx) (W : WX) (n : Nat) (cs : M.Es) (es : List Expr) : Prop := PA X es (TAv L T (M.callAt T n) W cs) ∧ es.all plainE = true
theorem giVal_ok (O : Okk L T X W n k) {x : Str} {v : M.Val} {pos : Pos} (hg : gbl k x = true) (h : giVal (k.gi x) v = true) : PE X (.Name x pos) (TEv L T (M.callAt T n) W (.cval v)) := by
  obtain ⟨g1, g2⟩ := O.gl hg
  have g := O.gi x
  unfold giVal at h
  split at h
  · rename_i e
    rw [e] at g
    obtain rfl := of_decide_eq_true h
    obtain ⟨t, hm⟩ := g
    exact snd_cval (z := .int _) g1 hm ⟨t, rfl⟩ (fun _ _ => rfl) g2
  · rename_i e
    rw [e] at g
    obtain rfl := of_decide_eq_true h
    obtain ⟨t, hm⟩ := g
    exact snd_cval (z := .str _) g1 hm ⟨t, rfl⟩ (fun _ _ => rfl) g2
  · rename_i e
    rw [e] at g
    obtain rfl := beqs_eq h
    obtain ⟨A, ys, hm, tk, st, r⟩ := g
    exact snd_cval (z := .ref A) g1 hm rfl (fun m H => ⟨A, ys, rfl, .inr ⟨tk, st⟩, r m H⟩) g2
  · rename_i e
    rw [e] at g
    obtain rfl := of_decide_eq_true h
    exact snd_cval (z := .ref _) g1 g.1 rfl (fun m H => ⟨rfl, .inr g.2⟩) g2
  · cases h
theorem isFn_ok (O : Okk L T X W n k) {x : Str} {f : Nat} (h : isFn f (k.gi x) = true) : X.mg x = some (.ref (L.fA f)) := by
  have g := O.gi x
  unfold isFn at h
  split at h
  · rename_i e
    rw [e] at g
    obtain rfl := of_decide_eq_true h
    exact g
  · cases h
theorem isCls_ok (O : Okk L T X W n k) {x : Str} {f : Nat} (h : isCls f (k.gi x) = true) : X.mg x = some (.ref (L.cA f)) := by
  have g := O.gi x
  unfold isCls at h
  split at h
  · rename_i e
    rw [e] at g
    obtain rfl := of_decide_eq_true h
    exact g
  · cases h
theorem own_slots {k : Kx} : ∀ (is : List Nat), (ownN k is).map (·.2) = is
  | [] => rfl
  | i :: is => by
    show i :: (ownN k is).map (·.2) = i :: is
    rw [own_slots is]
theorem es_nil {es : List Expr} (h : ckEs k .nil es = true) : es = [] := by
  cases es with
  | nil => rfl
  | cons _ _ => exact absurd h Bool.false_ne_true
theorem es_ne {c : M.E} {cs : M.Es} {es : List Expr} (h : ckEs k (.cons c cs) es = true) : ∃ e r, es = e :: r ∧ plainE e = true ∧ ckE k c e = true ∧ ckEs k cs r = true := by
  cases es with
  | nil => exact absurd h Bool.false_ne_true
  | cons e r =>
    have h : (plainE e && ckE k c e && ckEs k cs r) = true := h
    simp only [Bool.and_eq_true] at h
    exact ⟨e, r, rfl, h.1.1, h.1.2, h.2⟩
theorem PA.one {e : Expr} {c : M.E} (pe : PE X e (TEv L T (M.callAt T n) W c)) (p : plainE e = true) : PA X [e] (TAv L T (M.callAt T n) W (.cons c .nil)) := sna_cons pe sna_nil p
theorem inv_enum {k : Kx} {a : M.E} {tg e : Expr} (h : ckIt k (.enum a) tg e = true) : ∃ p ea pos, e = .Call (.Name "enumerate" p) [ea] [] pos ∧ isTupE tg = true ∧ gbl k "enumerate" = true ∧ isBlt (k.gi "enumerate") = true ∧ plainE ea = true ∧ ckE k a ea = true := by
  unfold ckIt at h
  split at h
  all_goals first | (exact absurd h Bool.false_ne_true) | (rename_i q; cases q; done) | skip
  rename_i q
  cases q
  simp only [Bool.and_eq_true, decide_eq_true_eq] at h
  obtain ⟨⟨⟨⟨⟨rfl, h1⟩, h2⟩, h3⟩, h4⟩, h5⟩ := h
  exact ⟨_, _, _, rfl, h1, h2, h3, h4, h5⟩
mutual
theorem sE : ∀ (c : M.E) (k : Kx) (X : Cx) (W : WX) (e : Expr), Okk L T X W n k → ckE k c e = true → Snd L T X W n c e
  | .loc i, k, X, W, e, O, h => by
    obtain ⟨x, pos, rfl, h1, h2⟩ := inv_loc h
    obtain ⟨v1, v2, v3⟩ := O.vis h2
    exact .mk1 (snd_loc (by rw [O.N]; exact h1) v1 v2 v3) rfl
  | .cint i, k, X, W, e, O, h => by
    obtain ⟨u, pos, rfl, _⟩ := inv_cint h
    exact .mk1 snd_int rfl
  | .cstr s, k, X, W, e, O, h => by
    obtain ⟨x, u, pos, rfl, h1⟩ := inv_cstr h
    exact .mk1 (snd_str h1) rfl
  | .cbl b, k, X, W, e, O, h => by
    obtain ⟨u, pos, rfl, _⟩ := inv_cbl h
    exact .mk1 snd_bl rfl
  | .cnon, k, X, W, e, O, h => by
    obtain ⟨u, pos, rfl, _⟩ := inv_cnon h
    exact .mk1 snd_non rfl
  | .cval v, k, X, W, e, O, h => by
    obtain ⟨x, pos, rfl, h1, h2⟩ := inv_cval h
    exact .mk1 (giVal_ok O h1 h2) rfl
  | .bin op a b, k, X, W, e, O, h => by
    obtain ⟨ea, o, eb, pos, rfl, h1, h2, h3⟩ := inv_bin h
    exact .mk1 (snd_bin (O.op h1) (sE a k X W ea O h2).pe (sE b k X W eb O h3).pe) rfl
  | .neg a, k, X, W, e, O, h => by
    obtain ⟨ea, pos, rfl, h1⟩ := inv_neg h
    exact .mk1 (snd_neg (sE a k X W ea O h1).pe) rfl
  | .nt a, k, X, W, e, O, h => by
    obtain ⟨ea, pos, rfl, h1, h2⟩ := inv_nt h
    have s := sE a k X W ea O h2
    exact ⟨snd_nt s.pe, fun _ => snt_nt (s.pt h1), fun q => absurd q Bool.false_ne_true⟩
  | .cmp c a b, k, X, W, e, O, h => by
    obtain ⟨ea, o, eb, pos, rfl, h1, h2, h3, h4⟩ := inv_cmp h
    have s1 := sE a k X W ea O h3
    have s2 := sE b k X W eb O h4
    exact ⟨snd_cmp (O.cm h1) s1.pe s2.pe h2, fun _ => snt_cmp (O.cm h1) s1.pe s2.pe h2, fun q => absurd q Bool.false_ne_true⟩
  | .chain c d x y z, k, X, W, e, O, h => by
    obtain ⟨ex, o, o', ey, ez, pos, rfl, h1, h2, h3, h4, h5, h6⟩ := inv_chain h
    have s1 := sE x k X W ex O h4
    have s2 := sE y k X W ey O h5
    have s3 := sE z k X W ez O h6
    exact ⟨snd_chain (O.cm h1) (O.cm h2) s1.pe s2.pe s3.pe h3, fun _ => snt_chain (O.cm h1) (O.cm h2) s1.pe s2.pe s3.pe h3, fun q => absurd q Bool.false_ne_true⟩
  | .is_ a v b, k, X, W, e, O, h => by
    obtain rfl := inv_is h
    cases b with
    | true =>
      obtain ⟨ea, u, p, pos, rfl, h1⟩ := inv_isT h
      have s := sE a k X W ea O h1
      exact ⟨snd_isN s.pe, fun _ => snt_isN s.pe, fun q => absurd q Bool.false_ne_true⟩
    | false =>
      obtain ⟨ea, u, p, pos, rfl, h1⟩ := inv_isF h
      have s := sE a k X W ea O h1
      exact ⟨snd_notN s.pe, fun _ => snt_notN s.pe, fun q => absurd q Bool.false_ne_true⟩
  | .and_ a b, k, X, W, e, O, h => by
    rcases inv_and h with ⟨ea, eb, pos, rfl, h1, h2, h3, h4⟩ | ⟨ea, eb, ec, r, pos, rfl, h1, h2, h3⟩
    · have s1 := sE a k X W ea O h3
      have s2 := sE b k X W eb O h4
      have w : PW X (.BoolOp .And [ea, eb] pos) (TTv L T (M.callAt T n) W (.and_ a b)) := pwImp (pw_and (s1.pt h1) (pw_and1 (s2.pt h2))) fun τ H Q t => andT_op t
      exact ⟨peImp (pe_and s1.pe (pe_one s2.pe)) fun τ H Q t => and_op t, fun _ => w.pt, fun _ => w⟩
    · have s1 := sE a k X W ea O h2
      have s2 := sE b k X W _ O h3
      have w : PW X (.BoolOp .And (ea :: eb :: ec :: r) pos) (TTv L T (M.callAt T n) W (.and_ a b)) := pwImp (pw_and (s1.pt h1) (s2.pw rfl)) fun τ H Q t => andT_op t
      exact ⟨peImp (pe_and s1.pe s2.pe) fun τ H Q t => and_op t, fun _ => w.pt, fun _ => w⟩
  | .or_ a b, k, X, W, e, O, h => by
    rcases inv_or h with ⟨ea, eb, pos, rfl, h1, h2, h3, h4⟩ | ⟨ea, eb, ec, r, pos, rfl, h1, h2, h3⟩
    · have s1 := sE a k X W ea O h3
      have s2 := sE b k X W eb O h4
      have w : PW X (.BoolOp .Or [ea, eb] pos) (TTv L T (M.callAt T n) W (.or_ a b)) := pwImp (pw_or (s1.pt h1) (pw_or1 (s2.pt h2))) fun τ H Q t => orT_op t
      exact ⟨peImp (pe_or s1.pe (pe_one s2.pe)) fun τ H Q t => or_op t, fun _ => w.pt, fun _ => w⟩
    · have s1 := sE a k X W ea O h2
      have s2 := sE b k X W _ O h3
      have w : PW X (.BoolOp .Or (ea :: eb :: ec :: r) pos) (TTv L T (M.callAt T n) W (.or_ a b)) := pwImp (pw_or (s1.pt h1) (s2.pw rfl)) fun τ H Q t => orT_op t
      exact ⟨peImp (pe_or s1.pe s2.pe) fun τ H Q t => or_op t, fun _ => w.pt, fun _ => w⟩
  | .ife c a b, k, X, W, e, O, h => by
    obtain ⟨ec, ea, eb, pos, rfl, h1, h2, h3, h4⟩ := inv_ife h
    exact ⟨snd_ife ((sE c k X W ec O h2).pt h1) (sE a k X W ea O h3).pe (sE b k X W eb O h4).pe, fun q => absurd q Bool.false_ne_true, fun q => absurd q Bool.false_ne_true⟩
  | .fld o f, k, X, W, e, O, h => by
    obtain ⟨eo, x, pos, rfl, h1, h2, h3⟩ := inv_fld h
    exact .mk1 (snd_fld O.g (by rw [h1, O.fN]) (sE o k X W eo O h3).pe h2) rfl
  | .ix o i, k, X, W, e, O, h => by
    obtain ⟨eo, ei, pos, rfl, h1, h2, h3⟩ := inv_ix h
    exact .mk1 (snd_ix O.g.hK O.u1 O.glb (sE o k X W eo O h2).pe (sE i k X W ei O h3).pe h1) rfl
  | .sl o a b, k, X, W, e, O, h => by
    obtain ⟨eo, lo, hi, p, pos, rfl, h1, h2, h3⟩ := inv_sl h
    exact .mk1 (snd_sl O.g.hK (sE o k X W eo O h1).pe (sP a k X W lo O h2) (sP b k X W hi O h3)) rfl
  | .tup es, k, X, W, e, O, h => by
    obtain ⟨ees, u, pos, rfl, h1⟩ := inv_tup h
    exact .mk1 (snd_tup (sEs es k X W ees O h1).1) rfl
  | .lst es, k, X, W, e, O, h => by
    obtain ⟨ees, pos, rfl, h1⟩ := inv_lst h
    exact .mk1 (snd_lst (sEs es k X W ees O h1).1) rfl
  | .dnew b, k, X, W, e, O, h => by
    obtain ⟨pos, rfl, _⟩ := inv_dnew h
    exact .mk1 snd_dnew rfl
  | .call f es dvs, k, X, W, e, O, h => by
    cases dvs with
    | cons d ds => exact (inv_callD h).elim
    | nil =>
      obtain ⟨x, p, ees, pos, rfl, h1, h2, h3, h4⟩ := inv_call h
      obtain ⟨g1, g2⟩ := O.gl h1
      rw [O.T] at h3
      have ih := sEs es k X W ees O h4
      cases ees with
      | nil =>
        cases es with
        | nil => exact .mk1 (snd_call0 O.g h3 g1 (isFn_ok O h2) g2) rfl
        | cons _ _ => exact absurd h4 Bool.false_ne_true
      | cons e1 es1 => exact .mk1 (snd_call O.g h3 g1 (isFn_ok O h2) g2 ih.1 ih.2) rfl
  | .mk c es, k, X, W, e, O, h => by
    obtain ⟨x, p, ees, pos, rfl, h1, h2, h3, h4⟩ := inv_mk h
    obtain ⟨g1, g2⟩ := O.gl h1
    rw [O.T] at h3
    have ih := sEs es k X W ees O h4
    cases ees with
    | nil =>
      cases es with
      | nil => exact .mk1 (snd_mk0 O.g h3 g1 (isCls_ok O h2) g2) rfl
      | cons _ _ => exact absurd h4 Bool.false_ne_true
    | cons e1 es1 => exact .mk1 (snd_mk O.g h3 g1 (isCls_ok O h2) g2 ih.1 ih.2) rfl
  | .meth o m es, k, X, W, e, O, h => by
    obtain ⟨eo, x, apos, ees, pos, rfl, h1, h2, h3, h4, h5, h6⟩ := inv_meth h
    have ih := sEs es k X W ees O h6
    have po := (sE o k X W eo O h5).pe
    rw [O.fN] at h1
    cases ees with
    | nil =>
      cases es with
      | nil => exact .mk1 (snd_meth0 O.g h1 po h2 h4) rfl
      | cons _ _ => exact absurd h6 Bool.false_ne_true
    | cons e1 es1 => exact .mk1 (snd_meth O.g h1 po ih.1 h2 ih.2 h3 h4) rfl
  | .methK o m es ks d, k, X, W, e, O, h => (inv_methK h).elim
  | .blt b es, k, X, W, e, O, h => by
    rcases inv_blt h with ⟨x, p, e1, ees, pos, rfl, h1, h2, h3, h4⟩ | ⟨c, p, p2, e1, pos, pos2, rfl, rfl, rfl, h1, h2, h3, h4, h5, h6⟩
    · have ih := sEs es k X W (e1 :: ees) O h4
      exact .mk1 (O.blt h1 h2 h3 ih.2 ih.1) rfl
    · exact .mk1 (snd_rev O.g.hK O.calm (O.gl h1).1 (O.free h3) (O.gl h2).1 (O.free h4) (sE c k X W e1 O h6).pe h5) rfl
  | .bm b o es, k, X, W, e, O, h => by
    obtain ⟨eo, x, apos, e1, ees, pos, rfl, h1, h2, h3, h4, h5, h6⟩ := inv_bm h
    have ih := sEs es k X W (e1 :: ees) O h6
    exact .mk1 (O.bm h1 h2 h3 h4 (sE o k X W eo O h5).pe ih.2 ih.1) rfl
  | .comp elt tg it c, k, X, W, e, O, h => by
    obtain ⟨eelt, etg, eit, ifs, scope, pos, rfl, h1, h2, h3, h4, h5, h6⟩ := inv_comp h
    refine .mk1 (snd_comp O.calm O.g.nd (sI it k X W etg eit O h2) (blkOk_by (own := ownN k (slotsT tg)) (by rw [O.N, O.sc]; exact h3)) (own_slots _) (fun s H C cl fp => (O.blk).tg h4) (fun s H C cl fp => sO c (blkK k scope) _ Wf ifs O.blk h5) (fun s H C cl fp => (sE elt (blkK k scope) _ Wf eelt O.blk h6).pe) h1) rfl
  | .comp2 elt t1 i1 t2 i2, k, X, W, e, O, h => by
    obtain ⟨eelt, et1, ei1, et2, ei2, scope, pos, rfl, h1, h2, h3, h4, h5, h6, h7, h8⟩ := inv_comp2 h
    exact .mk1 (peImp (pe_lc2 (vs1 := slotsT t2) O.calm O.g.nd (sI i1 k X W et1 ei1 O h3) (blkOk_by (own := ownN k (slotsT t2 ++ slotsT t1)) (by rw [O.N, O.sc]; exact h4)) (fun i hi => by rw [own_slots]; exact List.mem_append_left _ hi)
      (fun s H C cl fp => (O.blk).tg h5) (fun s H C cl fp => snts_no) (fun s H C cl fp => sI i2 (blkK k scope) _ Wf et2 ei2 O.blk h7) (fun s H C cl fp => (O.blk).tg h6) (fun s H C cl fp => snts_no)
      (fun s H C cl fp => (sE elt (blkK k scope) _ Wf eelt O.blk h8).pe) (plain_fold h1) (fun env x => plain_fold h2 x)) fun τ H Q t => comp2_op (own_slots _) rfl t) rfl
  | .dcomp a b t i d, k, X, W, e, O, h => (inv_dcomp h).elim
theorem sEs : ∀ (cs : M.Es) (k : Kx) (X : Cx) (W : WX) (es : List Expr), Okk L T X W n k → ckEs k cs es = true → Snds L T X W n cs es
  | .nil, k, X, W, es, O, h => by
    obtain rfl := es_nil h
    exact ⟨sna_nil, rfl⟩
  | .cons c cs, k, X, W, es, O, h => by
    obtain ⟨e, r, rfl, h1, h2, h3⟩ := es_ne h
    have ih := sEs cs k X W r O h3
    exact ⟨sna_cons (sE c k X W e O h2).pe ih.1 h1, by rw [List.all_cons, h1, ih.2]; rfl⟩
theorem sP : ∀ (c : M.Option_E) (k : Kx) (X : Cx) (W : WX) (e : Option Expr), Okk L T X W n k → ckP k c e = true → PO X e (TOv L T (M.callAt T n) W c)
  | .no, k, X, W, e, O, h => by
    cases e with
    | none => exact sno_no
    | some _ => exact absurd h Bool.false_ne_true
  | .yes c, k, X, W, e, O, h => by
    cases e with
    | none => exact absurd h Bool.false_ne_true
    | some e => exact sno_yes (sE c k X W e O h).pe
theorem sO : ∀ (c : M.Option_E) (k : Kx) (X : Cx) (W : WX) (es : List Expr), Okk L T X W n k → ckO k c es = true → PTs X es (TTo L T (M.callAt T n) W c)
  | .no, k, X, W, es, O, h => by
    cases es with
    | nil => exact snts_no
    | cons _ _ => exact absurd h Bool.false_ne_true
  | .yes c, k, X, W, es, O, h => by
    cases es with
    | nil => exact absurd h Bool.false_ne_true
    | cons e r =>
      cases r with
      | nil =>
        have h : (notIf e && ckE k c e) = true := h
        rw [Bool.and_eq_true] at h
        exact snts_yes ((sE c k X W e O h.2).pt h.1)
      | cons _ _ => exact absurd h Bool.false_ne_true
theorem sI : ∀ (c : M.It) (k : Kx) (X : Cx) (W : WX) (tg e : Expr), Okk L T X W n k → ckIt k c tg e = true → PI X tg e (TIv L T (M.callAt T n) W c)
  | .over c, k, X, W, tg, e, O, h => sni_over O.g.hK (sE c k X W e O (by unfold ckIt at h; exact h)).pe
  | .range1 a, k, X, W, tg, e, O, h => by
    unfold ckIt at h
    split at h
    all_goals first | (exact absurd h Bool.false_ne_true) | (rename_i q; cases q; done) | skip
    rename_i q
    cases q
    simp only [Bool.and_eq_true, decide_eq_true_eq] at h
    obtain ⟨⟨⟨⟨rfl, h2⟩, h3⟩, h4⟩, h5⟩ := h
    exact sni_range1 (O.gl h2).1 (O.free h3) h4 (PA.one (sE a k X W _ O h5).pe h4)
  | .range2 a b, k, X, W, tg, e, O, h => by
    unfold ckIt at h
    split at h
    all_goals first | (exact absurd h Bool.false_ne_true) | (rename_i q; cases q; done) | skip
    rename_i q
    cases q
    simp only [Bool.and_eq_true, decide_eq_true_eq] at h
    obtain ⟨⟨⟨⟨⟨⟨rfl, h2⟩, h3⟩, h4⟩, h5⟩, h6⟩, h7⟩ := h
    exact sni_range2 (O.gl h2).1 (O.free h3) h4 h5 (sna_cons (sE a k X W _ O h6).pe (PA.one (sE b k X W _ O h7).pe h5) h4)
  | .range3 a b c, k, X, W, tg, e, O, h => by
    unfold ckIt at h
    split at h
    all_goals first | (exact absurd h Bool.false_ne_true) | (rename_i q; cases q; done) | skip
    rename_i q
    cases q
    simp only [Bool.and_eq_true, decide_eq_true_eq] at h
    obtain ⟨⟨⟨⟨⟨⟨⟨⟨rfl, h2⟩, h3⟩, h4⟩, h5⟩, h6⟩, h7⟩, h8⟩, h9⟩ := h
    exact sni_range3 (O.gl h2).1 (O.free h3) h4 h5 h6 (sna_cons (sE a k X W _ O h7).pe (sna_cons (sE b k X W _ O h8).pe (PA.one (sE c k X W _ O h9).pe h6) h5) h4)
  | .enum a, k, X, W, tg, e, O, h => by
    obtain ⟨p, ea, pos, rfl, h1, h2, h3, h4, h5⟩ := inv_enum h
    cases tg with
    | Tuple es u p => exact sni_enum O.g.hK (O.gl h2).1 (O.free h3) h4 (PA.one (sE a k X W _ O h5).pe h4)
    | _ => cases h1
  | .rev a, k, X, W, tg, e, O, h => by
    unfold ckIt at h
    split at h
    all_goals first | (exact absurd h Bool.false_ne_true) | (rename_i q; cases q; done) | skip
    rename_i q
    cases q
    simp only [Bool.and_eq_true, decide_eq_true_eq] at h
    obtain ⟨⟨⟨⟨rfl, h2⟩, h3⟩, h4⟩, h5⟩ := h
    exact sni_rev O.g.hK (O.gl h2).1 (O.free h3) h4 (PA.one (sE a k X W _ O h5).pe h4)
end
end
end Br
end

section
set_option Elab.async false
set_option linter.all false
set_option maxRecDepth 100000
set_option maxHeartbeats 1000000
/-! B21: what passes the check does what M says: statements. -/
namespace Br
open PySem L2
section
variable {L : Lk} {T : M.Tab} {n : Nat} {X : Cx} {W : WX} {k : Kx}
/-! ### a, .., o.f = e -/
def gAt (K : PySem.W.Frag) (to : TE) (x : Str) : TG := fun y τ H Q => to τ H fun o H1 => ∃ A C dx fs, o = .ref A ∧ H1 A = some (.ins C dx fs) ∧ Cls K C ∧ NoAttr K C x ∧ fs.length < 1000 ∧ Q τ (upd H1 A (.ins C dx (L2.putF x y fs)))
theorem pg_at {o : Expr} {to : TE} {x : Str} {pos : Pos} (ho : PE X o to) : PG X (.Attribute o x pos) (gAt X.K to x) := by
  refine ⟨fun pins s σ H v u Q I r h => ?_⟩
  have ha : assign (.Attribute o x pos) X.env u = (do
      let ov ← holding [u] (eval o X.env)
      standAt pos.atName
      holding [u, ov] (setAttr ov x u)
      release [u, ov] []) := rfl
  rw [ha]
  refine wpAny_bind (wpAny_holding (thn (ho.run pins s σ H _ I h) fun ov s1 ⟨z, H1, I1, r1, A, C, dx, fs, e, hA, hc, hn, hl, q⟩ => ?_))
  subst e
  obtain rfl : ov = Value.ref A := r1
  refine wpAny_bind (wpAny_standAt (wpAny_bind (wpAny_holding (setattr_ok I1 hA hc hn hl r fun s2 I2 => ?_))))
  exact wpAny_release ⟨σ, _, I2, q⟩
theorem pgs_at (hn : X.N.Nodup) {is : List Nat} {es : List Expr} {o : Expr} {x : Str} {pos : Pos} {g : TG} (hg : PG X (.Attribute o x pos) g) (hm : ∀ y τ H (Q Q' : St → Hp → Prop), (∀ σ H, Q σ H → Q' σ H) → g y τ H Q → g y τ H Q') (h : NmsOk X is es) :
    PGs X (es ++ [.Attribute o x pos]) (fun ys τ H Q => ∃ ys1 y, ys = ys1 ++ [y] ∧ ys1.length = is.length ∧ g y (asgS is ys1 τ) H Q) ∧ (assignEach (es ++ [.Attribute o x pos]) X.env).length = is.length + 1 ∧ (assignEach (es ++ [.Attribute o x pos]) X.env).findIdx? (·.1) = none := by
  induction h with
  | nil =>
    refine ⟨pgsImp (pgs_cons hg pgs_nil rfl) fun ys τ H Q ⟨ys1, y, e, hl, q⟩ => ?_, rfl, rfl⟩
    obtain rfl := List.eq_nil_of_length_eq_zero hl
    subst e
    exact ⟨y, [], rfl, hm _ _ _ _ _ (fun σ H q => ⟨rfl, q⟩) q⟩
  | cons h t ih =>
    obtain ⟨x, pos, rfl, hi, hl, hf⟩ := h
    obtain ⟨h1, h2, h3⟩ := ih
    refine ⟨pgsImp (pgs_cons (pg_name hn hi hl hf) h1 rfl) fun ys τ H Q ⟨ys1, y, e, q1, q⟩ => ?_, ?_, ?_⟩
    · cases ys1 with
      | nil => cases q1
      | cons z ys1 => exact ⟨z, ys1 ++ [y], e, ys1, y, rfl, by simpa using q1, q⟩
    · exact congrArg (· + 1) h2
    · show (List.findIdx? (·.1) ((false, assign _ X.env) :: assignEach _ X.env)) = none
      rw [List.findIdx?_cons]
      simp [h3]
theorem gAt_mono {call : Nat → List M.Val → M.Heap → M.R M.Val} {c : M.E} {K : PySem.W.Frag} {x : Str} : ∀ y τ H (Q Q' : St → Hp → Prop), (∀ σ H, Q σ H → Q' σ H) → gAt K (TEv L T call W c) x y τ H Q → gAt K (TEv L T call W c) x y τ H Q' :=
  fun y τ H Q Q' i t => TEv.mono t fun o H1 ⟨A, C, dx, fs, e, hA, hc, hn, hl, q⟩ => ⟨A, C, dx, fs, e, hA, hc, hn, hl, i _ _ q⟩
theorem sns_setTF (O : Okk L T X W n k) {is : List Nat} {es : List Expr} {o e : Expr} {co c : M.E} {f : Nat} {x : Str} {u : Nat} {pos pos' pos2 : Pos} (hx : x = L.fN f) (hn : nmsB k is es = true) (ho : PE X o (TEv L T (M.callAt T n) W co)) (he : PE X e (TEv L T (M.callAt T n) W c)) (h1 : isComp e = false) (h2 : isTupE e = false) :
    PS X (.Assign [.Tuple (es ++ [.Attribute o x pos2]) u pos'] e pos) (TSv L T (M.callAt T n) W (.setTF is co f c)) := by
  subst hx
  obtain ⟨g1, g2, g3⟩ := pgs_at O.g.nd (pg_at (pos := pos2) (x := L.fN f) ho) gAt_mono (O.nms hn)
  refine psImp (ps_asg he (pg_tup O.calm g1 g2 g3) (by unfold swapsWithSole; exact swaps_no h1) (by cases e <;> first | rfl | cases h2) rfl) fun D τ H ⟨m, h, σ, hs, S, p⟩ => ?_
  rw [M.evS] at p
  refine St.first hs S p fun v H1 m1 h1 cv e1 S1 hs1 r1 p1 => ?_
  cases cv with
  | tup vs =>
    obtain ⟨A, ys, rfl, st, r2⟩ := r1
    have p1 : PostF L T W (match vs.getLast? with
      | some z => match M.setSlots is vs.dropLast σ with
        | some σ1 => (M.evE T (M.callAt T n) co σ1 h1).st σ1 fun x h2 => match M.setF T x f z h2 with
          | some h3 => .nx σ1 h3
          | none => .bad
        | none => .bad
      | none => .bad) m1 H1 D := p1
    cases ez : vs.getLast? with
    | none => rw [ez] at p1; exact p1.elim
    | some z =>
      rw [ez] at p1
      have ev : vs = vs.dropLast ++ [z] := by
        obtain ⟨ws, rfl⟩ := List.getLast?_eq_some_iff.mp ez
        rw [List.dropLast_concat]
      have r3 := r2
      rw [ev] at r3
      have hlen := r3.length
      have r4 := vrels.take vs.dropLast.length r3
      have r5 := vrels.drop vs.dropLast.length r3
      rw [List.take_left] at r4
      rw [List.drop_left] at r5
      obtain ⟨y, ey, ry⟩ := vrels1 r5
      cases ea : M.setSlots is vs.dropLast σ with
      | none => simp only [ea] at p1; exact p1.elim
      | some σ1 =>
        simp only [ea] at p1
        obtain ⟨hl, hs2⟩ := setSlots_rel ea r4 hs1
        have eys : ys = ys.take vs.dropLast.length ++ [y] := by
          rw [← ey]
          exact (List.take_append_drop _ _).symm
        refine ⟨A, ys, rfl, by rw [O.g.hK]; exact TupK.of st, ?_, _, y, eys, hl, ?_⟩
        · rw [eys, List.length_append, hl]
          rfl
        · refine St.first hs2 S1 p1 fun w H2 m2 h2 cw e2 S2 hs3 r6 p2 => ?_
          unfold M.setF at p2
          split at p2
          · rename_i h3 e3
            split at e3
            · rename_i a
              obtain ⟨B, ea2, rfl⟩ := r6
              split at e3
              · rename_i cc fs e4
                split at e3
                · rename_i q
                  cases e3
                  obtain ⟨dx, zs, hA, rk, hc, hn⟩ := S2.ins ea2 e4
                  refine ⟨B, _, dx, zs, rfl, hA, by rw [O.g.hK]; exact hc, by rw [O.g.hK]; exact O.g.fx.noat cc f q.1, by rw [← kvrel.length rk]; exact q.2, ?_⟩
                  have x0 : Ext m2 H2 m2 (upd H2 B (.ins (L.cA cc) dx (L2.putF (L.fN f) y zs))) := Ext.write S2 ea2
                  refine p2 m2 _ _ x0 (Sim.write S2 ea2 ⟨dx, _, upd_same, kvrel.ext x0 (lookup_put O.g.fx.inj (vrel.ext e2 ry) rk), hc, fun p hp => ?_⟩) (hs3.ext x0)
                  rcases putF_keys hp with q1 | ⟨q1, q2, q3⟩
                  · rw [q1]; exact O.g.fx.noat cc f q.1
                  · rw [← q3]; exact hn q1 q2
                · cases e3
              · cases e3
            · cases e3
          · exact p2.elim
  | _ => exact p1.elim
end
end Br
end

section
set_option Elab.async false
set_option linter.all false
set_option maxRecDepth 100000
set_option maxHeartbeats 1000000
/-! B22: the check of statements. -/
namespace Br
open PySem L2
def isNone {α : Type} : Option α → Bool
  | none => true
  | some _ => false
def lastAt : List Expr → Option (List Expr × Expr × Str)
  | [] => none
  | [.Attribute o x _] => some ([], o, x)
  | e :: es => match lastAt es with
    | some (l, o, x) => some (e :: l, o, x)
    | none => none
mutual
def ckS (k : Kx) : M.St → Stmt → Bool
  | .ex c, .Expr e _ => !isComp e && ckE k c e
  | .set (.one i) c, .Assign [.Name x p] e _ => nmB k i (.Name x p) && ckE k c e
  | .set (.many is) c, .Assign [.Tuple es _ _] e _ => nmsB k is es && !isComp e && !isTupE e && ckE k c e
  | .setf o f c, .Assign [.Attribute eo x _] e _ => decide (x = k.fN f) && ckE k o eo && ckE k c e
  | .seti o i c, .Assign [.Subscript eo ei _] e _ => plainE ei && ckE k o eo && ckE k i ei && ckE k c e
  | .setTF is o f c, .Assign [.Tuple es _ _] e _ => (match lastAt es with
    | some (l, eo, x) => nmsB k is l && decide (x = k.fN f) && ckE k o eo
    | none => false) && !isComp e && !isTupE e && ckE k c e
  | .ret c, .Return (some e) _ => ckE k c e
  | .retn, .Return none _ => true
  | .if_ c a b, .If e ea eb _ => notIf e && ckE k c e && ckB k a ea && ckB k b eb
  | .for_ t it b, .For tg iter body [] _ => plainE iter && ckTg k t tg && ckIt k it tg iter && ckB k b body
  | .while_ c b, .While e body [] _ => notIf e && ckE k c e && ckB k b body
  | .raise c _, _ => isNone (k.T.exf c)
  | .pass, .Pass _ => true
  | .brk, .Break _ => true
  | .cnt, .Continue _ => true
  | _, _ => false
def ckB (k : Kx) : M.Bk → List Stmt → Bool
  | .nil, [] => true
  | .cons s b, st :: sts => ckS k s st && ckB k b sts
  | _, _ => false
end
section
variable {L : Lk} {T : M.Tab} {n : Nat}
theorem lastAt_ok : ∀ {es l : List Expr} {o : Expr} {x : Str}, lastAt es = some (l, o, x) → ∃ p, es = l ++ [.Attribute o x p]
  | [], _, _, _, e => by cases e
  | [a], l, o, x, e => by
    unfold lastAt at e
    split at e
    · cases e
    · rename_i q
      cases q
      cases e
      exact ⟨_, rfl⟩
    · rename_i q
      cases q
      cases e
  | a :: b :: r, l, o, x, e => by
    unfold lastAt at e
    split at e
    · cases e
    · rename_i q
      cases q
    · rename_i q
      cases q
      split at e
      · rename_i q
        cases e
        obtain ⟨p, q⟩ := lastAt_ok q
        exact ⟨p, by rw [q]; rfl⟩
      · cases e
theorem swaps_comp {elt : Expr} {gs : List Comprehension} {scope : Scope} {p p' : Pos} {x : Str} {l : Nat} {env : Env} :
    swapsWith (.ListComp elt gs scope p) (some (.Name x p')) l env = pure (env.blockKind == .function && env.kindOf x == some .local && p'.line == p.line && !(scope.names.any fun (n, k) => n == x && (k == .local || k == .cell))) := rfl
theorem ck_comp {k : Kx} {c : M.E} {e : Expr} (h : ckE k c e = true) (hc : isComp e = true) : (∃ elt gs scope p, e = .ListComp elt gs scope p) ∧ ((∃ a b d f, c = .comp a b d f) ∨ ∃ a b d f g, c = .comp2 a b d f g) := by
  unfold ckE at h
  split at h
  all_goals first | (exact absurd hc Bool.false_ne_true) | (exact absurd h Bool.false_ne_true) | (exact ⟨⟨_, _, _, _, rfl⟩, .inl ⟨_, _, _, _, rfl⟩⟩) | (exact ⟨⟨_, _, _, _, rfl⟩, .inr ⟨_, _, _, _, _, rfl⟩⟩)
variable {X : Cx} {W : WX} {k : Kx}
theorem sns_setc (O : Okk L T X W n k) {i : Nat} {x : Str} {p' pos : Pos} {c : M.E} {e : Expr} (hx : nmB k i (.Name x p') = true) (h : ckE k c e = true) : PS X (.Assign [.Name x p'] e pos) (TSv L T (M.callAt T n) W (.set (.one i) c)) := by
  have pe := (sE c k X W e O h).pe
  by_cases hc : isComp e = true
  · obtain ⟨⟨elt, gs, scope, p, rfl⟩, hk⟩ := ck_comp h hc
    · cases hb : (X.env.blockKind == .function && X.env.kindOf x == some .local && p'.line == p.line && !(scope.names.any fun (n, k) => n == x && (k == .local || k == .cell))) with
      | false => exact sns_set O.g.nd (O.nm hx) pe (by rw [swaps_comp, hb])
      | true =>
        have hsw : swapsWith (.ListComp elt gs scope p) (some (.Name x p')) pos.line X.env = pure true := by rw [swaps_comp, hb]
        have hl : X.env.scope.names.lookup x = some .local := by
          rw [Bool.and_eq_true, Bool.and_eq_true, Bool.and_eq_true] at hb
          exact eq_of_beq hb.1.1.2
        obtain ⟨y, q, e1, hi, _, _⟩ := O.nm hx
        cases e1
        rcases hk with ⟨celt, tg, it, c, rfl⟩ | ⟨celt, t1, i1, t2, i2, rfl⟩
        · skip
          obtain ⟨eelt, etg, eit, ifs, sc2, pos2, e2, h1, h2, h3, h4, h5, h6⟩ := inv_comp h
          cases e2
          exact psImp (ps_setLc O.calm O.g.nd hi hl hsw (sI it k X W etg eit O h2) (blkOk_by (own := ownN k (slotsT tg)) (by rw [O.N, O.sc]; exact h3)) (fun s H C cl fp => (O.blk).tg h4) (fun s H C cl fp => sO c (blkK k scope) _ Wf ifs O.blk h5) (fun s H C cl fp => (sE celt (blkK k scope) _ Wf elt O.blk h6).pe) (plain_fold h1))
            fun D τ H t => comp_op (own_slots _) (set_asg t)
        · skip
          obtain ⟨eelt, et1, ei1, et2, ei2, sc2, pos2, e2, h1, h2, h3, h4, h5, h6, h7, h8⟩ := inv_comp2 h
          cases e2
          exact psImp (ps_setLc2 (vs1 := slotsT t2) O.calm O.g.nd hi hl hsw (sI i1 k X W et1 ei1 O h3) (blkOk_by (own := ownN k (slotsT t2 ++ slotsT t1)) (by rw [O.N, O.sc]; exact h4)) (fun i hi => by rw [own_slots]; exact List.mem_append_left _ hi)
            (fun s H C cl fp => (O.blk).tg h5) (fun s H C cl fp => snts_no) (fun s H C cl fp => sI i2 (blkK k scope) _ Wf et2 ei2 O.blk h7) (fun s H C cl fp => (O.blk).tg h6) (fun s H C cl fp => snts_no)
            (fun s H C cl fp => (sE celt (blkK k scope) _ Wf elt O.blk h8).pe) (plain_fold h1) (fun env x => plain_fold h2 x)) fun D τ H t => comp2_op (own_slots _) rfl (set_asg t)
  · exact sns_set O.g.nd (O.nm hx) pe (swaps_no (by simpa using hc))
theorem inv_bk {s : M.St} {b : M.Bk} {l : List Stmt} (h : ckB k (.cons s b) l = true) : ∃ st sts, l = st :: sts ∧ ckS k s st = true ∧ ckB k b sts = true := by
  cases l with
  | nil => exact absurd h Bool.false_ne_true
  | cons st sts =>
    have h : (ckS k s st && ckB k b sts) = true := h
    rw [Bool.and_eq_true] at h
    exact ⟨st, sts, rfl, h.1, h.2⟩
mutual
theorem sS : ∀ (c : M.St) (st : Stmt), Okk L T X W n k → PassesOwn (model X.prog X.w) X.A X.env X.xe → ckS k c st = true → PS X st (TSv L T (M.callAt T n) W c)
  | .ex c, st, O, P, h => by
    unfold ckS at h
    split at h
    all_goals first | (exact absurd h Bool.false_ne_true) | (rename_i q; cases q; done) | skip
    rename_i q
    cases q
    simp only [Bool.and_eq_true, Bool.not_eq_true'] at h
    exact sns_ex (sE c k X W _ O h.2).pe h.1
  | .set (.one i) c, st, O, P, h => by
    unfold ckS at h
    split at h
    all_goals first | (exact absurd h Bool.false_ne_true) | (rename_i q; cases q; done) | skip
    rename_i q
    cases q
    rw [Bool.and_eq_true] at h
    exact sns_setc O h.1 h.2
  | .set (.many is) c, st, O, P, h => by
    unfold ckS at h
    split at h
    all_goals first | (exact absurd h Bool.false_ne_true) | (rename_i q; cases q; done) | skip
    rename_i e _ q
    cases q
    simp only [Bool.and_eq_true, Bool.not_eq_true'] at h
    refine sns_asg (pg_many O.g.hK O.calm O.g.nd (O.nms h.1.1.1)) (sE c k X W _ O h.2).pe h.1.1.2 fun vs u p q => ?_
    rw [q] at h
    exact absurd h.1.2 (fun z => Bool.noConfusion z)
  | .setf o f c, st, O, P, h => by
    unfold ckS at h
    split at h
    all_goals first | (exact absurd h Bool.false_ne_true) | (rename_i q; cases q; done) | skip
    rename_i q
    cases q
    simp only [Bool.and_eq_true, decide_eq_true_eq] at h
    exact sns_setf O.g (by rw [h.1.1, O.fN]) (sE o k X W _ O h.1.2).pe (sE c k X W _ O h.2).pe
  | .seti o i c, st, O, P, h => by
    unfold ckS at h
    split at h
    all_goals first | (exact absurd h Bool.false_ne_true) | (rename_i q; cases q; done) | skip
    rename_i q
    cases q
    simp only [Bool.and_eq_true] at h
    exact sns_seti O.u1 (sE o k X W _ O h.1.1.2).pe (sE i k X W _ O h.1.2).pe h.1.1.1 (sE c k X W _ O h.2).pe
  | .setTF is o f c, st, O, P, h => by
    unfold ckS at h
    split at h
    all_goals first | (exact absurd h Bool.false_ne_true) | (rename_i q; cases q; done) | skip
    rename_i q
    cases q
    simp only [Bool.and_eq_true, Bool.not_eq_true'] at h
    obtain ⟨⟨⟨h1, h2⟩, h3⟩, h4⟩ := h
    split at h1
    · rename_i e1
      obtain ⟨p, rfl⟩ := lastAt_ok e1
      simp only [Bool.and_eq_true, decide_eq_true_eq] at h1
      exact sns_setTF O (by rw [h1.1.2, O.fN]) h1.1.1 (sE o k X W _ O h1.2).pe (sE c k X W _ O h4).pe h2 h3
    · cases h1
  | .ret c, st, O, P, h => by
    unfold ckS at h
    split at h
    all_goals first | (exact absurd h Bool.false_ne_true) | (rename_i q; cases q; done) | skip
    rename_i q
    cases q
    exact sns_ret (sE c k X W _ O h).pe
  | .retn, st, O, P, h => by
    unfold ckS at h
    split at h
    all_goals first | (exact absurd h Bool.false_ne_true) | (rename_i q; cases q; done) | skip
    exact sns_retn
  | .if_ c a b, st, O, P, h => by
    unfold ckS at h
    split at h
    all_goals first | (exact absurd h Bool.false_ne_true) | (rename_i q; cases q; done) | skip
    rename_i q
    cases q
    simp only [Bool.and_eq_true] at h
    exact sns_if ((sE c k X W _ O h.1.1.2).pt h.1.1.1) (sB a _ O P h.1.2) (sB b _ O P h.2)
  | .for_ t it b, st, O, P, h => by
    unfold ckS at h
    split at h
    all_goals first | (exact absurd h Bool.false_ne_true) | (rename_i q; cases q; done) | skip
    rename_i q
    cases q
    simp only [Bool.and_eq_true] at h
    exact sns_for P O.calm (sI it k X W _ _ O h.1.2) (O.tg h.1.1.2) (sB b _ O P h.2) h.1.1.1
  | .while_ c b, st, O, P, h => by
    unfold ckS at h
    split at h
    all_goals first | (exact absurd h Bool.false_ne_true) | (rename_i q; cases q; done) | skip
    rename_i q
    cases q
    simp only [Bool.and_eq_true] at h
    exact sns_while P ((sE c k X W _ O h.1.2).pt h.1.1) (sB b _ O P h.2)
  | .raise c es, st, O, P, h => by
    unfold ckS at h
    rw [O.T] at h
    refine sns_raise ?_
    unfold isNone at h
    split at h
    · rename_i e
      exact e
    · cases h
  | .try_ b hs, st, O, P, h => by
    unfold ckS at h
    exact absurd h Bool.false_ne_true
  | .mat e cs, st, O, P, h => by
    unfold ckS at h
    exact absurd h Bool.false_ne_true
  | .pass, st, O, P, h => by
    unfold ckS at h
    split at h
    all_goals first | (exact absurd h Bool.false_ne_true) | (rename_i q; cases q; done) | skip
    exact sns_pass
  | .brk, st, O, P, h => by
    unfold ckS at h
    split at h
    all_goals first | (exact absurd h Bool.false_ne_true) | (rename_i q; cases q; done) | skip
    exact sns_brk
  | .cnt, st, O, P, h => by
    unfold ckS at h
    split at h
    all_goals first | (exact absurd h Bool.false_ne_true) | (rename_i q; cases q; done) | skip
    exact sns_cnt
theorem sB : ∀ (c : M.Bk) (l : List Stmt), Okk L T X W n k → PassesOwn (model X.prog X.w) X.A X.env X.xe → ckB k c l = true → PSs X l (TBv L T (M.callAt T n) W c)
  | .nil, l, O, P, h => by
    cases l with
    | nil => exact snb_nil
    | cons _ _ => exact absurd h Bool.false_ne_true
  | .cons s b, l, O, P, h => by
    obtain ⟨st, sts, rfl, h1, h2⟩ := inv_bk h
    exact snb_cons (sS s st O P h1) (sB b sts O P h2)
end
end
end Br
end

section
set_option Elab.async false
set_option linter.all false
set_option maxRecDepth 100000
set_option maxHeartbeats 1000000
/-! B23: the defs of a table do what M says, to every depth. -/
namespace Br
open PySem L2
/-- the text of a def -/
structure Tx where
  name : Str
  qual : Str
  params : Arguments
  body : List Stmt
  scope : Scope
  N : List Str
  ps : List Str
def kxOf (gi : Str → Gi) (T : M.Tab) (fN : Nat → Str) (t : Tx) : Kx := ⟨t.scope, t.N, fun _ => true, gi, T, fN⟩
/-- what is true of the program -/
structure Pg (L : Lk) (T : M.Tab) (P : Program) (w : World) (mg : Str → Option Value) (base : Heap) (gi : Str → Gi) : Prop where
  fx : Fx L T
  fn : ∀ f F, T.fn f = some F → ∃ t fd, FunD L.K t.name t.qual t.params t.body t.scope [] [] (L.fA f) fd ∧ FnScope t.N t.ps t.scope ∧ F.np = t.ps.length ∧ F.slots = t.N.length ∧ ckB (kxOf gi T L.fN t) F.body t.body = true ∧ Binds L.K fd t.ps [] ∧ t.ps = t.params.args.map (·.arg)
  gi : ∀ X : Cx, X.mg = mg → ∀ x, GiOk L X x (gi x)
  glb : ∀ X : Cx, X.prog = P → X.w = w → X.K = L.K → Glb L X
section
variable {L : Lk} {T : M.Tab} {P : Program} {w : World} {mg : Str → Option Value} {base : Heap} {gi : Str → Gi}
theorem srel_rep {m : Mp} {H : Hp} : ∀ k : Nat, srel (L := L) m H (List.replicate k none) (List.replicate k none)
  | 0 => rfl
  | k + 1 => ⟨none, _, rfl, trivial, srel_rep k⟩
theorem srel_start {m : Mp} {H : Hp} {k : Nat} : ∀ {lv : List M.Val} {vs : List V}, vrels L m H lv vs → srel (L := L) m H (lv.map some ++ List.replicate k none) (vs.map some ++ List.replicate k none)
  | [], vs, r => by
    cases (show vs = [] from r)
    exact srel_rep k
  | x :: xs, vs, r => by
    obtain ⟨y, t, rfl, r1, r2⟩ := r
    exact ⟨some y, _, rfl, r1, srel_start r2⟩
def Fns0 (L : Lk) (T : M.Tab) (P : Program) (w : World) (mg : Str → Option Value) (base : Heap) (n : Nat) : Prop :=
  ∀ f F, T.fn f = some F → ∃ fd ps, FnOk P w L.K mg base (CX P w) (2 * n) (L.fA f) fd ps (spec L T n f) ∧ Binds L.K fd ps [] ∧ PySem.W.keepIn L.K (.ref (L.fA f)) = true
def Fns1 (L : Lk) (T : M.Tab) (P : Program) (w : World) (mg : Str → Option Value) (base : Heap) (n : Nat) : Prop :=
  ∀ f F, T.fn f = some F → ∃ fd ps, FnOk P w L.K mg base (CX P w) (2 * n) (L.fA f) fd ps (spec L T n f) ∧ Binds L.K fd ps [] ∧ PySem.W.keepIn L.K (.ref (L.fA f)) = true ∧ (∃ oc od osl, L.K.lookup (L.fA f) = some ⟨oc, od, .func fd, osl⟩) ∧ ps = fd.params.args.map (·.arg)
theorem Fns1.weak {n : Nat} (h : Fns1 L T P w mg base n) : Fns0 L T P w mg base n := fun f F e => let ⟨fd, ps, a, b, c, _⟩ := h f F e; ⟨fd, ps, a, b, c⟩
theorem funD_look {K : PySem.W.Frag} {x qual : Str} {params : Arguments} {body : List Stmt} {scope : Scope} {dvs : List V} {kws : List (Str × V)} {f : Addr} {fd : FuncData} (h : FunD K x qual params body scope dvs kws f fd) : ∃ oc od osl, K.lookup f = some ⟨oc, od, .func fd, osl⟩ := by
  obtain ⟨oc, od, dV, kV, doc, pm, an, cdv, ct, osl, rfl, lk, _⟩ := h.ex
  exact ⟨oc, od, osl, lk⟩
theorem funD_par {K : PySem.W.Frag} {x qual : Str} {params : Arguments} {body : List Stmt} {scope : Scope} {dvs : List V} {kws : List (Str × V)} {f : Addr} {fd : FuncData} (h : FunD K x qual params body scope dvs kws f fd) : fd.params = params := by
  obtain ⟨oc, od, dV, kV, doc, pm, an, cdv, ct, osl, rfl, lk, _⟩ := h.ex
  rfl
theorem fns_all (G : Pg L T P w mg base gi) : ∀ n, Fns1 L T P w mg base n
  | 0 => fun f F e => by
    obtain ⟨t, fd, hf, hs, h1, h2, h3, h4, h5⟩ := G.fn f F e
    refine ⟨fd, t.ps, ⟨fun vs H Q E ⟨m, h, lv, _, _, p⟩ => p.elim, fun A outer s H args us vs Q E _ _ _ _ ⟨m, h, lv, _, _, p⟩ => p.elim⟩, h4, hf.kp, funD_look hf, by rw [funD_par hf]; exact h5⟩
  | n + 1 => fun f F e => by
    have ih := (fns_all G n).weak
    obtain ⟨t, fd, hf, hs, h1, h2, h3, h4, h5⟩ := G.fn f F e
    refine ⟨fd, t.ps, ?_, h4, hf.kp, funD_look hf, by rw [funD_par hf]; exact h5⟩
    refine FunD.ok (k := 2 * n + 1) hf hs (fun vs H Q E ⟨m, h, lv, rl, S, p⟩ => ?_) fun cdv A outer s H vs Q E hr ⟨m, h, lv, rl, S, p⟩ => ?_
    · unfold M.callAt at p
      rw [e] at p
      have p : Post (L := L) T (vrel L) E (M.runFn T (M.callAt T n) F lv h) m H Q := p
      unfold M.runFn at p
      split at p
      · rename_i q
        rw [← rl.length, q, h1]
      · exact p.elim
    · unfold M.callAt at p
      rw [e] at p
      have p : Post (L := L) T (vrel L) E (M.runFn T (M.callAt T n) F lv h) m H Q := p
      unfold M.runFn at p
      split at p
      · rename_i q
        have O : Okk L T (cxOf (CX P w) P w L.K mg base t.N t.qual t.scope (L.fA f) cdv A outer s H E) (fun cls d _ H => E cls d H) n (kxOf gi T L.fN t) :=
          { g := { hK := rfl, nd := hs.nd, room := hr, tk := takes_of rfl rfl rfl rfl, fx := G.fx, fns := ih, glb := fun X' a b c => G.glb X' a b c }
            sc := rfl, N := rfl, fn := rfl, calm := rfl, gi := G.gi _ rfl, T := rfl, fN := rfl }
        refine ⟨_, sB F.body t.body O (passes_of rfl) h3, m, h, lv.map some ++ List.replicate (F.slots - F.np) none, ?_, S, ?_⟩
        · have := srel_start (k := F.slots - F.np) rl
          unfold L2.start
          have e1 : F.slots - F.np = t.N.length - vs.length := by rw [h2, ← rl.length, q]
          rw [e1] at this ⊢
          exact this
        · revert p
          cases eb : M.evB T (M.callAt T n) F.body (lv.map some ++ List.replicate (F.slots - F.np) none) h with
          | nx σ1 h1 => exact fun p m' H' τ x S' hs' => p m' H' .non x S' rfl
          | ret v h1 => exact fun p => p
          | brk σ1 h1 => exact fun p => p.elim
          | cnt σ1 h1 => exact fun p => p.elim
          | exc c vs σ1 h1 => exact fun p m' H' d τ x S' hs' q => p m' H' d x S' q
          | bad => exact fun p => p.elim
      · exact p.elim
end
end Br
end

section
set_option Elab.async false
set_option linter.all false
set_option maxRecDepth 100000
set_option maxHeartbeats 1000000
/-! B24: plain parameters are bound in order. -/
namespace Br
open PySem L2
theorem fm_congr {α β : Type} {f g : α → Option β} : ∀ {l : List α}, (∀ a ∈ l, f a = g a) → l.filterMap f = l.filterMap g
  | [], _ => rfl
  | a :: l, h => by
    rw [List.filterMap_cons, List.filterMap_cons, h a (List.mem_cons_self ..), fm_congr fun b hb => h b (List.mem_cons_of_mem _ hb)]
theorem look_zip {α : Type} : ∀ {ps : List Str} {us : List α}, us.length = ps.length → ps.Nodup → ps.filterMap (fun n => ((ps.zip us).lookup n).map fun v => (n, v)) = ps.zip us ∧ ∀ n ∈ ps, ((ps.zip us).lookup n).isNone = false
  | [], us, h, _ => ⟨by simp, by simp⟩
  | p :: ps, [], h, _ => by cases h
  | p :: ps, u :: us, h, nd => by
    obtain ⟨n1, n2⟩ := List.nodup_cons.mp nd
    obtain ⟨h1, h2⟩ := look_zip (ps := ps) (us := us) (by simpa using h) n2
    have ne : ∀ n ∈ ps, ((p, u) :: ps.zip us).lookup n = (ps.zip us).lookup n := fun n hn => by
      rw [List.lookup_cons]
      have : (n == p) = false := beq_eq_false_iff_ne.mpr fun e => n1 (e ▸ hn)
      rw [this]
    constructor
    · rw [List.zip_cons_cons, List.filterMap_cons, List.lookup_cons, beq_self_eq_true]
      simp only [Option.map_some]
      congr 1
      refine Eq.trans (fm_congr fun n hn => ?_) h1
      rw [ne n hn]
    · intro n hn
      rw [List.zip_cons_cons]
      rcases List.mem_cons.mp hn with rfl | hn
      · rw [List.lookup_cons, beq_self_eq_true]
        rfl
      · rw [ne n hn]
        exact h2 n hn
theorem bind_plain {fd : FuncData} {args : List Arg} (hp : fd.params = ⟨[], args, none, [], [], none, []⟩) (hd : fd.defaults = .none) {us : List Value} (hl : us.length = args.length) (nd : (args.map (·.arg)).Nodup) :
    bindArgs fd ⟨us, []⟩ = pure ((args.map (·.arg)).zip us) := by
  obtain ⟨h1, h2⟩ := look_zip (ps := args.map (·.arg)) (us := us) (by rw [List.length_map]; exact hl) nd
  have hm : ((args.map (·.arg)).filter fun n => (((args.map (·.arg)).zip us).lookup n).isNone) = [] := by
    rw [List.filter_eq_nil_iff]
    intro n hn
    rw [h2 n hn]
    exact Bool.false_ne_true
  have hs : seqItems? Value.none = pure none := rfl
  unfold bindArgs
  simp [hp, hd, hl, hs, hm, h1]
  rw [if_neg]
  · rw [← List.filterMap_map, h1]
  · rw [hp]
    simp only [List.map_nil, List.nil_append, List.drop_nil, List.length_nil, Nat.sub_zero, List.take_length, hm, List.isEmpty_nil, Bool.not_true]
    exact Bool.false_ne_true
end Br
end

section
set_option Elab.async false
set_option linter.all false
set_option maxRecDepth 100000
set_option maxHeartbeats 1000000
/-! B25: a program's data; what of it is to be checked. -/
namespace Br
open PySem L2
structure Dat where
  code : List (Nat × M.Fn)
  defs : List (Nat × (He.DefD × List Str))
  meth : List ((Nat × Nat) × Nat)
  init : List (Nat × Nat)
  fld : List (Nat × Nat)
  cN : List (Nat × Str)
  fN : List Str
  gi : List (Str × Gi)
def Dat.T (d : Dat) : M.Tab where
  fn f := d.code.lookup f
  meth c m := d.meth.lookup (c, m)
  init c := d.init.lookup c
  prop _ _ := none
  exf _ := none
  sub _ _ := false
  fld c f := d.fld.contains (c, f)
def Dat.cn (d : Dat) (c : Nat) : Str := (d.cN.lookup c).getD Str.empty
def Dat.fn (d : Dat) (i : Nat) : Str := match d.fN[i]? with
  | some s => s
  | none => ⟨#[0, i]⟩
def Dat.at_ (d : Dat) (f : Nat) : Str × Option Str := match d.defs.lookup f with
  | some x => x.1.at_
  | none => (Str.empty, none)
def Dat.giF (d : Dat) (x : Str) : Gi := (d.gi.lookup x).getD .no
def Dat.L (d : Dat) (K : PySem.W.Frag) (a : Addr) : Lk where
  K := K
  cA c := He.ga K (d.cn c)
  gA n := if n = 6 then a else 0
  fN := d.fn
  fA f := He.fAd K (d.at_ f)
  hg _ := false
def scopeB (N P : List Str) (sc : Scope) : Bool :=
  (match sc.kind with | .function => true | _ => false) && !sc.isCoroutine && !sc.isGenerator && decide N.Nodup && decide (N.take P.length = P) &&
    (P.all fun x => decide (sc.names.lookup x = some .local) || decide (sc.names.lookup x = some .cell)) && (sc.names.all fun y => match y.2 with | .free => false | _ => true)
theorem scopeB_ok {N P : List Str} {sc : Scope} (h : scopeB N P sc = true) : FnScope N P sc := by
  unfold scopeB at h
  simp only [Bool.and_eq_true, Bool.not_eq_true', decide_eq_true_eq] at h
  obtain ⟨⟨⟨⟨⟨⟨h1, h2⟩, h3⟩, h4⟩, h5⟩, h6⟩, h7⟩ := h
  refine ⟨?_, h2, h3, h4, h5, fun x hx => ?_, fun y hy e => ?_⟩
  · split at h1
    · assumption
    · cases h1
  · have := List.all_eq_true.mp h6 x hx
    rw [Bool.or_eq_true, decide_eq_true_eq, decide_eq_true_eq] at this
    exact this
  · have := List.all_eq_true.mp h7 y hy
    rw [e] at this
    cases this
def plainB : Arguments → Bool
  | ⟨[], _, none, [], [], none, []⟩ => true
  | _ => false
def argN (a : Arguments) : List Str := a.args.map (·.arg)
def defB (d : Dat) (f : Nat) (F : M.Fn) : Bool := match d.defs.lookup f with
  | some (x, N) => plainB x.params && decide (argN x.params).Nodup && decide (F.np = (argN x.params).length) && decide (F.slots = N.length) && scopeB N (argN x.params) x.scope &&
      x.dfl.isEmpty && x.kwd.isEmpty && ckB ⟨x.scope, N, fun _ => true, d.giF, d.T, d.fn⟩ F.body x.body
  | none => false
def giS (d : Dat) (x : Str) : Gi → Bool
  | .fn f => decide (d.at_ f = (x, none))
  | .cls c => decide (d.cn c = x)
  | .tup vs => M.isStat vs && vs.all M.flat
  | .tbl _ => false
  | _ => true
/-- what does not need the heap -/
def Dat.ok (d : Dat) : Bool :=
  decide d.fN.Nodup && (d.fN.all fun s => decide (s.cps[0]? ≠ some 0)) && (d.code.all fun p => defB d p.1 p.2) && (d.init.all fun p => decide (d.at_ p.2 = (d.cn p.1, some ("__init__" : Str)))) &&
    (d.meth.all fun p => decide (d.at_ p.2 = (d.cn p.1.1, some (d.fn p.1.2)))) && d.gi.all fun p => giS d p.1 p.2
def dvOf : M.Val → He.Dv
  | .int i => .int i
  | .str s => .str (toS s)
  | .bl b => .bl b
  | _ => .non
def giK (d : Dat) (K : PySem.W.Frag) (x : Str) : Gi → Bool
  | .no => true
  | .bltin => (He.Fa.free x).ok K
  | .int i => (He.Fa.int x i).ok K
  | .str s => (He.Fa.str x (toS s)).ok K
  | .tup vs => (He.Fa.glo x).ok K && He.tupB K x (vs.map dvOf)
  | .tbl _ => false
  | .cls _ => (He.Fa.glo x).ok K
  | .fn _ => (He.Fa.glo x).ok K
/-- what the heap has to show -/
def Dat.exB (d : Dat) (K : PySem.W.Frag) : Bool :=
  (d.init.all fun p => (He.Fa.cls (d.cn p.1)).ok K && (He.Fa.mkr (d.cn p.1)).ok K) && (d.meth.all fun p => (He.Fa.meth (d.cn p.1.1) (d.fn p.1.2)).ok K) && (d.fld.all fun p => (He.Fa.noat (d.cn p.1) (d.fn p.2)).ok K) && d.gi.all fun p => giK d K p.1 p.2
def Dat.fnL (d : Dat) : List He.DefD := d.defs.map fun p => p.2.1
theorem look_mem {α β : Type} [BEq α] [LawfulBEq α] : ∀ {l : List (α × β)} {a : α} {b : β}, l.lookup a = some b → (a, b) ∈ l
  | [], _, _, h => by cases h
  | (x, y) :: r, a, b, h => by
    rw [List.lookup_cons] at h
    by_cases e : (a == x) = true
    · rw [e] at h
      cases h
      rw [eq_of_beq e]
      exact List.mem_cons_self ..
    · rw [Bool.not_eq_true] at e
      rw [e] at h
      exact List.mem_cons_of_mem _ (look_mem h)
theorem fn_inj {d : Dat} (h1 : d.fN.Nodup) (h2 : ∀ s ∈ d.fN, s.cps[0]? ≠ some 0) : ∀ a b, d.fn a = d.fn b → a = b := by
  intro a b e
  unfold Dat.fn at e
  cases ea : d.fN[a]? with
  | some s =>
    rw [ea] at e
    cases eb : d.fN[b]? with
    | some z =>
      rw [eb] at e
      have e : s = z := e
      subst e
      exact nodup_ix h1 ea eb
    | none =>
      rw [eb] at e
      have e : s = ⟨#[0, b]⟩ := e
      exact absurd (by rw [e]; rfl) (h2 s (List.mem_of_getElem? ea))
  | none =>
    rw [ea] at e
    cases eb : d.fN[b]? with
    | some z =>
      rw [eb] at e
      have e : (⟨#[0, a]⟩ : Str) = z := e
      exact absurd (by rw [← e]; rfl) (h2 z (List.mem_of_getElem? eb))
    | none =>
      rw [eb] at e
      have e : (⟨#[0, a]⟩ : Str) = ⟨#[0, b]⟩ := e
      injection e with e
      have : (#[0, a] : Array Nat).toList = (#[0, b] : Array Nat).toList := congrArg Array.toList e
      simpa using this
theorem flat_vals {K : PySem.W.Frag} {L : Lk} {m : Mp} {H : Hp} : ∀ {vs : List M.Val}, vs.all M.flat = true → vrels L m H vs ((vs.map dvOf).map (He.Dv.v K))
  | [], _ => rfl
  | v :: vs, h => by
    rw [List.all_cons, Bool.and_eq_true] at h
    refine ⟨_, _, rfl, ?_, flat_vals h.2⟩
    cases v <;> first | rfl | (exact absurd h.1 Bool.false_ne_true)
theorem tupK_of {K : PySem.W.Frag} {x : Str} {vs : List He.Dv} (h : He.tupB K x vs = true) : TupK K (He.ga K x) (vs.map (He.Dv.v K)) := by
  unfold He.tupB at h
  split at h
  · rename_i c od its n osl e
    simp only [Bool.and_eq_true, decide_eq_true_eq] at h
    obtain ⟨h1, h2, h3⟩ := h
    subst h1
    exact ⟨_, its, n, e, rfl, rfl, h2, He.relAll_ok h3⟩
  · cases h
end Br
end

section
set_option Elab.async false
set_option linter.all false
set_option maxRecDepth 100000
set_option maxHeartbeats 1000000
/-! B26: from the data to the program's facts; the law's end. -/
namespace Br
open PySem L2
theorem plainB_ok {a : Arguments} (h : plainB a = true) : a = ⟨[], a.args, none, [], [], none, []⟩ := by
  unfold plainB at h
  split at h
  · rfl
  · cases h
theorem Dat.pg {d : Dat} (ok : d.ok = true) {K : PySem.W.Frag} {hp base : Heap} {mg : Str → Option Value} {w : World} {P : Program} (a : Addr) (X : K.In hp) (G : hp.Ns mainGlobals mg) (ex : d.exB K = true) {fa : List He.Fa} (c : He.SaysD fa d.fnL K) :
    Pg (d.L K a) d.T P w mg base d.giF := by
  unfold Dat.ok at ok
  simp only [Bool.and_eq_true, decide_eq_true_eq] at ok
  obtain ⟨⟨⟨⟨⟨o1, o2⟩, o3⟩, o4⟩, o5⟩, o6⟩ := ok
  unfold Dat.exB at ex
  simp only [Bool.and_eq_true] at ex
  obtain ⟨⟨⟨e1, e2⟩, e3⟩, e4⟩ := ex
  have hinit : ∀ c f, d.T.init c = some f → (c, f) ∈ d.init := fun c f e => look_mem e
  have hmeth : ∀ c m f, d.T.meth c m = some f → ((c, m), f) ∈ d.meth := fun c m f e => look_mem e
  refine { fx := { cls := fun c f e => ?_, mks := fun c f e => ?_, meth := fun c m f e => ?_, prop := fun c f g e => (by cases e), noat := fun c f e => ?_, inj := ?_ }, fn := fun f F e => ?_, gi := fun X' hmg x => ?_, glb := fun X' _ _ _ => ?_ }
  · have := List.all_eq_true.mp e1 _ (hinit c f e)
    rw [Bool.and_eq_true] at this
    exact He.cls_ok this.1
  · have := List.all_eq_true.mp e1 _ (hinit c f e)
    rw [Bool.and_eq_true] at this
    have h2 := of_decide_eq_true (List.all_eq_true.mp o4 _ (hinit c f e))
    have h3 := He.mkr_ok this.2
    show Mk K (He.ga K (d.cn c)) (He.fAd K (d.at_ f))
    rw [h2]
    exact h3
  · have := List.all_eq_true.mp e2 _ (hmeth c m f e)
    have h2 := of_decide_eq_true (List.all_eq_true.mp o5 _ (hmeth c m f e))
    have h3 := He.meth_ok this
    show Meth K (He.ga K (d.cn c)) (d.fn m) (He.fAd K (d.at_ f))
    rw [h2]
    exact h3
  · have hm : (c, f) ∈ d.fld := by
      have e : d.fld.contains (c, f) = true := e
      exact List.contains_iff_mem.mp e
    exact He.noat_ok (List.all_eq_true.mp e3 _ hm)
  · exact fn_inj o1 fun s hs => of_decide_eq_true (List.all_eq_true.mp o2 s hs)
  · have hm : (f, F) ∈ d.code := look_mem e
    have hd := List.all_eq_true.mp o3 _ hm
    unfold defB at hd
    simp only at hd
    split at hd
    · rename_i x N e5
      simp only [Bool.and_eq_true, decide_eq_true_eq, List.isEmpty_iff] at hd
      obtain ⟨⟨⟨⟨⟨⟨⟨h1, h2⟩, h3⟩, h4⟩, h5⟩, h6⟩, h7⟩, h8⟩ := hd
      have hx : x ∈ d.fnL := List.mem_map.mpr ⟨_, look_mem e5, rfl⟩
      obtain ⟨fd, F0⟩ := c.defs hx
      have hA : (d.L K a).fA f = He.fAd K x.at_ := by
        show He.fAd K (d.at_ f) = _
        unfold Dat.at_
        rw [e5]
      have F1 : FunD K x.name x.qual x.params x.body x.scope [] [] ((d.L K a).fA f) fd := by
        rw [hA]
        unfold He.DefD.dvs He.DefD.kws at F0
        rw [h6, h7] at F0
        exact F0
      refine ⟨⟨x.name, x.qual, x.params, x.body, x.scope, N, argN x.params⟩, fd, F1, scopeB_ok h5, h3, h4, h8, ?_, rfl⟩
      refine F1.bindsN fun kV doc pm an cdv ct us hl => ?_
      refine bind_plain (args := x.params.args) (plainB_ok h1) rfl ?_ h2
      unfold argN at hl
      rw [List.length_map] at hl
      exact hl
    · cases hd
  · unfold Dat.giF
    cases el : d.gi.lookup x with
    | none => trivial
    | some g =>
      have hs := List.all_eq_true.mp o6 _ (look_mem el)
      have hk := List.all_eq_true.mp e4 _ (look_mem el)
      show GiOk (d.L K a) X' x g
      cases g with
      | no => trivial
      | bltin => show X'.mg x = none; rw [hmg]; exact He.free_ok X G hk
      | int i => show ∃ t, X'.mg x = _; rw [hmg]; exact He.int_ok X G hk
      | str s => show ∃ t, X'.mg x = _; rw [hmg]; exact He.str_ok X G hk
      | tup vs =>
        have hs : (M.isStat vs && vs.all M.flat) = true := hs
        have hk : ((He.Fa.glo x).ok K && He.tupB K x (vs.map dvOf)) = true := hk
        rw [Bool.and_eq_true] at hs hk
        exact ⟨He.ga K x, _, by rw [hmg]; exact He.glo_ok X G hk.1, tupK_of hk.2, hs.1, fun m H => flat_vals hs.2⟩
      | tbl n => cases hs
      | cls c =>
        have hs : d.cn c = x := of_decide_eq_true hs
        show X'.mg x = some (.ref (He.ga K (d.cn c)))
        rw [hmg, hs]
        exact He.glo_ok X G hk
      | fn f =>
        have hs : d.at_ f = (x, none) := of_decide_eq_true hs
        show X'.mg x = some (.ref (He.fAd K (d.at_ f)))
        rw [hmg, hs]
        exact He.glo_ok X G hk
  · exact { in_ := fun pins s σ H x y v u Q I rx ry ⟨n, o, k, r, m, _, hn, _⟩ => absurd hn Bool.false_ne_true
            notIn := fun pins s σ H x y v u Q I rx ry ⟨n, o, k, r, m, _, hn, _⟩ => absurd hn Bool.false_ne_true
            item := fun value slice pins s σ H x y v u Q I rx ry ⟨n, o, k, r, m, _, hn, _⟩ _ => absurd hn Bool.false_ne_true
            typ := fun n _ hn _ => absurd hn Bool.false_ne_true
            get := fun pins s σ H x xs v us Q I rx rxs ⟨n, o, k, r, m, y, d, _, hn, _⟩ => absurd hn Bool.false_ne_true }
theorem Dat.glo_law {d : Dat} (ok : d.ok = true) {K : PySem.W.Frag} (ex : d.exB K = true) {x : Str} {f : Nat} (h : d.gi.lookup x = some (.fn f)) : (He.Fa.glo x).ok K = true := by
  unfold Dat.exB at ex
  simp only [Bool.and_eq_true] at ex
  exact List.all_eq_true.mp ex.2 _ (look_mem h)
/-- the exceptions, whatever the world -/
def CXw (P : Program) : CXT := fun outer H s E e s' => ∃ w, CX P w outer H s E e s'
theorem cxw_none {P : Program} : ∀ (H : Hp) (s : Shared) (e : Value) (s' : Shared), CXw P [] H s (fun _ _ _ => False) e s' → False := fun _ _ _ _ ⟨_, _, _, _, _, _, _, _, _, _, _, _, _, z⟩ => z
theorem FnOk.cxw {P : Program} {w : World} {K : PySem.W.Frag} {mg : Str → Option Value} {base : Heap} {k : Nat} {f : Addr} {fd : FuncData} {ps : List Str} {sp : Sp} (F : FnOk P w K mg base (CX P w) k f fd ps sp) : FnOk P w K mg base (CXw P) k f fd ps sp where
  len := F.len
  run := fun A outer s H args us vs Q E hr e0 b r h => codeAny_mono (F.run A outer s H args us vs Q E hr e0 b r h) fun r s' q => by
    cases r with
    | error e => exact ⟨w, q⟩
    | ok fl => cases fl <;> exact q
def lawSp (d : Dat) (K : PySem.W.Frag) (D f : Nat) : Sp := fun vs H Q E => ∃ a, vs = [.ref a] ∧ spec (d.L K a) d.T D f [.ref a] H Q E
theorem Dat.law {d : Dat} (ok : d.ok = true) {K : PySem.W.Frag} {hp : Heap} {mg : Str → Option Value} {w : World} {P : Program} (X : K.In hp) (G : hp.Ns mainGlobals mg) (ex : d.exB K = true) {fa : List He.Fa} (c : He.SaysD fa d.fnL K) {D f : Nat} {F : M.Fn} (hf : d.T.fn f = some F) {x : He.DefD} {N : List Str} (hx : d.defs.lookup f = some (x, N)) {y : Str} (hy : argN x.params = [y])
    (plain : ∀ ns : List Int, ns.length ≤ 63 → ∃ h', M.callAt d.T D f [.glb 6] ⟨#[], ns.map .int⟩ = .ok (.bl true) h') :
    ∃ fd : FuncData, (∀ (s : Shared) (u : Value), BindsTo s fd ⟨[u], []⟩ [(y, u)]) ∧
      (∀ (H : Hp) (a : Addr) (ns : List Int), ns.length ≤ 63 → Only H → SqL K H a (ns.map V.int) → lawSp d K D f [.ref a] H (fun v _ => v = .bl true) fun _ _ _ => False) ∧
        ∀ base : Heap, K.In base → base.Ns mainGlobals mg → FnOk P w K mg base (CXw P) (2 * D) (He.fAd K (d.at_ f)) fd [y] (lawSp d K D f) := by
  have hmem : x ∈ d.fnL := List.mem_map.mpr ⟨_, look_mem hx, rfl⟩
  have hd : defB d f F = true := by
    unfold Dat.ok at ok
    simp only [Bool.and_eq_true, decide_eq_true_eq] at ok
    exact List.all_eq_true.mp ok.1.1.1.2 _ (look_mem hf)
  obtain ⟨fd, F0⟩ := c.defs hmem
  have hA : d.at_ f = x.at_ := by
    unfold Dat.at_
    rw [hx]
  unfold defB at hd
  rw [hx] at hd
  simp only [Bool.and_eq_true, decide_eq_true_eq, List.isEmpty_iff] at hd
  obtain ⟨⟨⟨⟨⟨⟨⟨h1, h2⟩, h3⟩, h4⟩, h5⟩, h6⟩, h7⟩, h8⟩ := hd
  have F1 : FunD K x.name x.qual x.params x.body x.scope [] [] (He.fAd K (d.at_ f)) fd := by
    rw [hA]
    unfold He.DefD.dvs He.DefD.kws at F0
    rw [h6, h7] at F0
    exact F0
  have hbind : ∀ (kV doc pm : Value) (an : Option Addr) (cdv ct : Value) (us : List Value), us.length = [y].length → bindArgs (PySem.W.fnOf x.name x.qual x.params x.body x.scope .none kV doc pm an cdv ct) ⟨us, []⟩ = pure ([y].zip us) := by
    intro kV doc pm an cdv ct us hl
    rw [← hy]
    refine bind_plain (args := x.params.args) (plainB_ok h1) rfl ?_ h2
    rw [← hy] at hl
    unfold argN at hl
    rw [List.length_map] at hl
    exact hl
  refine ⟨fd, fun s u => F1.bindsA hbind s [u] rfl, fun H a ns hl ho hs => ?_, fun base KB GB => ?_⟩
  · refine ⟨a, rfl, fun _ => none, ⟨#[], ns.map .int⟩, [.glb 6], ⟨_, [], rfl, ⟨rfl, .inl rfl⟩, rfl⟩, ⟨fun _ _ e => (by cases e), fun _ _ _ e => (by cases e), ns.map V.int, ?_, ?_⟩, ?_⟩
    · rcases hs with (hs | ⟨o, hs⟩) | hs
      · rcases ho a with q | ⟨o, xs, q⟩
        · rw [hs] at q; cases q
        · rw [hs] at q; cases q
      · exact .inl ⟨o, hs⟩
      · exact .inr hs
    · clear hl hs
      induction ns with
      | nil => rfl
      | cons n ns ih => exact ⟨_, _, rfl, rfl, ih⟩
    · obtain ⟨h', e⟩ := plain ns hl
      rw [e]
      exact fun m' H' x _ _ r => r
  · refine FnOk.cxw ⟨fun vs H Q E ⟨a, e, _⟩ => by rw [e]; rfl, fun A outer s H args us vs Q E hr e0 b r ⟨a, e, sp⟩ => ?_⟩
    subst e
    obtain ⟨fd', ps', ok', _, _, ⟨oc, od, osl, lk⟩, hps⟩ := fns_all (d.pg ok a KB GB ex c (w := w) (P := P) (base := base)) D f F hf
    obtain ⟨oc2, od2, osl2, lk2⟩ := funD_look F1
    have e1 : some (Obj.mk oc od (.func fd') osl) = some (Obj.mk oc2 od2 (.func fd) osl2) := lk.symm.trans lk2
    cases e1
    have hps : ps' = [y] := by
      rw [hps, funD_par F1]
      exact hy
    subst hps
    exact ok'.run A outer s H args us [.ref a] Q E hr e0 b r sp
end Br
end

section
set_option linter.all false
namespace M
open E Es It Tg St Bk Cs HE Hd

/-- Air.__init__ -/
def c_Air___init__ : Fn := ⟨2, 2, (.cons (.setf (.loc 0) 153 (.loc 1))
    (.cons (.setf (.loc 0) 97 (.dnew true))
    (.cons (.setf (.loc 0) 62 (.dnew true))
    .nil)))⟩
/-- Air.carry -/
def c_Air_carry : Fn := ⟨5, 8, (.cons (.set (.one 5) (.tup (.cons (.loc 1) (.cons (.loc 2) .nil))))
    (.cons (.set (.one 6) (.bm .get (.fld (.loc 0) 97) (.cons (.loc 5) (.cons (.cint 0) .nil))))
    (.cons (.set (.one 7) (.bm .get (.fld (.loc 0) 62) (.cons (.loc 5) (.cons (.lst .nil) .nil))))
    (.cons (.seti (.fld (.loc 0) 97) (.loc 5) (.blt .max (.cons (.bin .sub (.loc 6) (.cint 1)) (.cons (.cint 0) .nil))))
    (.cons (.seti (.fld (.loc 0) 62) (.loc 5) (.lst .nil))
    (.cons (.if_ (.or_ (.cmp .gt (.loc 6) (.cint 0)) (.nt (.meth (.fld (.loc 0) 153) 71 (.cons (.loc 1) (.cons (.loc 3) .nil))))) (.cons (.ret .cnon)
    .nil) .nil)
    (.cons (.if_ (.cmp .eq (.loc 7) (.lst .nil)) (.cons (.ret (.loc 4))
    .nil) .nil)
    (.cons (.ret (.call 245 (.cons (.loc 4) (.cons (.loc 7) .nil)) []))
    .nil))))))))⟩
/-- Air.harm -/
def c_Air_harm : Fn := ⟨4, 4, (.cons (.seti (.fld (.loc 0) 62) (.tup (.cons (.loc 1) (.cons (.loc 2) .nil))) (.blt .list (.cons (.loc 3) .nil)))
    .nil)⟩
/-- Air.lose -/
def c_Air_lose : Fn := ⟨4, 4, (.cons (.seti (.fld (.loc 0) 97) (.tup (.cons (.loc 1) (.cons (.loc 2) .nil))) (.loc 3))
    .nil)⟩
/-- Signals.__init__ -/
def c_Signals___init__ : Fn := ⟨3, 4, (.cons (.setf (.loc 0) 138 (.comp (.bin .mul (.lst (.cons (.cint 0) .nil)) (.loc 2)) (.one 3) (.range1 (.loc 1)) .no))
    .nil)⟩
/-- Signals.find -/
def c_Signals_find : Fn := ⟨3, 3, (.cons (.if_ (.or_ (.cmp .lt (.loc 1) (.cint 0)) (.cmp .ge (.loc 1) (.blt .len (.cons (.fld (.loc 0) 138) .nil)))) (.cons (.raise 12 (.cons (.cstr [112, 104, 111, 110, 101]) (.cons (.loc 1) .nil)))
    .nil) .nil)
    (.cons (.if_ (.or_ (.cmp .lt (.loc 2) (.cint 0)) (.cmp .ge (.loc 2) (.blt .len (.cons (.ix (.fld (.loc 0) 138) (.loc 1)) .nil)))) (.cons (.raise 12 (.cons (.cstr [99, 101, 108, 108]) (.cons (.loc 2) .nil)))
    .nil) .nil)
    .nil))⟩
/-- Signals.hears -/
def c_Signals_hears : Fn := ⟨3, 3, (.cons (.ret (.cmp .ge (.meth (.loc 0) 89 (.cons (.loc 1) (.cons (.loc 2) .nil))) (.cval (.int 5))))
    .nil)⟩
/-- Signals.level -/
def c_Signals_level : Fn := ⟨3, 3, (.cons (.ex (.meth (.loc 0) 59 (.cons (.loc 1) (.cons (.loc 2) .nil))))
    (.cons (.ret (.ix (.ix (.fld (.loc 0) 138) (.loc 1)) (.loc 2)))
    .nil))⟩
/-- Signals.set_level -/
def c_Signals_set_level : Fn := ⟨4, 5, (.cons (.ex (.meth (.loc 0) 59 (.cons (.loc 1) (.cons (.loc 2) .nil))))
    (.cons (.if_ (.or_ (.cmp .lt (.loc 3) (.cint 0)) (.cmp .gt (.loc 3) (.cint 63))) (.cons (.raise 14 (.cons (.cstr [108, 101, 118, 101, 108]) .nil))
    .nil) .nil)
    (.cons (.set (.one 4) (.ix (.ix (.fld (.loc 0) 138) (.loc 1)) (.loc 2)))
    (.cons (.seti (.ix (.fld (.loc 0) 138) (.loc 1)) (.loc 2) (.loc 3))
    (.cons (.ret (.loc 4))
    .nil)))))⟩
/-- advance -/
def c_advance : Fn := ⟨3, 12, (.cons (.set (.one 3) (.bin .mul (.lst (.cons .cnon .nil)) (.cval (.int 16))))
    (.cons (.for_ (.many [4, 5, 6, 7, 8]) (.over (.loc 1)) (.cons (.if_ (.is_ (.ix (.loc 0) (.loc 4)) .non false) (.cons (.set (.many [9, 11]) (.ix (.loc 0) (.loc 4)))
    (.cons (.set (.one 9) (.bin .add (.bin .add (.loc 9) (.bin .bxor (.loc 6) (.ix (.loc 2) (.cint 0)))) (.bin .bxor (.loc 7) (.ix (.loc 2) (.cint 1)))))
    (.cons (.set (.one 10) (.tup (.cons (.loc 9) (.cons (.bin .add (.bin .mul (.cint 2) (.loc 11)) (.loc 5)) .nil))))
    (.cons (.if_ (.or_ (.is_ (.ix (.loc 3) (.loc 8)) .non true) (.cmp .lt (.loc 10) (.ix (.loc 3) (.loc 8)))) (.cons (.seti (.loc 3) (.loc 8) (.loc 10))
    .nil) .nil)
    .nil)))) .nil)
    .nil))
    (.cons (.ret (.loc 3))
    .nil)))⟩
/-- bits_number -/
def c_bits_number : Fn := ⟨1, 3, (.cons (.set (.one 1) (.cint 0))
    (.cons (.for_ (.one 2) (.over (.loc 0)) (.cons (.set (.one 1) (.bin .add (.bin .mul (.cint 2) (.loc 1)) (.loc 2)))
    .nil))
    (.cons (.ret (.loc 1))
    .nil)))⟩
/-- bits_octets -/
def c_bits_octets : Fn := ⟨1, 4, (.cons (.if_ (.cmp .ne (.bin .mod (.blt .len (.cons (.loc 0) .nil)) (.cint 8)) (.cint 0)) (.cons (.raise 1 .nil)
    .nil) .nil)
    (.cons (.set (.one 1) (.comp (.blt .revList (.cons (.sl (.loc 0) (.yes (.loc 2)) (.yes (.bin .add (.loc 2) (.cint 8)))) .nil)) (.one 2) (.range3 (.cint 0) (.blt .len (.cons (.loc 0) .nil)) (.cint 8)) .no))
    (.cons (.ret (.blt .tuple (.cons (.comp (.call 191 (.cons (.loc 3) .nil) []) (.one 3) (.over (.loc 1)) .no) .nil)))
    .nil)))⟩
/-- code_block -/
def c_code_block : Fn := ⟨1, 7, (.cons (.set (.one 1) (.call 221 (.cons (.loc 0) .nil) []))
    (.cons (.set (.one 2) (.call 200 (.cons (.bin .add (.bin .add (.loc 1) (.call 227 (.cons (.loc 1) (.cons (.cval (.tup [(.int 1), (.int 0), (.int 0), (.int 0), (.int 0), (.int 0), (.int 0), (.int 0), (.int 0), (.int 0), (.int 0), (.int 0), (.int 0), (.int 0), (.int 1), (.int 0), (.int 0), (.int 1), (.int 0), (.int 0), (.int 0), (.int 0), (.int 0), (.int 1), (.int 0), (.int 0), (.int 0), (.int 0), (.int 0), (.int 0), (.int 0), (.int 0), (.int 0), (.int 0), (.int 0), (.int 0), (.int 0), (.int 1), (.int 0), (.int 0), (.int 1)])) .nil)) [])) (.lst (.cons (.cint 0) (.cons (.cint 0) (.cons (.cint 0) (.cons (.cint 0) .nil)))))) .nil) []))
    (.cons (.set (.one 3) (.comp (.bin .mul (.lst (.cons (.cint 0) .nil)) (.cval (.int 114))) (.one 6) (.range1 (.cval (.int 4))) .no))
    (.cons (.for_ (.one 4) (.range1 (.cval (.int 456))) (.cons (.set (.one 5) (.ix (.loc 3) (.bin .mod (.loc 4) (.cval (.int 4)))))
    (.cons (.seti (.loc 5) (.call 228 (.cons (.loc 4) .nil) []) (.ix (.loc 2) (.loc 4)))
    .nil)))
    (.cons (.ret (.loc 3))
    .nil)))))⟩
/-- convolve -/
def c_convolve : Fn := ⟨1, 4, (.cons (.set (.one 1) (.lst .nil))
    (.cons (.set (.one 2) (.cint 0))
    (.cons (.for_ (.one 3) (.over (.loc 0)) (.cons (.ex (.bm .extend (.loc 1) (.cons (.call 225 (.cons (.loc 2) (.cons (.loc 3) .nil)) []) .nil)))
    (.cons (.set (.one 2) (.bin .add (.bin .mul (.cint 8) (.loc 3)) (.bin .fdiv (.loc 2) (.cint 2))))
    .nil)))
    (.cons (.ret (.loc 1))
    .nil))))⟩
/-- is_right -/
def c_is_right : Fn := ⟨3, 3, (.cons (.ret (.cmp .eq (.blt .list (.cons (.loc 1) .nil)) (.call 227 (.cons (.loc 0) (.cons (.loc 2) .nil)) [])))
    .nil)⟩
/-- nearest -/
def c_nearest : Fn := ⟨1, 10, (.cons (.set (.one 1) (.bin .fdiv (.blt .len (.cons (.loc 0) .nil)) (.cint 2)))
    (.cons (.if_ (.or_ (.cmp .eq (.bin .mod (.blt .len (.cons (.loc 0) .nil)) (.cint 2)) (.cint 1)) (.cmp .lt (.loc 1) (.cval (.int 4)))) (.cons (.raise 1 .nil)
    .nil) .nil)
    (.cons (.set (.one 2) (.call 255 .nil []))
    (.cons (.set (.one 3) (.comp (.loc 9) (.one 9) (.over (.loc 2)) (.yes (.cmp .eq (.ix (.loc 9) (.cint 1)) (.cint 0)))))
    (.cons (.set (.one 4) (.bin .mul (.lst (.cons .cnon .nil)) (.cval (.int 16))))
    (.cons (.seti (.loc 4) (.cint 0) (.tup (.cons (.cint 0) (.cons (.cint 0) .nil))))
    (.cons (.for_ (.one 5) (.range1 (.loc 1)) (.cons (.set (.one 6) (.ife (.cmp .lt (.loc 5) (.bin .sub (.loc 1) (.cval (.int 4)))) (.loc 2) (.loc 3)))
    (.cons (.set (.one 4) (.call 186 (.cons (.loc 4) (.cons (.loc 6) (.cons (.tup (.cons (.ix (.loc 0) (.bin .mul (.cint 2) (.loc 5))) (.cons (.ix (.loc 0) (.bin .add (.bin .mul (.cint 2) (.loc 5)) (.cint 1))) .nil))) .nil))) []))
    .nil)))
    (.cons (.set (.many [7, 8]) (.ix (.loc 4) (.cint 0)))
    (.cons (.ret (.tup (.cons (.comp (.bin .band (.bin .shr (.loc 8) (.bin .sub (.bin .sub (.loc 1) (.cint 1)) (.loc 5))) (.cint 1)) (.one 5) (.range1 (.loc 1)) .no) (.cons (.loc 7) .nil))))
    .nil)))))))))⟩
/-- octet_bits -/
def c_octet_bits : Fn := ⟨1, 3, (.cons (.ret (.comp2 (.bin .band (.bin .shr (.loc 1) (.loc 2)) (.cint 1)) (.one 1) (.over (.loc 0)) (.one 2) (.range1 (.cint 8))))
    .nil)⟩
/-- pair_of -/
def c_pair_of : Fn := ⟨2, 3, (.cons (.set (.one 2) (.bin .bxor (.bin .band (.bin .shr (.loc 0) (.cint 1)) (.cint 1)) (.bin .band (.loc 0) (.cint 1))))
    (.cons (.ret (.tup (.cons (.bin .bxor (.loc 1) (.loc 2)) (.cons (.bin .bxor (.bin .bxor (.loc 1) (.loc 2)) (.bin .shr (.loc 0) (.cint 3))) .nil))))
    .nil))⟩
/-- parity -/
def c_parity : Fn := ⟨2, 4, (.cons (.set (.one 2) (.call 247 (.cons (.bin .add (.blt .list (.cons (.loc 0) .nil)) (.bin .mul (.lst (.cons (.cint 0) .nil)) (.bin .sub (.blt .len (.cons (.loc 1) .nil)) (.cint 1)))) (.cons (.loc 1) .nil)) []))
    (.cons (.ret (.comp (.bin .sub (.cint 1) (.loc 3)) (.one 3) (.over (.loc 2)) .no))
    .nil))⟩
/-- place_of -/
def c_place_of : Fn := ⟨1, 1, (.cons (.ret (.bin .add (.bin .mul (.cint 2) (.bin .mod (.bin .mul (.cint 49) (.loc 0)) (.cint 57))) (.bin .fdiv (.bin .mod (.loc 0) (.cint 8)) (.cint 4))))
    .nil)⟩
/-- read_block -/
def c_read_block : Fn := ⟨1, 5, (.cons (.set (.many [2, 3]) (.call 213 (.cons (.comp (.ix (.ix (.loc 0) (.bin .mod (.loc 4) (.cval (.int 4)))) (.call 228 (.cons (.loc 4) .nil) [])) (.one 4) (.range1 (.cval (.int 456))) .no) .nil) []))
    (.cons (.set (.one 1) (.sl (.loc 2) .no (.yes (.cval (.int 184)))))
    (.cons (.ret (.tup (.cons (.call 192 (.cons (.loc 1) .nil) []) (.cons (.loc 3) (.cons (.call 209 (.cons (.loc 1) (.cons (.sl (.loc 2) (.yes (.cval (.int 184))) (.yes (.cval (.int 224)))) (.cons (.cval (.tup [(.int 1), (.int 0), (.int 0), (.int 0), (.int 0), (.int 0), (.int 0), (.int 0), (.int 0), (.int 0), (.int 0), (.int 0), (.int 0), (.int 0), (.int 1), (.int 0), (.int 0), (.int 1), (.int 0), (.int 0), (.int 0), (.int 0), (.int 0), (.int 1), (.int 0), (.int 0), (.int 0), (.int 0), (.int 0), (.int 0), (.int 0), (.int 0), (.int 0), (.int 0), (.int 0), (.int 0), (.int 0), (.int 1), (.int 0), (.int 0), (.int 1)])) .nil))) []) .nil)))))
    .nil)))⟩
/-- received -/
def c_received : Fn := ⟨2, 8, (.cons (.set (.one 2) (.call 195 (.cons (.loc 0) .nil) []))
    (.cons (.for_ (.one 3) (.over (.loc 1)) (.cons (.set (.one 4) (.ix (.loc 2) (.bin .fdiv (.loc 3) (.cval (.int 114)))))
    (.cons (.seti (.loc 4) (.bin .mod (.loc 3) (.cval (.int 114))) (.bin .sub (.cint 1) (.ix (.loc 4) (.bin .mod (.loc 3) (.cval (.int 114))))))
    .nil)))
    (.cons (.set (.many [5, 6, 7]) (.call 230 (.cons (.loc 2) .nil) []))
    (.cons (.if_ (.loc 7) (.cons (.ret (.loc 5))
    .nil) .nil)
    (.cons (.ret .cnon)
    .nil)))))⟩
/-- remainder -/
def c_remainder : Fn := ⟨2, 6, (.cons (.set (.one 2) (.bin .sub (.blt .len (.cons (.loc 1) .nil)) (.cint 1)))
    (.cons (.set (.one 3) (.blt .list (.cons (.loc 0) .nil)))
    (.cons (.for_ (.one 4) (.range1 (.bin .sub (.blt .len (.cons (.loc 3) .nil)) (.loc 2))) (.cons (.if_ (.cmp .eq (.ix (.loc 3) (.loc 4)) (.cint 1)) (.cons (.for_ (.one 5) (.range1 (.bin .add (.loc 2) (.cint 1))) (.cons (.seti (.loc 3) (.bin .add (.loc 4) (.loc 5)) (.bin .bxor (.ix (.loc 3) (.bin .add (.loc 4) (.loc 5))) (.ix (.loc 1) (.loc 5))))
    .nil))
    .nil) .nil)
    .nil))
    (.cons (.set (.one 3) (.bin .add (.bin .mul (.lst (.cons (.cint 0) .nil)) (.bin .sub (.loc 2) (.blt .len (.cons (.loc 3) .nil)))) (.loc 3)))
    (.cons (.ret (.sl (.loc 3) (.yes (.bin .sub (.blt .len (.cons (.loc 3) .nil)) (.loc 2))) .no))
    .nil)))))⟩
/-- steps -/
def c_steps : Fn := ⟨0, 5, (.cons (.set (.one 0) (.lst .nil))
    (.cons (.for_ (.one 1) (.range1 (.cval (.int 16))) (.cons (.for_ (.one 2) (.range1 (.cint 2)) (.cons (.set (.many [3, 4]) (.call 225 (.cons (.loc 1) (.cons (.loc 2) .nil)) []))
    (.cons (.ex (.bm .append (.loc 0) (.cons (.tup (.cons (.loc 1) (.cons (.loc 2) (.cons (.loc 3) (.cons (.loc 4) (.cons (.bin .add (.bin .mul (.cint 8) (.loc 2)) (.bin .fdiv (.loc 1) (.cint 2))) .nil)))))) .nil)))
    .nil)))
    .nil))
    (.cons (.ret (.loc 0))
    .nil)))⟩
/-- _law_mixed -/
def c__law_mixed : Fn := ⟨2, 6, (.cons (.set (.one 2) (.blt .int (.cons (.loc 0) .nil)))
    (.cons (.if_ (.cmp .ge (.loc 2) (.bin .pow (.cint 10) (.cint 18))) (.cons (.ret (.loc 2))
    .nil) .nil)
    (.cons (.set (.one 3) (.bin .mod (.bin .add (.bin .mul (.bin .mod (.loc 2) (.cint 1000003)) (.cint 48271)) (.bin .mul (.cint 69621) (.bin .add (.loc 1) (.cint 1)))) (.cint 2147483647)))
    (.cons (.set (.one 4) (.bin .mod (.bin .add (.bin .mul (.loc 3) (.cint 48271)) (.bin .mod (.loc 2) (.cint 999983))) (.cint 2147483647)))
    (.cons (.set (.one 5) (.bin .mod (.bin .add (.bin .mul (.loc 4) (.cint 69621)) (.loc 3)) (.cint 2147483647)))
    (.cons (.ret (.bin .add (.bin .add (.loc 3) (.bin .mul (.cint 2147483647) (.loc 4))) (.bin .mul (.cint 4611686014132420609) (.loc 5))))
    .nil))))))⟩
/-- _law_place -/
def c__law_place : Fn := ⟨1, 1, (.cons (.ret (.bin .add (.bin .add (.bin .mul (.cint 114) (.bin .mod (.loc 0) (.cint 4))) (.bin .mul (.cint 2) (.bin .mod (.bin .mul (.cint 49) (.loc 0)) (.cint 57)))) (.bin .fdiv (.bin .mod (.loc 0) (.cint 8)) (.cint 4))))
    .nil)⟩
/-- law -/
def c_law : Fn := ⟨1, 19, (.cons (.set (.one 1) (.mk 22 (.cons (.cint 2) (.cons (.cint 2) .nil))))
    (.cons (.set (.one 2) (.mk 0 (.cons (.loc 1) .nil)))
    (.cons (.set (.one 3) (.lst (.cons (.lst (.cons (.cint 0) (.cons (.cint 0) .nil))) (.cons (.lst (.cons (.cint 0) (.cons (.cint 0) .nil))) .nil))))
    (.cons (.set (.one 4) (.dnew true))
    (.cons (.set (.one 5) (.cint 0))
    (.cons (.for_ (.many [6, 7]) (.enum (.sl (.loc 0) .no (.yes (.cint 40)))) (.cons (.set (.one 8) (.call 325 (.cons (.loc 7) (.cons (.loc 6) .nil)) []))
    (.cons (.set (.one 9) (.bin .mod (.bin .fdiv (.loc 8) (.cint 8)) (.cint 2)))
    (.cons (.set (.one 10) (.ix (.lst (.cons (.cstr [117, 112]) (.cons (.cstr [100, 111, 119, 110]) .nil))) (.bin .mod (.bin .fdiv (.loc 8) (.cint 16)) (.cint 2))))
    (.cons (.set (.one 11) (.bin .mod (.bin .fdiv (.loc 8) (.cint 32)) (.cint 2)))
    (.cons (.set (.one 12) (.bin .mod (.loc 8) (.cint 8)))
    (.cons (.if_ (.cmp .eq (.loc 12) (.cint 0)) (.cons (.seti (.loc 4) (.tup (.cons (.loc 9) (.cons (.loc 10) .nil))) (.bin .mod (.bin .fdiv (.loc 8) (.cint 64)) (.cint 5)))
    (.cons (.ex (.meth (.loc 2) 96 (.cons (.loc 9) (.cons (.loc 10) (.cons (.ix (.loc 4) (.tup (.cons (.loc 9) (.cons (.loc 10) .nil)))) .nil)))))
    .nil)) .nil)
    (.cons (.if_ (.cmp .eq (.loc 12) (.cint 1)) (.cons (.seti (.ix (.loc 3) (.loc 9)) (.loc 11) (.ix (.lst (.cons (.cint 4) (.cons (.cint 5) (.cons (.cint 20) (.cons (.cint 63) (.cons (.cint 0) (.cons (.bin .mod (.bin .fdiv (.loc 8) (.cint 640)) (.cint 64)) .nil))))))) (.bin .mod (.bin .fdiv (.loc 8) (.cint 64)) (.cint 6))))
    (.cons (.ex (.meth (.loc 1) 150 (.cons (.loc 9) (.cons (.loc 11) (.cons (.ix (.ix (.loc 3) (.loc 9)) (.loc 11)) .nil)))))
    .nil)) .nil)
    (.cons (.if_ (.and_ (.cmp .eq (.loc 12) (.cint 2)) (.cmp .lt (.loc 5) (.cint 3))) (.cons (.set (.one 5) (.bin .add (.loc 5) (.cint 1)))
    (.cons (.set (.one 13) (.bin .mul (.cint 2) (.bin .mod (.bin .fdiv (.loc 8) (.cint 64)) (.cint 200))))
    (.cons (.set (.one 14) (.lst (.cons (.call 326 (.cons (.loc 13) .nil) []) (.cons (.call 326 (.cons (.bin .add (.loc 13) (.cint 1)) .nil) []) .nil))))
    (.cons (.ex (.meth (.loc 2) 69 (.cons (.loc 9) (.cons (.loc 10) (.cons (.loc 14) .nil)))))
    (.cons (.for_ (.one 15) (.over (.lst (.cons (.cint 3) (.cons (.cint 6) (.cons (.cint 7) .nil))))) (.cons (.ex (.bm .append (.loc 14) (.cons (.call 326 (.cons (.bin .add (.loc 13) (.loc 15)) .nil) []) .nil)))
    .nil))
    .nil))))) .nil)
    (.cons (.if_ (.cmp .gt (.loc 12) (.cint 2)) (.cons (.set (.one 16) (.blt .tuple (.cons (.comp (.bin .mod (.bin .add (.bin .fdiv (.loc 8) (.bin .add (.loc 18) (.cint 5))) (.bin .mul (.cint 3) (.loc 18))) (.cint 256)) (.one 18) (.range1 (.cint 23)) .no) .nil)))
    (.cons (.set (.one 17) (.loc 16))
    (.cons (.if_ (.or_ (.cmp .gt (.bm .get (.loc 4) (.cons (.tup (.cons (.loc 9) (.cons (.loc 10) .nil))) (.cons (.cint 0) .nil))) (.cint 0)) (.cmp .lt (.ix (.ix (.loc 3) (.loc 9)) (.loc 11)) (.cint 5))) (.cons (.set (.one 17) .cnon)
    .nil) .nil)
    (.cons (.seti (.loc 4) (.tup (.cons (.loc 9) (.cons (.loc 10) .nil))) (.blt .max (.cons (.cint 0) (.cons (.bin .sub (.bm .get (.loc 4) (.cons (.tup (.cons (.loc 9) (.cons (.loc 10) .nil))) (.cons (.cint 0) .nil))) (.cint 1)) .nil))))
    (.cons (.if_ (.cmp .ne (.meth (.loc 2) 32 (.cons (.loc 9) (.cons (.loc 10) (.cons (.loc 11) (.cons (.loc 16) .nil))))) (.loc 17)) (.cons (.ret (.cbl false))
    .nil) .nil)
    .nil))))) .nil)
    .nil))))))))))
    (.cons (.ret (.cbl true))
    .nil)))))))⟩
def codeL : List (Nat × Fn) := [
  (0, c_Air___init__),
  (1, c_Air_carry),
  (2, c_Air_harm),
  (3, c_Air_lose),
  (141, c_Signals___init__),
  (143, c_Signals_find),
  (144, c_Signals_hears),
  (145, c_Signals_level),
  (146, c_Signals_set_level),
  (186, c_advance),
  (191, c_bits_number),
  (192, c_bits_octets),
  (195, c_code_block),
  (200, c_convolve),
  (209, c_is_right),
  (213, c_nearest),
  (221, c_octet_bits),
  (225, c_pair_of),
  (227, c_parity),
  (228, c_place_of),
  (230, c_read_block),
  (245, c_received),
  (247, c_remainder),
  (255, c_steps),
  (325, c__law_mixed),
  (326, c__law_place),
  (327, c_law)]
def methL : List ((Nat × Nat) × Nat) := [((0, 96), 3), ((0, 69), 2), ((0, 32), 1), ((22, 59), 143), ((22, 89), 145), ((22, 150), 146), ((22, 71), 144)]
def propL : List ((Nat × Nat) × Nat) := []
def initL : List (Nat × Nat) := [(0, 0), (22, 141)]
def exfL : List (Nat × List Nat) := [(10, []), (1, []), (12, [189, 111]), (14, [189])]
def subL : List (Nat × Nat) := [(10, 10), (1, 1), (1, 10), (12, 12), (12, 10), (14, 14), (14, 10)]
def fldL : List (Nat × Nat) := [(0, 62), (0, 97), (0, 153), (22, 138)]
def tab : Tab := ⟨fun f => codeL.lookup f, fun c m => methL.lookup (c, m), fun c => initL.lookup c, fun c f => propL.lookup (c, f), fun c => exfL.lookup c, fun c d => subL.contains (c, d), fun c f => fldL.contains (c, f)⟩
def idLaw : Nat := 327
end M
end

section
set_option Elab.async false
set_option linter.all false
set_option maxRecDepth 100000
set_option maxHeartbeats 0
/-! the head of law_k81_air (printed by genhead.py) -/
namespace Hd
open PySem PySem.W PySem.Calls PyProof.Rows L2
abbrev R : OpenRow := OpenLaw.row PySem.Challenge.rw_mobileair_k81_air
def top (i : Nat) : Stmt := R.prog.main.body.getD i (.Pass ⟨0, 0, 0, 0⟩)
def inCls : Stmt → Nat → Stmt
  | .ClassDef _ _ _ body _ _ _ _ _ _ _, j => body.getD j (.Pass ⟨0, 0, 0, 0⟩)
  | s, _ => s
abbrev qv : Program := view R.prog [42]
def names0 : List PySem.Str := ["_wall", "MobileError", "BadBits", "NoSuch", "OutOfRange", "bits_number", "octet_bits", "bits_octets", "BLOCK_DIVISOR", "remainder", "parity", "is_right", "STATES", "TAIL", "pair_of", "convolve", "steps", "advance", "nearest", "BURSTS"]
def names1 : List PySem.Str := ["BITS", "CODED", "CONTENT", "CHECKED", "place_of", "code_block", "read_block", "BURST", "received", "Air", "HEARING", "Signals", "_law_mixed", "_law_place"]
def loose : List PySem.Str := names0 ++ names1
def s_Air___init__ : Stmt := inCls (top 35) 0
def d_Air___init__ : He.DefD := ⟨("Air", some "__init__"), "__init__", "Air.__init__", defArgs s_Air___init__, defBody s_Air___init__, defScope s_Air___init__, [], []⟩
def s_Air_carry : Stmt := inCls (top 35) 3
def d_Air_carry : He.DefD := ⟨("Air", some "carry"), "carry", "Air.carry", defArgs s_Air_carry, defBody s_Air_carry, defScope s_Air_carry, [], []⟩
def s_Air_harm : Stmt := inCls (top 35) 2
def d_Air_harm : He.DefD := ⟨("Air", some "harm"), "harm", "Air.harm", defArgs s_Air_harm, defBody s_Air_harm, defScope s_Air_harm, [], []⟩
def s_Air_lose : Stmt := inCls (top 35) 1
def d_Air_lose : He.DefD := ⟨("Air", some "lose"), "lose", "Air.lose", defArgs s_Air_lose, defBody s_Air_lose, defScope s_Air_lose, [], []⟩
def s_Signals___init__ : Stmt := inCls (top 38) 0
def d_Signals___init__ : He.DefD := ⟨("Signals", some "__init__"), "__init__", "Signals.__init__", defArgs s_Signals___init__, defBody s_Signals___init__, defScope s_Signals___init__, [], []⟩
def s_Signals_find : Stmt := inCls (top 38) 1
def d_Signals_find : He.DefD := ⟨("Signals", some "find"), "find", "Signals.find", defArgs s_Signals_find, defBody s_Signals_find, defScope s_Signals_find, [], []⟩
def s_Signals_hears : Stmt := inCls (top 38) 4
def d_Signals_hears : He.DefD := ⟨("Signals", some "hears"), "hears", "Signals.hears", defArgs s_Signals_hears, defBody s_Signals_hears, defScope s_Signals_hears, [], []⟩
def s_Signals_level : Stmt := inCls (top 38) 2
def d_Signals_level : He.DefD := ⟨("Signals", some "level"), "level", "Signals.level", defArgs s_Signals_level, defBody s_Signals_level, defScope s_Signals_level, [], []⟩
def s_Signals_set_level : Stmt := inCls (top 38) 3
def d_Signals_set_level : He.DefD := ⟨("Signals", some "set_level"), "set_level", "Signals.set_level", defArgs s_Signals_set_level, defBody s_Signals_set_level, defScope s_Signals_set_level, [], []⟩
def s_advance : Stmt := top 21
def d_advance : He.DefD := ⟨("advance", none), "advance", "advance", defArgs s_advance, defBody s_advance, defScope s_advance, [], []⟩
def s_bits_number : Stmt := top 7
def d_bits_number : He.DefD := ⟨("bits_number", none), "bits_number", "bits_number", defArgs s_bits_number, defBody s_bits_number, defScope s_bits_number, [], []⟩
def s_bits_octets : Stmt := top 9
def d_bits_octets : He.DefD := ⟨("bits_octets", none), "bits_octets", "bits_octets", defArgs s_bits_octets, defBody s_bits_octets, defScope s_bits_octets, [], []⟩
def s_code_block : Stmt := top 30
def d_code_block : He.DefD := ⟨("code_block", none), "code_block", "code_block", defArgs s_code_block, defBody s_code_block, defScope s_code_block, [], []⟩
def s_convolve : Stmt := top 19
def d_convolve : He.DefD := ⟨("convolve", none), "convolve", "convolve", defArgs s_convolve, defBody s_convolve, defScope s_convolve, [], []⟩
def s_is_right : Stmt := top 14
def d_is_right : He.DefD := ⟨("is_right", none), "is_right", "is_right", defArgs s_is_right, defBody s_is_right, defScope s_is_right, [], []⟩
def s_nearest : Stmt := top 22
def d_nearest : He.DefD := ⟨("nearest", none), "nearest", "nearest", defArgs s_nearest, defBody s_nearest, defScope s_nearest, [], []⟩
def s_octet_bits : Stmt := top 8
def d_octet_bits : He.DefD := ⟨("octet_bits", none), "octet_bits", "octet_bits", defArgs s_octet_bits, defBody s_octet_bits, defScope s_octet_bits, [], []⟩
def s_pair_of : Stmt := top 18
def d_pair_of : He.DefD := ⟨("pair_of", none), "pair_of", "pair_of", defArgs s_pair_of, defBody s_pair_of, defScope s_pair_of, [], []⟩
def s_parity : Stmt := top 13
def d_parity : He.DefD := ⟨("parity", none), "parity", "parity", defArgs s_parity, defBody s_parity, defScope s_parity, [], []⟩
def s_place_of : Stmt := top 29
def d_place_of : He.DefD := ⟨("place_of", none), "place_of", "place_of", defArgs s_place_of, defBody s_place_of, defScope s_place_of, [], []⟩
def s_read_block : Stmt := top 31
def d_read_block : He.DefD := ⟨("read_block", none), "read_block", "read_block", defArgs s_read_block, defBody s_read_block, defScope s_read_block, [], []⟩
def s_received : Stmt := top 34
def d_received : He.DefD := ⟨("received", none), "received", "received", defArgs s_received, defBody s_received, defScope s_received, [], []⟩
def s_remainder : Stmt := top 12
def d_remainder : He.DefD := ⟨("remainder", none), "remainder", "remainder", defArgs s_remainder, defBody s_remainder, defScope s_remainder, [], []⟩
def s_steps : Stmt := top 20
def d_steps : He.DefD := ⟨("steps", none), "steps", "steps", defArgs s_steps, defBody s_steps, defScope s_steps, [], []⟩
def s__law_mixed : Stmt := top 40
def d__law_mixed : He.DefD := ⟨("_law_mixed", none), "_law_mixed", "_law_mixed", defArgs s__law_mixed, defBody s__law_mixed, defScope s__law_mixed, [], []⟩
def s__law_place : Stmt := top 41
def d__law_place : He.DefD := ⟨("_law_place", none), "_law_place", "_law_place", defArgs s__law_place, defBody s__law_place, defScope s__law_place, [], []⟩
def s_law : Stmt := top 42
def d_law : He.DefD := ⟨("law", none), "law", "law", defArgs s_law, defBody s_law, defScope s_law, [], []⟩
def fnL : List He.DefD := [d_Air___init__, d_Air_carry, d_Air_harm, d_Air_lose, d_Signals___init__, d_Signals_find, d_Signals_hears, d_Signals_level, d_Signals_set_level, d_advance, d_bits_number, d_bits_octets, d_code_block, d_convolve, d_is_right, d_nearest, d_octet_bits, d_pair_of, d_parity, d_place_of, d_read_block, d_received, d_remainder, d_steps, d__law_mixed, d__law_place, d_law]
def datFN0 : List Str := ["__init__", "act", "act_on_answer", "act_on_call", "act_on_text", "add", "add_link", "add_phone", "age", "air", "alerting", "answer", "answered", "answers", "append", "area"]
def datFN1 : List Str := ["areas", "ask", "begin", "best", "better", "book", "boxes", "call", "call_cause", "call_of", "call_state", "called", "called_in", "caller", "calls", "camp"]
def datFN2 : List Str := ["carry", "cause", "channel", "channel_state", "channels", "clear", "collect", "come", "command", "connect", "connected", "count", "deliver", "dial", "dialled", "digits"]
def datFN3 : List Str := ["disconnect", "drop", "end", "end_link", "ended", "ends", "exchange", "extend", "fail", "failed", "far", "find", "first", "first_message", "flips", "forward"]
def datFN4 : List Str := ["free", "get", "give", "grant", "hang", "harm", "heard", "hears", "held", "held_by", "hold", "home", "hops", "idle", "is_full", "is_leg"]
def datFN5 : List Str := ["is_on", "join", "keeps", "known_area", "last", "leave", "leaving", "left", "let_go", "level", "line", "lines", "link", "link_of", "linked", "links"]
def datFN6 : List Str := ["lose", "losses", "lost", "made", "many", "marked", "messages", "move", "near", "need_person", "need_way", "next_sent", "next_taken", "not_reached", "now", "number"]
def datFN7 : List Str := ["numbers", "on", "other", "outbox", "owed", "owner", "owners", "page", "page_for_texts", "paged", "pages", "part", "perform", "person", "phone", "phones"]
def datFN8 : List Str := ["pieces", "pool", "power", "purpose", "put", "reason", "release", "released", "reset", "rest", "rows", "said", "say", "second", "seen", "send"]
def datFN9 : List Str := ["send_command", "send_down", "send_up", "sent", "set_area", "set_forward", "set_level", "side", "sides", "signals", "silence", "since", "stage", "start", "state", "status"]
def datFN10 : List Str := ["step", "step_access", "step_camping", "step_down", "step_losses", "step_pages", "step_rings", "step_up", "store", "stored", "submit", "switch", "take", "take_disconnect", "take_number", "take_piece"]
def datFN11 : List Str := ["take_setup", "taken", "tell", "text", "texts", "tick", "ticks", "times", "told", "tries", "units", "waits", "wants", "what", "with_digits", "with_number"]
def datFN12 : List Str := ["word", "words_heard", "words_said", "world"]
def datFN : List Str := datFN0 ++ datFN1 ++ datFN2 ++ datFN3 ++ datFN4 ++ datFN5 ++ datFN6 ++ datFN7 ++ datFN8 ++ datFN9 ++ datFN10 ++ datFN11 ++ datFN12
def datCN : List (Nat × Str) := [(0, "Air"), (22, "Signals")]
def datDefs0 : List (Nat × (He.DefD × List Str)) := [(0, d_Air___init__, ["self", "signals"]), (1, d_Air_carry, ["self", "phone", "way", "cell", "block", "key", "left", "places"]), (2, d_Air_harm, ["self", "phone", "way", "places"]), (3, d_Air_lose, ["self", "phone", "way", "blocks"]), (141, d_Signals___init__, ["self", "phones", "cells", "_"]), (143, d_Signals_find, ["self", "phone", "cell"]), (144, d_Signals_hears, ["self", "phone", "cell"]), (145, d_Signals_level, ["self", "phone", "cell"]), (146, d_Signals_set_level, ["self", "phone", "cell", "level", "was"]), (186, d_advance, ["paths", "rows", "pair", "found", "state", "bit", "first", "second", "after", "cost", "option", "path"]), (191, d_bits_number, ["bits", "number", "bit"]), (192, d_bits_octets, ["bits", "rows", "at", "row"]), (195, d_code_block, ["octets", "content", "coded", "bursts", "k", "burst", "_"]), (200, d_convolve, ["bits", "coded", "state", "bit"]), (209, d_is_right, ["content", "found", "divisor"]), (213, d_nearest, ["coded", "count", "every", "zeros", "paths", "k", "rows", "cost", "path", "row"])]
def datDefs1 : List (Nat × (He.DefD × List Str)) := [(221, d_octet_bits, ["octets", "octet", "k"]), (225, d_pair_of, ["state", "bit", "older"]), (227, d_parity, ["content", "divisor", "rest", "bit"]), (228, d_place_of, ["k"]), (230, d_read_block, ["bursts", "content", "row", "cost", "k"]), (245, d_received, ["block", "places", "bursts", "place", "burst", "octets", "_", "good"]), (247, d_remainder, ["bits", "divisor", "size", "row", "at", "k"]), (255, d_steps, ["rows", "state", "bit", "first", "second"]), (325, d__law_mixed, ["_law_cell", "_law_turn", "_law_value", "_law_first", "_law_second", "_law_third"]), (326, d__law_place, ["_law_k"]), (327, d_law, ["_law_script", "_law_signals", "_law_air", "_law_levels", "_law_left", "_law_flips", "_law_turn", "_law_cell", "_law_value", "_law_phone", "_law_way", "_law_place_here", "_law_kind", "_law_at", "_law_places", "_law_more", "_law_block", "_law_due", "_law_k"])]
def datDefs : List (Nat × (He.DefD × List Str)) := datDefs0 ++ datDefs1
def datGi0 : List (Str × Br.Gi) := [("advance", .fn 186), ("bits_number", .fn 191), ("bits_octets", .fn 192), ("code_block", .fn 195), ("convolve", .fn 200), ("is_right", .fn 209), ("nearest", .fn 213), ("octet_bits", .fn 221), ("pair_of", .fn 225), ("parity", .fn 227), ("place_of", .fn 228), ("read_block", .fn 230), ("received", .fn 245), ("remainder", .fn 247), ("steps", .fn 255), ("_law_mixed", .fn 325)]
def datGi1 : List (Str × Br.Gi) := [("_law_place", .fn 326), ("law", .fn 327), ("Air", .cls 0), ("Signals", .cls 22), ("len", .bltin), ("list", .bltin), ("tuple", .bltin), ("int", .bltin), ("max", .bltin), ("min", .bltin), ("ord", .bltin), ("range", .bltin), ("enumerate", .bltin), ("reversed", .bltin), ("str", .bltin), ("isinstance", .bltin)]
def datGi2 : List (Str × Br.Gi) := [("repr", .bltin), ("sorted", .bltin), ("BLOCK_DIVISOR", .tup [(.int 1), (.int 0), (.int 0), (.int 0), (.int 0), (.int 0), (.int 0), (.int 0), (.int 0), (.int 0), (.int 0), (.int 0), (.int 0), (.int 0), (.int 1), (.int 0), (.int 0), (.int 1), (.int 0), (.int 0), (.int 0), (.int 0), (.int 0), (.int 1), (.int 0), (.int 0), (.int 0), (.int 0), (.int 0), (.int 0), (.int 0), (.int 0), (.int 0), (.int 0), (.int 0), (.int 0), (.int 0), (.int 1), (.int 0), (.int 0), (.int 1)]), ("STATES", .int 16), ("TAIL", .int 4), ("BURSTS", .int 4), ("BITS", .int 114), ("CODED", .int 456), ("CONTENT", .int 184), ("CHECKED", .int 224), ("BURST", .int 114), ("HEARING", .int 5)]
def datGi : List (Str × Br.Gi) := datGi0 ++ datGi1 ++ datGi2
def dat : Br.Dat := ⟨M.codeL, datDefs, M.methL, M.initL, M.fldL, datCN, datFN, datGi⟩
theorem dat_ok : dat.ok = true := by kernel_rfl
abbrev hk : PySem.W.Hook := He.hookX 5 [] dat.fnL [] [] dat.exB
def ob (s : PySem.W.SharedT) : He.AlX := He.obsX 5 [] dat.fnL [] [] dat.exB (HandSHeadRun.getT s)
theorem ob_eq (s : PySem.W.SharedT) : ob s = hk.obs s.abs := He.obsX_eq (HandSHeadRun.getT_eq s)
theorem run (w : World) : HandSHeadRun.RunEq R qv hk ob 6000 loose w := by
  refine PySem.W.byRow2 "special-get-raises" (P := fun w => HandSHeadRun.RunEq R qv hk ob 6000 loose w) (fun w => ?_) (fun w => ?_) w
  · intro os
    kernel_rfl
  · intro os
    kernel_rfl
theorem law_at : dat.T.fn 327 = some M.c_law := by kernel_rfl
theorem law_df : dat.defs.lookup 327 = some (d_law, [("_law_script" : Str), ("_law_signals" : Str), ("_law_air" : Str), ("_law_levels" : Str), ("_law_left" : Str), ("_law_flips" : Str), ("_law_turn" : Str), ("_law_cell" : Str), ("_law_value" : Str), ("_law_phone" : Str), ("_law_way" : Str), ("_law_place_here" : Str), ("_law_kind" : Str), ("_law_at" : Str), ("_law_places" : Str), ("_law_more" : Str), ("_law_block" : Str), ("_law_due" : Str), ("_law_k" : Str)]) := by kernel_rfl
theorem law_gi : dat.gi.lookup ("law" : Str) = some (Br.Gi.fn 327) := by kernel_rfl
theorem law_pos : dat.at_ 327 = (("law" : Str), (none : Option Str)) := by kernel_rfl
end Hd
open PySem PySem.W PySem.Calls PyProof.Rows
theorem holds_of (plain : ∀ ns : List Int, ns.length ≤ 63 → ∃ h', M.callAt Hd.dat.T 40 327 [.glb 6] ⟨#[], ns.map .int⟩ = .ok (.bl true) h') : PySem.Challenge.rw_mobileair_k81_air.Holds := by
  w_on; o_law
  refine HandSHeadRun.head_any (r := OpenLaw.row PySem.Challenge.rw_mobileair_k81_air) (q := view (OpenLaw.row PySem.Challenge.rw_mobileair_k81_air).prog [42]) (H := Hd.hk) (ob := Hd.ob) (M := 6000) (loose := Hd.loose) (d := HandSHeadRun.topDef (OpenLaw.row PySem.Challenge.rw_mobileair_k81_air).prog 42) (kwd := []) Hd.ob_eq
    (by kernel_rfl) (fun s => by kernel_rfl) Hd.run (by kernel_rfl) (by kernel_rfl) (by kernel_rfl) (by rfl) (by first | assumption | decide +kernel) (by decide +kernel) ⟨rfl, rfl, rfl, rfl, rfl, by decide +kernel⟩ ?hw ?hc
  case hw => w_witness2
  case hc =>
    refine L2.walk_ofE (l := PySem.Challenge.rw_mobileair_k81_air) (n := 63) (k := 2 * 40) (x := "_law_script") (CX := Br.CXw (PySem.Challenge.rw_mobileair_k81_air).prog) rfl (by decide) (by kernel_rfl) ⟨rfl, by decide, by decide⟩ ?F Br.cxw_none
    intro w mg fa h Y G hmg0
    obtain ⟨K, KX, c⟩ := Y
    have hmg : mg ("law" : PySem.Str) = some (.ref fa) := by
      have e : (HandSHeadRun.topDef (OpenLaw.row PySem.Challenge.rw_mobileair_k81_air).prog 42).name = ("law" : PySem.Str) := by kernel_rfl
      rw [← e]
      exact hmg0
    obtain ⟨fd, hb, hs, hF⟩ := Br.Dat.law Hd.dat_ok (P := (PySem.Challenge.rw_mobileair_k81_air).prog) (w := w) KX G c.more c.t.d Hd.law_at Hd.law_df (y := "_law_script") (by kernel_rfl) plain
    have e := hmg.symm.trans (He.glo_ok KX G (x := "law") (Br.Dat.glo_law Hd.dat_ok c.more Hd.law_gi))
    cases e
    rw [Hd.law_pos] at hF
    exact ⟨K, fd, Br.lawSp Hd.dat K 40 327, KX, hb, hs, hF⟩
end

section
set_option linter.all false
set_option Elab.async false
/-! W: what a run comes to, by weakest preconditions. Core Lean only. -/
namespace M

def R.wp {α : Type} (r : R α) (Q : α → Heap → Prop) (X : Nat → List Val → Heap → Prop) : Prop := match r with
  | .ok v h => Q v h
  | .exc c vs h => X c vs h
  | .bad => False
def Fl.wp (r : Fl) (N : Slots → Heap → Prop) (E : Fl → Prop) : Prop := match r with
  | .nx σ h => N σ h
  | .bad => False
  | r => E r
/-- what a def's body leaves -/
def retE (Q : Val → Heap → Prop) (X : Nat → List Val → Heap → Prop) : Fl → Prop
  | .ret v h => Q v h
  | .exc c vs _ h => X c vs h
  | _ => False

theorem R.wp.mono {α : Type} {r : R α} {Q Q' : α → Heap → Prop} {X X' : Nat → List Val → Heap → Prop} (h : r.wp Q X) (q : ∀ v h, Q v h → Q' v h) (x : ∀ c vs h, X c vs h → X' c vs h) : r.wp Q' X' := by
  cases r with
  | ok v h1 => exact q _ _ h
  | exc c vs h1 => exact x _ _ _ h
  | bad => exact h
/-- the same exceptions -/
theorem R.wp.post {α : Type} {r : R α} {Q Q' : α → Heap → Prop} {X : Nat → List Val → Heap → Prop} (h : r.wp Q X) (q : ∀ v h, Q v h → Q' v h) : r.wp Q' X := h.mono q fun _ _ _ x => x
/-- no exception -/
abbrev nox : Nat → List Val → Heap → Prop := fun _ _ _ => False
theorem R.wp.of_nox {α : Type} {r : R α} {Q Q' : α → Heap → Prop} {X : Nat → List Val → Heap → Prop} (h : r.wp Q nox) (q : ∀ v h, Q v h → Q' v h) : r.wp Q' X := h.mono q fun _ _ _ x => x.elim
theorem R.wp.out {α : Type} {r : R α} {Q : α → Heap → Prop} (h : r.wp Q nox) : ∃ v h', r = .ok v h' ∧ Q v h' := by
  cases r with
  | ok v h1 => exact ⟨v, h1, rfl, h⟩
  | exc c vs h1 => exact h.elim
  | bad => exact h.elim
theorem Fl.wp.mono {r : Fl} {N N' : Slots → Heap → Prop} {E E' : Fl → Prop} (h : r.wp N E) (n : ∀ σ h, N σ h → N' σ h) (e : ∀ r, E r → E' r) : r.wp N' E' := by
  cases r with
  | nx σ h1 => exact n _ _ h
  | bad => exact h
  | ret v h1 => exact e _ h
  | brk σ h1 => exact e _ h
  | cnt σ h1 => exact e _ h
  | exc c vs σ h1 => exact e _ h
theorem Fl.wp.post {r : Fl} {N N' : Slots → Heap → Prop} {E : Fl → Prop} (h : r.wp N E) (n : ∀ σ h, N σ h → N' σ h) : r.wp N' E := h.mono n fun _ e => e

theorem wp_ok {α : Type} {v : α} {h : Heap} {Q : α → Heap → Prop} {X : Nat → List Val → Heap → Prop} : (R.ok v h).wp Q X = Q v h := (rfl)
theorem wp_bad {α : Type} {Q : α → Heap → Prop} {X : Nat → List Val → Heap → Prop} : (R.bad : R α).wp Q X = False := (rfl)
theorem wp_exc {α : Type} {c : Nat} {vs : List Val} {h : Heap} {Q : α → Heap → Prop} {X : Nat → List Val → Heap → Prop} : (R.exc c vs h : R α).wp Q X = X c vs h := (rfl)
theorem wp_bind {α β : Type} {r : R α} {f : α → Heap → R β} {Q : β → Heap → Prop} {X : Nat → List Val → Heap → Prop} : (r.bind f).wp Q X = r.wp (fun v h => (f v h).wp Q X) X := by
  cases r <;> rfl
theorem wp_ite {α : Type} {c : Prop} [Decidable c] {a b : R α} {Q : α → Heap → Prop} {X : Nat → List Val → Heap → Prop} : (if c then a else b).wp Q X = (if c then a.wp Q X else b.wp Q X) := by
  split <;> rfl
theorem wp_nx {σ : Slots} {h : Heap} {N : Slots → Heap → Prop} {E : Fl → Prop} : (Fl.nx σ h).wp N E = N σ h := (rfl)
theorem wp_ret {v : Val} {h : Heap} {N : Slots → Heap → Prop} {E : Fl → Prop} : (Fl.ret v h).wp N E = E (.ret v h) := (rfl)
theorem wp_fbad {N : Slots → Heap → Prop} {E : Fl → Prop} : Fl.bad.wp N E = False := (rfl)
theorem wp_st {α : Type} {r : R α} {σ : Slots} {f : α → Heap → Fl} {N : Slots → Heap → Prop} {E : Fl → Prop} : (r.st σ f).wp N E = r.wp (fun v h => (f v h).wp N E) (fun c vs h => E (.exc c vs σ h)) := by
  cases r <;> rfl
theorem retE_ret {Q : Val → Heap → Prop} {X : Nat → List Val → Heap → Prop} {v : Val} {h : Heap} : retE Q X (.ret v h) = Q v h := (rfl)
theorem retE_exc {Q : Val → Heap → Prop} {X : Nat → List Val → Heap → Prop} {c : Nat} {vs : List Val} {σ : Slots} {h : Heap} : retE Q X (.exc c vs σ h) = X c vs h := (rfl)

/-- an option -/
def opt {α : Type} (o : Option α) (Q : α → Prop) : Prop := match o with
  | some a => Q a
  | none => False
theorem opt_some {α : Type} {a : α} {Q : α → Prop} : opt (some a) Q = Q a := (rfl)
theorem opt_none {α : Type} {Q : α → Prop} : opt none Q = False := (rfl)
/-- a truth value -/
def tru (v : Val) (A B : Prop) : Prop := match v with
  | .bl b => if b = true then A else B
  | _ => False
theorem tru_bl {b : Bool} {A B : Prop} : tru (.bl b) A B = (if b = true then A else B) := (rfl)

section
variable {T : Tab} {call : Nat → List Val → Heap → R Val} {σ : Slots} {h : Heap} {Q : Val → Heap → Prop} {X : Nat → List Val → Heap → Prop} {N : Slots → Heap → Prop} {E0 : Fl → Prop}

def slotQ (o : Option (Option Val)) (Q : Val → Prop) : Prop := match o with
  | some (some v) => Q v
  | _ => False
theorem slotQ_some {v : Val} {Q : Val → Prop} : slotQ (some (some v)) Q = Q v := (rfl)
def intV (v : Val) (Q : Int → Prop) : Prop := match v with
  | .int i => Q i
  | _ => False
theorem intV_int {i : Int} {Q : Int → Prop} : intV (.int i) Q = Q i := (rfl)
def blV (v : Val) (Q : Bool → Prop) : Prop := match v with
  | .bl i => Q i
  | _ => False
theorem blV_bl {i : Bool} {Q : Bool → Prop} : blV (.bl i) Q = Q i := (rfl)
def refV (v : Val) (Q : Nat → Prop) : Prop := match v with
  | .ref i => Q i
  | _ => False
theorem refV_ref {i : Nat} {Q : Nat → Prop} : refV (.ref i) Q = Q i := (rfl)
def tupV (v : Val) (Q : List Val → Prop) : Prop := match v with
  | .tup i => Q i
  | _ => False
theorem tupV_tup {i : List Val} {Q : List Val → Prop} : tupV (.tup i) Q = Q i := (rfl)
theorem wp_loc {i : Nat} : (evE T call (.loc i) σ h).wp Q X = slotQ σ[i]? fun v => Q v h := by
  unfold evE
  generalize σ[i]? = o
  cases o with
  | none => rfl
  | some o => cases o <;> rfl
theorem wp_cint {i : Int} : (evE T call (.cint i) σ h).wp Q X = Q (.int i) h := by unfold evE; rfl
theorem wp_cstr {i : Sg} : (evE T call (.cstr i) σ h).wp Q X = Q (.str i) h := by unfold evE; rfl
theorem wp_cbl {i : Bool} : (evE T call (.cbl i) σ h).wp Q X = Q (.bl i) h := by unfold evE; rfl
theorem wp_cnon : (evE T call .cnon σ h).wp Q X = Q .non h := by unfold evE; rfl
theorem wp_cval {v : Val} : (evE T call (.cval v) σ h).wp Q X = Q v h := by unfold evE; rfl
theorem wp_bin {op : Op} {a b : E} : (evE T call (.bin op a b) σ h).wp Q X = (evE T call a σ h).wp (fun x h1 => (evE T call b σ h1).wp (fun y h2 => (binV op x y h2).wp Q X) X) X := by
  rw [evE]; simp only [wp_bind]
theorem wp_neg {a : E} : (evE T call (.neg a) σ h).wp Q X = (evE T call a σ h).wp (fun x h1 => intV x fun i => Q (.int (-i)) h1) X := by
  rw [evE]; simp only [wp_bind]; congr; funext x h1; cases x <;> rfl
theorem wp_nt {a : E} : (evE T call (.nt a) σ h).wp Q X = (evE T call a σ h).wp (fun x h1 => blV x fun i => Q (.bl (!i)) h1) X := by
  rw [evE]; simp only [wp_bind]; congr; funext x h1; cases x <;> rfl
theorem wp_cmp {c : Cm} {a b : E} : (evE T call (.cmp c a b) σ h).wp Q X = (evE T call a σ h).wp (fun x h1 => (evE T call b σ h1).wp (fun y h2 => opt (cmpV c x y h2) fun r => Q (.bl r) h2) X) X := by
  rw [evE]; simp only [wp_bind]; congr; funext x h1; congr; funext y h2; cases cmpV c x y h2 <;> rfl
theorem wp_chain {c d : Cm} {a b e : E} : (evE T call (.chain c d a b e) σ h).wp Q X = (evE T call a σ h).wp (fun x h1 => (evE T call b σ h1).wp (fun y h2 => opt (cmpV c x y h2) fun r => if r = true then (evE T call e σ h2).wp (fun z h3 => opt (cmpV d y z h3) fun r => Q (.bl r) h3) X else Q (.bl false) h2) X) X := by
  rw [evE]; simp only [wp_bind]; congr; funext x h1; congr; funext y h2
  cases cmpV c x y h2 with
  | none => rfl
  | some r => cases r with
    | false => rfl
    | true => 
      simp only [wp_bind, opt_some, if_true]; congr; funext z h3; cases cmpV d y z h3 <;> rfl
theorem wp_is {a : E} {c : Val} {yes : Bool} : (evE T call (.is_ a c yes) σ h).wp Q X = (evE T call a σ h).wp (fun x h1 => Q (.bl (Val.beq x c == yes)) h1) X := by
  rw [evE]; simp only [wp_bind]; rfl
theorem wp_and {a b : E} : (evE T call (.and_ a b) σ h).wp Q X = (evE T call a σ h).wp (fun x h1 => tru x ((evE T call b σ h1).wp Q X) (Q (.bl false) h1)) X := by
  rw [evE]; simp only [wp_bind]; congr; funext x h1; unfold tru; split <;> simp [wp_ok, wp_bad]
  split <;> simp_all
theorem wp_or {a b : E} : (evE T call (.or_ a b) σ h).wp Q X = (evE T call a σ h).wp (fun x h1 => tru x (Q (.bl true) h1) ((evE T call b σ h1).wp Q X)) X := by
  rw [evE]; simp only [wp_bind]; congr; funext x h1; unfold tru; split <;> simp [wp_ok, wp_bad]
  split <;> simp_all
theorem wp_ife {c a b : E} : (evE T call (.ife c a b) σ h).wp Q X = (evE T call c σ h).wp (fun x h1 => tru x ((evE T call a σ h1).wp Q X) ((evE T call b σ h1).wp Q X)) X := by
  rw [evE]; simp only [wp_bind]; congr; funext x h1; unfold tru; split <;> simp [wp_ok, wp_bad]
  split <;> simp_all
theorem wp_fld {o : E} {f : Nat} : (evE T call (.fld o f) σ h).wp Q X = (evE T call o σ h).wp (fun x h1 => (getF T call x f h1).wp Q X) X := by
  rw [evE]; simp only [wp_bind]
theorem wp_ix {o i : E} : (evE T call (.ix o i) σ h).wp Q X = (evE T call o σ h).wp (fun x h1 => (evE T call i σ h1).wp (fun y h2 => opt (ixV h2 x y) fun v => Q v h2) X) X := by
  rw [evE]; simp only [wp_bind]; congr; funext x h1; congr; funext y h2; cases ixV h2 x y <;> rfl
theorem wp_sl {o : E} {a b : Option_E} : (evE T call (.sl o a b) σ h).wp Q X = (evE T call o σ h).wp (fun x h1 => (evP T call a σ h1).wp (fun y h2 => (evP T call b σ h2).wp (fun z h3 => (slV h3 x y z).wp Q X) X) X) X := by
  rw [evE]; simp only [wp_bind]
theorem wp_tup {es : Es} : (evE T call (.tup es) σ h).wp Q X = (evEs T call es σ h).wp (fun vs h1 => if vs.length ≤ sizeLine then Q (.tup vs) h1 else False) X := by
  rw [evE]; simp only [wp_bind, wp_ite]; rfl
theorem wp_lst {es : Es} : (evE T call (.lst es) σ h).wp Q X = (evEs T call es σ h).wp (fun vs h1 => if vs.length ≤ sizeLine then Q (.ref h1.size) (h1.push (.lst vs)) else False) X := by
  rw [evE]; simp only [wp_bind, wp_ite]; rfl
theorem wp_dnew {t : Bool} : (evE T call (.dnew t) σ h).wp Q X = Q (.ref h.size) (h.push (if t then .dcT [] else .dct [])) := by
  rw [evE]; rfl
theorem wp_call {f : Nat} {es : Es} {dvs : List Val} : (evE T call (.call f es dvs) σ h).wp Q X = (evEs T call es σ h).wp (fun vs h1 => (call f (vs ++ dvs) h1).wp Q X) X := by
  rw [evE]; simp only [wp_bind]
theorem wp_mk {c : Nat} {es : Es} : (evE T call (.mk c es) σ h).wp Q X = (evEs T call es σ h).wp (fun vs h1 => (make T call c vs h1).wp Q X) X := by
  rw [evE]; simp only [wp_bind]
theorem wp_make {c : Nat} {vs : List Val} : (make T call c vs h).wp Q X = opt (T.init c) fun f => (call f (.ref h.size :: vs) (h.push (.ins c []))).wp (fun v h1 => v = .non ∧ Q (.ref h.size) h1) X := by
  unfold make
  cases T.init c with
  | none => rfl
  | some f =>
    simp only [opt_some]
    cases call f (.ref h.size :: vs) (h.push (.ins c [])) with
    | ok v h1 => cases v <;> simp [R.wp]
    | exc c vs h1 => rfl
    | bad => rfl
theorem wp_meth {o : E} {m : Nat} {es : Es} : (evE T call (.meth o m es) σ h).wp Q X = (evE T call o σ h).wp (fun x h1 => opt (methOf T x m h1) fun f => (evEs T call es σ h1).wp (fun vs h2 => (call f (x :: vs) h2).wp Q X) X) X := by
  rw [evE]; simp only [wp_bind]; congr; funext x h1; cases methOf T x m h1 with
  | none => rfl
  | some f => simp only [wp_bind, opt_some]
theorem wp_methK {o : E} {m : Nat} {es ks : Es} {dvs : List Val} : (evE T call (.methK o m es ks dvs) σ h).wp Q X = (evE T call o σ h).wp (fun x h1 => opt (methOf T x m h1) fun f => (evEs T call es σ h1).wp (fun vs h2 => (evEs T call ks σ h2).wp (fun ws h3 => (call f (x :: (vs ++ (ws ++ dvs))) h3).wp Q X) X) X) X := by
  rw [evE]; simp only [wp_bind]; congr; funext x h1; cases methOf T x m h1 with
  | none => rfl
  | some f => simp only [wp_bind, opt_some]
theorem wp_blt {b : B} {es : Es} : (evE T call (.blt b es) σ h).wp Q X = (evEs T call es σ h).wp (fun vs h1 => (blt b vs h1).wp Q X) X := by
  rw [evE]; simp only [wp_bind]
theorem wp_bm {b : B} {o : E} {es : Es} : (evE T call (.bm b o es) σ h).wp Q X = (evE T call o σ h).wp (fun x h1 => if recv b x h1 = true then (evEs T call es σ h1).wp (fun vs h2 => (blt b (x :: vs) h2).wp Q X) X else False) X := by
  rw [evE]; simp only [wp_bind, wp_ite]; rfl
theorem wp_comp {elt : E} {tg : Tg} {it : It} {c : Option_E} : (evE T call (.comp elt tg it c) σ h).wp Q X = (evIt T call it σ h).wp (fun src h1 =>
    (compL src tg (wipeT tg σ) (fun σ1 h => evO T call c σ1 h) (fun σ1 h => evE T call elt σ1 h) src.items [] h1).wp (fun ys h2 =>
      if ys.length ≤ sizeLine then Q (.ref h2.size) (h2.push (.lst ys)) else False) X) X := by
  rw [evE]; simp only [wp_bind, wp_ite]; rfl
theorem wp_comp2 {elt : E} {t1 t2 : Tg} {i1 i2 : It} : (evE T call (.comp2 elt t1 i1 t2 i2) σ h).wp Q X = (evIt T call i1 σ h).wp (fun src h1 =>
    (compL2 src t1 (wipeT t2 (wipeT t1 σ)) (fun σ1 h => (evIt T call i2 σ1 h).bind fun src2 h2 => compL src2 t2 (wipeT t2 σ1) (fun _ h => .ok true h) (fun σ2 h => evE T call elt σ2 h) src2.items [] h2) src.items [] h1).wp (fun ys h2 =>
      if ys.length ≤ sizeLine then Q (.ref h2.size) (h2.push (.lst ys)) else False) X) X := by
  rw [evE]; simp only [wp_bind, wp_ite]; rfl

theorem wp_pno {Q : Option Int → Heap → Prop} : (evP T call .no σ h).wp Q X = Q none h := by rw [evP]; rfl
theorem wp_pyes {e : E} {Q : Option Int → Heap → Prop} : (evP T call (.yes e) σ h).wp Q X = (evE T call e σ h).wp (fun x h1 => intV x fun i => Q (some i) h1) X := by
  rw [evP]; simp only [wp_bind]; congr; funext x h1; cases x <;> rfl
theorem wp_ono {Q : Bool → Heap → Prop} : (evO T call .no σ h).wp Q X = Q true h := by rw [evO]; rfl
theorem wp_asBool {r : R Val} {Q : Bool → Heap → Prop} : (asBool r).wp Q X = r.wp (fun x h1 => blV x fun b => Q b h1) X := by
  unfold asBool; cases r with
  | ok v h1 => cases v <;> rfl
  | _ => rfl
theorem wp_oyes {e : E} {Q : Bool → Heap → Prop} : (evO T call (.yes e) σ h).wp Q X = (evE T call e σ h).wp (fun x h1 => blV x fun b => Q b h1) X := by
  rw [evO, wp_asBool]
theorem wp_esnil {Q : List Val → Heap → Prop} : (evEs T call .nil σ h).wp Q X = Q [] h := by rw [evEs]; rfl
theorem wp_escons {e : E} {es : Es} {Q : List Val → Heap → Prop} : (evEs T call (.cons e es) σ h).wp Q X = (evE T call e σ h).wp (fun v h1 => (evEs T call es σ h1).wp (fun vs h2 => Q (v :: vs) h2) X) X := by
  rw [evEs]; simp only [wp_bind]; rfl
/-- what is walked over -/
def srcOf (h : Heap) (x : Val) : Option Src := match x with
  | .tup vs => some ⟨none, vs⟩
  | .str s => some ⟨none, s.map fun c => .str [c]⟩
  | .ref a => match h.get a with
    | some (.lst vs) => some ⟨some (a, vs), vs⟩
    | _ => none
  | .glb n => if n = 6 then some ⟨none, h.scr⟩ else none
  | _ => none
theorem wp_over {e : E} {Q : Src → Heap → Prop} : (evIt T call (.over e) σ h).wp Q X = (evE T call e σ h).wp (fun x h1 => opt (srcOf h1 x) fun s => Q s h1) X := by
  rw [evIt]; simp only [wp_bind]; congr; funext x h1; cases x with
  | ref a =>
    simp only [srcOf]
    cases h1.get a with
    | none => rfl
    | some o => cases o <;> rfl
  | glb n => 
    simp only [srcOf]
    split <;> rfl
  | _ => rfl
theorem wp_range1 {a : E} {Q : Src → Heap → Prop} : (evIt T call (.range1 a) σ h).wp Q X = (evE T call a σ h).wp (fun x h1 => intV x fun n => if in62 n = true then Q ⟨none, rangeL 0 1 n.toNat⟩ h1 else False) X := by
  rw [evIt]; simp only [wp_bind]; congr; funext x h1; cases x with
  | int n => simp only [wp_ite]; rfl
  | _ => rfl
theorem wp_range2 {a b : E} {Q : Src → Heap → Prop} : (evIt T call (.range2 a b) σ h).wp Q X = (evE T call a σ h).wp (fun x h1 => (evE T call b σ h1).wp (fun y h2 => intV x fun i => intV y fun j => if (in62 i && in62 j) = true then Q ⟨none, rangeL i 1 (j - i).toNat⟩ h2 else False) X) X := by
  rw [evIt]; simp only [wp_bind]; congr; funext x h1; congr; funext y h2
  cases x <;> cases y <;> first | rfl | (simp only [wp_ite, intV]; rfl)
theorem wp_range3 {a b c : E} {Q : Src → Heap → Prop} : (evIt T call (.range3 a b c) σ h).wp Q X = (evE T call a σ h).wp (fun x h1 => (evE T call b σ h1).wp (fun y h2 => (evE T call c σ h2).wp (fun z h3 => intV x fun i => intV y fun j => intV z fun k => if (in62 i && in62 j && (decide (0 < k) && decide (k < 1073741824))) = true then Q ⟨none, rangeL i k (rangeN i j k)⟩ h3 else False) X) X) X := by
  rw [evIt]; simp only [wp_bind]; congr; funext x h1; congr; funext y h2; congr; funext z h3
  cases x <;> cases y <;> cases z <;> first | rfl | (simp only [wp_ite, intV]; rfl)
theorem wp_enum {e : E} {Q : Src → Heap → Prop} : (evIt T call (.enum e) σ h).wp Q X = (evE T call e σ h).wp (fun x h1 => refV x fun a => opt (lstOf h1 (.ref a)) fun vs => Q ⟨some (a, vs), enumL 0 vs⟩ h1) X := by
  rw [evIt]; simp only [wp_bind]; congr; funext x h1; cases x with
  | ref a =>
    simp only [refV]
    cases lstOf h1 (.ref a) <;> rfl
  | _ => rfl
theorem wp_rev {e : E} {Q : Src → Heap → Prop} : (evIt T call (.rev e) σ h).wp Q X = (evE T call e σ h).wp (fun x h1 => refV x fun a => opt (lstOf h1 (.ref a)) fun vs => Q ⟨some (a, vs), vs.reverse⟩ h1) X := by
  rw [evIt]; simp only [wp_bind]; congr; funext x h1; cases x with
  | ref a =>
    simp only [refV]
    cases lstOf h1 (.ref a) <;> rfl
  | _ => rfl

/-! ### statements -/
theorem wp_nil : (evB T call .nil σ h).wp N E0 = N σ h := by rw [evB]; rfl
theorem wp_cons {s : St} {b : Bk} : (evB T call (.cons s b) σ h).wp N E0 = (evS T call s σ h).wp (fun σ1 h1 => (evB T call b σ1 h1).wp N E0) E0 := by
  rw [evB]; cases evS T call s σ h <;> rfl
theorem wp_ex {e : E} : (evS T call (.ex e) σ h).wp N E0 = (evE T call e σ h).wp (fun _ h1 => N σ h1) (fun c vs h => E0 (.exc c vs σ h)) := by
  rw [evS, wp_st]; rfl
theorem wp_set {tg : Tg} {e : E} : (evS T call (.set tg e) σ h).wp N E0 = (evE T call e σ h).wp (fun v h1 => opt (assignT tg v σ) fun σ1 => N σ1 h1) (fun c vs h => E0 (.exc c vs σ h)) := by
  rw [evS, wp_st]; congr; funext v h1; cases assignT tg v σ <;> rfl
theorem wp_setf {o : E} {f : Nat} {e : E} : (evS T call (.setf o f e) σ h).wp N E0 = (evE T call e σ h).wp (fun v h1 => (evE T call o σ h1).wp (fun x h2 => opt (setF T x f v h2) fun h3 => N σ h3) (fun c vs h => E0 (.exc c vs σ h))) (fun c vs h => E0 (.exc c vs σ h)) := by
  rw [evS, wp_st]; congr; funext v h1; rw [wp_st]; congr; funext x h2; cases setF T x f v h2 <;> rfl
theorem wp_seti {o i e : E} : (evS T call (.seti o i e) σ h).wp N E0 = (evE T call e σ h).wp (fun v h1 => (evE T call o σ h1).wp (fun x h2 => (evE T call i σ h2).wp (fun y h3 => opt (setV h3 x y v) fun h4 => N σ h4) (fun c vs h => E0 (.exc c vs σ h))) (fun c vs h => E0 (.exc c vs σ h))) (fun c vs h => E0 (.exc c vs σ h)) := by
  rw [evS, wp_st]; congr; funext v h1; rw [wp_st]; congr; funext x h2; rw [wp_st]; congr; funext y h3; cases setV h3 x y v <;> rfl
theorem wp_setTF {is : List Nat} {o : E} {f : Nat} {e : E} : (evS T call (.setTF is o f e) σ h).wp N E0 = (evE T call e σ h).wp (fun v h1 => tupV v fun vs => opt vs.getLast? fun z => opt (setSlots is vs.dropLast σ) fun σ1 => (evE T call o σ1 h1).wp (fun x h2 => opt (setF T x f z h2) fun h3 => N σ1 h3) (fun c vs h => E0 (.exc c vs σ1 h))) (fun c vs h => E0 (.exc c vs σ h)) := by
  rw [evS, wp_st]; congr; funext v h1; cases v with
  | tup vs =>
    simp only [tupV]
    cases vs.getLast? with
    | none => rfl
    | some z =>
      simp only [opt_some]
      cases setSlots is vs.dropLast σ with
      | none => rfl
      | some σ1 => simp only [opt_some]; rw [wp_st]; congr; funext x h2; cases setF T x f z h2 <;> rfl
  | _ => rfl
theorem wp_sret {e : E} : (evS T call (.ret e) σ h).wp N E0 = (evE T call e σ h).wp (fun v h1 => E0 (.ret v h1)) (fun c vs h => E0 (.exc c vs σ h)) := by
  rw [evS, wp_st]; rfl
theorem wp_retn : (evS T call .retn σ h).wp N E0 = E0 (.ret .non h) := by rw [evS]; rfl
theorem wp_pass : (evS T call .pass σ h).wp N E0 = N σ h := by rw [evS]; rfl
theorem wp_brk : (evS T call .brk σ h).wp N E0 = E0 (.brk σ h) := by rw [evS]; rfl
theorem wp_cnt : (evS T call .cnt σ h).wp N E0 = E0 (.cnt σ h) := by rw [evS]; rfl
theorem wp_if {c : E} {a b : Bk} : (evS T call (.if_ c a b) σ h).wp N E0 = (evE T call c σ h).wp (fun x h1 => tru x ((evB T call a σ h1).wp N E0) ((evB T call b σ h1).wp N E0)) (fun c vs h => E0 (.exc c vs σ h)) := by
  rw [evS, wp_st]; congr; funext x h1; unfold tru; split <;> simp [wp_fbad]
  split <;> simp_all
theorem wp_for {tg : Tg} {it : It} {b : Bk} : (evS T call (.for_ tg it b) σ h).wp N E0 = (evIt T call it σ h).wp (fun src h1 => (forL src tg (fun σ h => evB T call b σ h) src.items σ h1).wp N E0) (fun c vs h => E0 (.exc c vs σ h)) := by
  rw [evS, wp_st]
theorem wp_while {c : E} {b : Bk} : (evS T call (.while_ c b) σ h).wp N E0 = (whileL (fun σ h => asBool (evE T call c σ h)) (fun σ h => evB T call b σ h) turns σ h).wp N E0 := by
  rw [evS]
theorem wp_raise {c : Nat} {es : Es} : (evS T call (.raise c es) σ h).wp N E0 = opt (T.exf c) fun _ => (evEs T call es σ h).wp (fun vs h1 => E0 (.exc c vs σ h1)) (fun c vs h => E0 (.exc c vs σ h)) := by
  rw [evS]; cases T.exf c with
  | none => rfl
  | some x => simp only [wp_st, opt_some]; rfl
end

theorem call_wp {T : Tab} {n f : Nat} {F : Fn} {vs : List Val} {h : Heap} {Q : Val → Heap → Prop} {X : Nat → List Val → Heap → Prop} (hF : T.fn f = some F) (hl : vs.length = F.np)
    (b : (evB T (callAt T n) F.body (vs.map some ++ List.replicate (F.slots - F.np) none) h).wp (fun _ h => Q .non h) (retE Q X)) : (callAt T (n + 1) f vs h).wp Q X := by
  unfold callAt
  rw [hF]
  unfold runFn
  simp only
  rw [if_pos hl]
  generalize evB T (callAt T n) F.body (vs.map some ++ List.replicate (F.slots - F.np) none) h = r at b ⊢
  cases r <;> first | exact b | exact b.elim

mutual
theorem Val.beq_refl (v : Val) : Val.beq v v = true := by
  cases v with
  | tup vs => rw [Val.beq]; exact Val.beqs_refl vs
  | _ => simp [Val.beq]
theorem Val.beqs_refl (vs : List Val) : Val.beqs vs vs = true := by
  cases vs with
  | nil => rw [Val.beqs]
  | cons v vs => rw [Val.beqs, Val.beq_refl v, Val.beqs_refl vs]; rfl
end

/-! ### the heap -/
/-- what stood, stands -/
def Ext (h h' : Heap) : Prop := h'.scr = h.scr ∧ ∀ a o, h.get a = some o → h'.get a = some o
theorem Ext.refl (h : Heap) : Ext h h := ⟨rfl, fun _ _ e => e⟩
theorem Ext.trans {a b c : Heap} (x : Ext a b) (y : Ext b c) : Ext a c := ⟨y.1.trans x.1, fun i o e => y.2 i o (x.2 i o e)⟩
theorem Ext.push (h : Heap) (o : Obj) : Ext h (h.push o) := ⟨rfl, fun a x e => by
  rw [Heap.get_push, if_neg]
  · exact e
  · have := Heap.get_lt e
    omega⟩
theorem Ext.tpush {a h : Heap} (x : Ext a h) (o : Obj) : Ext a (h.push o) := x.trans (Ext.push h o)
theorem Heap.get_new (h : Heap) (o : Obj) : (h.push o).get h.size = some o := by
  rw [Heap.get_push, if_pos rfl]
/-- a change of what is new -/
theorem Ext.set {a h : Heap} (x : Ext a h) {r : Nat} {o : Obj} (hr : a.get r = none) (hl : r < h.size) : Ext a (h.set r o) := ⟨x.1, fun b y e => by
  rw [Heap.get_set _ _ _ _ hl, if_neg]
  · exact x.2 _ _ e
  · intro q
    rw [q, hr] at e
    cases e⟩
theorem Heap.get_set_ne (h : Heap) {a b : Nat} (o : Obj) (e : b ≠ a) : (h.set a o).get b = h.get b := by
  unfold Heap.set Heap.get
  simp only [Array.getElem?_setIfInBounds]
  rw [if_neg (Ne.symm e)]
theorem Heap.get_set_eq {h : Heap} {a : Nat} {o' : Obj} (o : Obj) (e : h.get a = some o') : (h.set a o).get a = some o := by
  rw [Heap.get_set _ _ _ _ (Heap.get_lt e), if_pos rfl]
theorem Ext.size_none {a h : Heap} (x : Ext a h) : a.get h.size = none := by
  cases e : a.get h.size with
  | none => rfl
  | some o => exact absurd (Heap.get_lt (x.2 _ _ e)) (by omega)

theorem stands_none {h : Heap} {xs : List Val} : stands h ⟨none, xs⟩ = true := (rfl)
theorem stands_some {h : Heap} {a : Nat} {vs xs : List Val} (e : h.get a = some (.lst vs)) : stands h ⟨some (a, vs), xs⟩ = true := by
  unfold stands
  simp only [e]
  exact Val.beqs_refl vs

/-- a for by an invariant: what stands after k items; the items' rows -/
theorem for_inv {src : Src} {tg : Tg} {body : Slots → Heap → Fl} {N : Slots → Heap → Prop} {E0 : Fl → Prop} {items : List Val} (I : Nat → Slots → Heap → Prop)
    (hst : ∀ k σ h, k ≤ items.length → I k σ h → stands h src = true)
    (hstep : ∀ k (hk : k < items.length) σ h, I k σ h → ∃ σ1, assignT tg items[k] σ = some σ1 ∧ (body σ1 h).wp (I (k + 1)) (fun r => match r with
      | .cnt σ h => I (k + 1) σ h
      | .brk σ h => N σ h
      | r => E0 r))
    (hend : ∀ σ h, I items.length σ h → N σ h) {σ : Slots} {h : Heap} (h0 : I 0 σ h) : (forL src tg body items σ h).wp N E0 := by
  have key : ∀ (rest : List Val) (k : Nat) σ h, items.drop k = rest → k ≤ items.length → I k σ h → (forL src tg body rest σ h).wp N E0 := by
    intro rest
    induction rest with
    | nil =>
      intro k σ h hd hk hi
      unfold forL
      rw [if_pos (hst k σ h hk hi)]
      have : k = items.length := by
        have := List.drop_eq_nil_iff.mp hd
        omega
      subst this
      exact hend σ h hi
    | cons v vs ih =>
      intro k σ h hd hk hi
      have hlt : k < items.length := by
        by_cases q : k < items.length
        · exact q
        · rw [List.drop_of_length_le (by omega)] at hd
          cases hd
      have hv : items[k] = v ∧ items.drop (k + 1) = vs := by
        rw [List.drop_eq_getElem_cons hlt] at hd
        cases hd
        exact ⟨rfl, rfl⟩
      unfold forL
      rw [if_pos (hst k σ h hk hi)]
      obtain ⟨σ1, e1, w⟩ := hstep k hlt σ h hi
      rw [← hv.1, e1]
      simp only
      generalize body σ1 h = r at w ⊢
      cases r with
      | nx σ2 h2 => exact ih (k + 1) σ2 h2 hv.2 hlt w
      | cnt σ2 h2 => exact ih (k + 1) σ2 h2 hv.2 hlt w
      | brk σ2 h2 => exact w
      | ret v h2 => exact w
      | exc c vs σ2 h2 => exact w
      | bad => exact w.elim
  exact key items 0 σ h rfl (Nat.zero_le _) h0

theorem rangeL_length (lo s : Int) (n : Nat) : (rangeL lo s n).length = n := by
  induction n generalizing lo with
  | zero => rfl
  | succ n ih => rw [rangeL, List.length_cons, ih]
theorem rangeL_get (lo s : Int) (n k : Nat) (hk : k < (rangeL lo s n).length) : (rangeL lo s n)[k] = .int (lo + k * s) := by
  induction n generalizing lo k with
  | zero => rw [rangeL_length] at hk; omega
  | succ n ih =>
    cases k with
    | zero => simp [rangeL]
    | succ k =>
      simp only [rangeL, List.getElem_cons_succ]
      rw [ih]
      congr 1
      rw [Int.natCast_add, Int.add_mul]
      simp only [Int.natCast_one, Int.one_mul]
      omega
theorem enumL_length (k : Int) (vs : List Val) : (enumL k vs).length = vs.length := by
  induction vs generalizing k with
  | nil => rfl
  | cons v vs ih => rw [enumL, List.length_cons, ih, List.length_cons]
theorem enumL_get (i : Int) (vs : List Val) (k : Nat) (hk : k < (enumL i vs).length) : (enumL i vs)[k] = .tup [.int (i + k), vs[k]'(by rw [enumL_length] at hk; exact hk)] := by
  induction vs generalizing i k with
  | nil => simp [enumL] at hk
  | cons v vs ih =>
    cases k with
    | zero => simp [enumL]
    | succ k =>
      simp only [enumL, List.getElem_cons_succ]
      rw [ih]
      congr 3
      omega

/-- for k in range(n), from 0 -/
theorem for_range {i n : Nat} {body : Slots → Heap → Fl} {N : Slots → Heap → Prop} {E0 : Fl → Prop} (I : Nat → Slots → Heap → Prop)
    (hstep : ∀ k < n, ∀ σ h, I k σ h → (body (σ.set i (some (.int k))) h).wp (I (k + 1)) (fun r => match r with
      | .cnt σ h => I (k + 1) σ h
      | .brk σ h => N σ h
      | r => E0 r))
    (hend : ∀ σ h, I n σ h → N σ h) {σ : Slots} {h : Heap} (h0 : I 0 σ h) : (forL ⟨none, rangeL 0 1 n⟩ (.one i) body (rangeL 0 1 n) σ h).wp N E0 := by
  refine for_inv I (fun _ _ _ _ _ => rfl) (fun k hk σ h hi => ⟨σ.set i (some (.int k)), ?_, ?_⟩) (fun σ h => by rw [rangeL_length]; exact hend σ h) h0
  · rw [rangeL_get]; simp [assignT]
  · exact hstep k (by rw [rangeL_length] at hk; exact hk) σ h hi

/-- a comprehension by an invariant: the items that were made -/
theorem comp_inv {src : Src} {tg : Tg} {σ : Slots} {cond : Slots → Heap → R Bool} {elt : Slots → Heap → R Val} {Q : List Val → Heap → Prop} {X : Nat → List Val → Heap → Prop} {items : List Val} (I : Nat → List Val → Heap → Prop)
    (hst : ∀ k acc h, k ≤ items.length → I k acc h → stands h src = true)
    (hstep : ∀ k (hk : k < items.length) acc h, I k acc h → ∃ σ1, assignT tg items[k] σ = some σ1 ∧ (cond σ1 h).wp (fun b h1 => if b = true then (elt σ1 h1).wp (fun y h2 => I (k + 1) (acc ++ [y]) h2) nox else I (k + 1) acc h1) nox)
    (hend : ∀ acc h, I items.length acc h → Q acc h) {h : Heap} (h0 : I 0 [] h) : (compL src tg σ cond elt items [] h).wp Q X := by
  have key : ∀ (rest : List Val) (k : Nat) acc h, items.drop k = rest → k ≤ items.length → I k acc h → (compL src tg σ cond elt rest acc h).wp Q X := by
    intro rest
    induction rest with
    | nil =>
      intro k acc h hd hk hi
      unfold compL
      rw [if_pos (hst k acc h hk hi)]
      have : k = items.length := by
        have := List.drop_eq_nil_iff.mp hd
        omega
      subst this
      exact hend acc h hi
    | cons v vs ih =>
      intro k acc h hd hk hi
      have hlt : k < items.length := by
        by_cases q : k < items.length
        · exact q
        · rw [List.drop_of_length_le (by omega)] at hd
          cases hd
      have hv : items[k] = v ∧ items.drop (k + 1) = vs := by
        rw [List.drop_eq_getElem_cons hlt] at hd
        cases hd
        exact ⟨rfl, rfl⟩
      unfold compL
      rw [if_pos (hst k acc h hk hi)]
      obtain ⟨σ1, e1, w⟩ := hstep k hlt acc h hi
      rw [← hv.1, e1]
      simp only
      generalize cond σ1 h = r at w ⊢
      cases r with
      | ok b h1 =>
        cases b with
        | false => exact ih (k + 1) acc h1 hv.2 hlt w
        | true =>
          have w : (elt σ1 h1).wp (fun y h2 => I (k + 1) (acc ++ [y]) h2) nox := w
          simp only
          generalize elt σ1 h1 = r2 at w ⊢
          cases r2 with
          | ok y h2 => exact ih (k + 1) _ h2 hv.2 hlt w
          | exc _ _ _ => exact w.elim
          | bad => exact w.elim
      | exc _ _ _ => exact w.elim
      | bad => exact w.elim
  exact key items 0 [] h rfl (Nat.zero_le _) h0
/-- a comprehension of pure items, which leave the heap longer -/
theorem comp_map {src : Src} {tg : Tg} {σ : Slots} {elt : Slots → Heap → R Val} {Q : List Val → Heap → Prop} {X : Nat → List Val → Heap → Prop} {cond : Slots → Heap → R Bool} {items : List Val} {h : Heap} (f : Val → Val)
    (hc : ∀ σ h, cond σ h = .ok true h)
    (hst : ∀ h', Ext h h' → stands h' src = true)
    (hstep : ∀ k (hk : k < items.length) h', Ext h h' → ∃ σ1, assignT tg items[k] σ = some σ1 ∧ (elt σ1 h').wp (fun y h2 => y = f items[k] ∧ Ext h h2) nox)
    (hend : ∀ h', Ext h h' → Q (items.map f) h') : (compL src tg σ cond elt items [] h).wp Q X := by
  refine comp_inv (fun k acc h' => acc = (items.take k).map f ∧ Ext h h') (fun k acc h' _ i => hst h' i.2) (fun k hk acc h' i => ?_) (fun acc h' i => ?_) ⟨rfl, Ext.refl h⟩
  · obtain ⟨σ1, e, w⟩ := hstep k hk h' i.2
    refine ⟨σ1, e, ?_⟩
    rw [hc]
    refine w.post fun y h2 q => ⟨?_, q.2⟩
    rw [q.1, i.1, List.take_succ_eq_append_getElem hk, List.map_append]
    rfl
  · have e := i.1
    rw [List.take_length] at e
    rw [e]
    exact hend h' i.2
theorem comp2_inv {src : Src} {tg : Tg} {σ : Slots} {inner : Slots → Heap → R (List Val)} {Q : List Val → Heap → Prop} {X : Nat → List Val → Heap → Prop} {items : List Val} (I : Nat → List Val → Heap → Prop)
    (hst : ∀ k acc h, k ≤ items.length → I k acc h → stands h src = true)
    (hstep : ∀ k (hk : k < items.length) acc h, I k acc h → ∃ σ1, assignT tg items[k] σ = some σ1 ∧ (inner σ1 h).wp (fun ys h2 => I (k + 1) (acc ++ ys) h2) nox)
    (hend : ∀ acc h, I items.length acc h → Q acc h) {h : Heap} (h0 : I 0 [] h) : (compL2 src tg σ inner items [] h).wp Q X := by
  have key : ∀ (rest : List Val) (k : Nat) acc h, items.drop k = rest → k ≤ items.length → I k acc h → (compL2 src tg σ inner rest acc h).wp Q X := by
    intro rest
    induction rest with
    | nil =>
      intro k acc h hd hk hi
      unfold compL2
      rw [if_pos (hst k acc h hk hi)]
      have : k = items.length := by
        have := List.drop_eq_nil_iff.mp hd
        omega
      subst this
      exact hend acc h hi
    | cons v vs ih =>
      intro k acc h hd hk hi
      have hlt : k < items.length := by
        by_cases q : k < items.length
        · exact q
        · rw [List.drop_of_length_le (by omega)] at hd
          cases hd
      have hv : items[k] = v ∧ items.drop (k + 1) = vs := by
        rw [List.drop_eq_getElem_cons hlt] at hd
        cases hd
        exact ⟨rfl, rfl⟩
      unfold compL2
      rw [if_pos (hst k acc h hk hi)]
      obtain ⟨σ1, e1, w⟩ := hstep k hlt acc h hi
      rw [← hv.1, e1]
      simp only
      generalize inner σ1 h = r at w ⊢
      cases r with
      | ok ys h1 => exact ih (k + 1) _ h1 hv.2 hlt w
      | exc _ _ _ => exact w.elim
      | bad => exact w.elim
  exact key items 0 [] h rfl (Nat.zero_le _) h0
end M
end

section
set_option linter.all false
set_option Elab.async false
/-! W2: what operations come to. -/
namespace M
section
variable {h : Heap} {Q : Val → Heap → Prop} {X : Nat → List Val → Heap → Prop}
theorem ite_and {c P : Prop} [Decidable c] : (if c then P else False) = (c ∧ P) := by
  by_cases e : c <;> simp [e]
theorem opt_ite {α : Type} {c : Prop} [Decidable c] {a : α} {Q : α → Prop} : opt (if c then some a else none) Q = (c ∧ Q a) := by
  by_cases e : c <;> simp [e, opt]
theorem wp_binI {op : Op} {i j : Int} : (binV op (.int i) (.int j) h).wp Q X = opt (binI op i j) fun k => Q (.int k) h := by
  unfold binV; simp only; cases binI op i j <;> rfl
theorem binI_add {i j : Int} : binI .add i j = some (i + j) := (rfl)
theorem binI_sub {i j : Int} : binI .sub i j = some (i - j) := (rfl)
theorem binI_mul {i j : Int} : binI .mul i j = if (small64 i || small64 j) = true then some (i * j) else none := (rfl)
theorem binI_fdiv {i j : Int} : binI .fdiv i j = if 0 < j ∧ j < 1073741824 then some (i / j) else none := (rfl)
theorem binI_mod {i j : Int} : binI .mod i j = if 0 < j then some (i % j) else none := (rfl)
theorem binI_shr {i j : Int} : binI .shr i j = if 0 ≤ j then some (i / 2 ^ j.toNat) else none := (rfl)
theorem binI_band {i j : Int} : binI .band i j = if 0 ≤ i ∧ 0 ≤ j then some (natAnd i j) else none := (rfl)
theorem binI_bxor {i j : Int} : binI .bxor i j = if 0 ≤ i ∧ 0 ≤ j then some (natXor i j) else none := (rfl)
theorem binI_pow {i j : Int} : binI .pow i j = if 0 ≤ j ∧ j ≤ 1000000 ∧ i.natAbs < 2 ^ 64 then some (i ^ j.toNat) else none := (rfl)
theorem cmp_lt {i j : Int} : cmpV .lt (.int i) (.int j) h = some (decide (i < j)) := (rfl)
theorem cmp_le {i j : Int} : cmpV .le (.int i) (.int j) h = some (decide (i ≤ j)) := (rfl)
theorem cmp_gt {i j : Int} : cmpV .gt (.int i) (.int j) h = some (decide (j < i)) := (rfl)
theorem cmp_ge {i j : Int} : cmpV .ge (.int i) (.int j) h = some (decide (j ≤ i)) := (rfl)
theorem cmp_eqI {i j : Int} : cmpV .eq (.int i) (.int j) h = some (decide (i = j)) := by
  unfold cmpV eqV; simp [scal, Val.beq]
theorem cmp_neI {i j : Int} : cmpV .ne (.int i) (.int j) h = some (!decide (i = j)) := by
  unfold cmpV eqV; simp [scal, Val.beq]
theorem cmp_eqS {i j : Sg} : cmpV .eq (.str i) (.str j) h = some (decide (i = j)) := by
  unfold cmpV eqV; simp [scal, Val.beq]
theorem cmp_neS {i j : Sg} : cmpV .ne (.str i) (.str j) h = some (!decide (i = j)) := by
  unfold cmpV eqV; simp [scal, Val.beq]
theorem ixN_nat {n k : Nat} (hk : k < n) : ixN n (k : Int) = some k := by
  unfold ixN
  rw [if_pos (by omega), if_pos (by omega)]
  simp
theorem ix_lst {a : Nat} {vs : List Val} (e : h.get a = some (.lst vs)) {k : Nat} (hk : k < vs.length) : ixV h (.ref a) (.int (k : Int)) = some vs[k] := by
  unfold ixV
  simp only [e]
  rw [ixN_nat hk]
  simp [hk]
theorem ix_tup {vs : List Val} {k : Nat} (hk : k < vs.length) : ixV h (.tup vs) (.int (k : Int)) = some vs[k] := by
  unfold ixV
  simp only
  rw [ixN_nat hk]
  simp [hk]
theorem set_lst {a : Nat} {vs : List Val} (e : h.get a = some (.lst vs)) {k : Nat} (hk : k < vs.length) (v : Val) : setV h (.ref a) (.int (k : Int)) v = some (h.set a (.lst (vs.set k v))) := by
  unfold setV
  simp only [e]
  rw [ixN_nat hk]
  rfl
theorem lstOf_ref {a : Nat} {vs : List Val} (e : h.get a = some (.lst vs)) : lstOf h (.ref a) = some vs := by
  unfold lstOf; simp only [e]
theorem len_lst {a : Nat} {vs : List Val} (e : h.get a = some (.lst vs)) : (blt .len [.ref a] h).wp Q X = Q (.int vs.length) h := by
  unfold blt on1 bLen; simp only [e]; rfl
theorem len_tup {vs : List Val} : (blt .len [.tup vs] h).wp Q X = Q (.int vs.length) h := (rfl)
theorem list_ref {a : Nat} {vs : List Val} (e : h.get a = some (.lst vs)) : (blt .list [.ref a] h).wp Q X = Q (.ref h.size) (h.push (.lst vs)) := by
  unfold blt on1 bList seqOf; simp only [lstOf_ref e]; rfl
theorem tuple_ref {a : Nat} {vs : List Val} (e : h.get a = some (.lst vs)) : (blt .tuple [.ref a] h).wp Q X = Q (.tup vs) h := by
  unfold blt on1 bTuple seqOf; simp only [lstOf_ref e]; rfl
theorem revList_ref {a : Nat} {vs : List Val} (e : h.get a = some (.lst vs)) : (blt .revList [.ref a] h).wp Q X = Q (.ref h.size) (h.push (.lst vs.reverse)) := by
  unfold blt on1 bRevList; simp only [lstOf_ref e]; rfl
theorem mul_lst {a : Nat} {vs : List Val} (e : h.get a = some (.lst vs)) {n : Int} : (binV .mul (.ref a) (.int n) h).wp Q X = ((vs.length * n.toNat ≤ sizeLine ∧ in62 n = true) ∧ Q (.ref h.size) (h.push (.lst (rep n.toNat vs)))) := by
  unfold binV; simp only [lstOf_ref e]
  rw [wp_ite, wp_bad, ite_and]; rfl
theorem add_lst {a b : Nat} {vs ws : List Val} (e : h.get a = some (.lst vs)) (e2 : h.get b = some (.lst ws)) : (binV .add (.ref a) (.ref b) h).wp Q X = ((vs.length + ws.length ≤ sizeLine) ∧ Q (.ref h.size) (h.push (.lst (vs ++ ws)))) := by
  unfold binV; simp only [lstOf_ref e, lstOf_ref e2]
  rw [wp_ite, wp_bad, ite_and]; rfl
theorem rep_one (n : Nat) (v : Val) : rep n [v] = List.replicate n v := by
  induction n with
  | zero => rfl
  | succ n ih => rw [rep, ih]; rfl
theorem slV_lst {a : Nat} {vs : List Val} (e : h.get a = some (.lst vs)) {lo hi : Option Int} : (slV h (.ref a) lo hi).wp Q X = Q (.ref h.size) (h.push (.lst (cutL vs lo hi))) := by
  unfold slV; simp only [lstOf_ref e]; rfl
theorem append_lst {a : Nat} {vs : List Val} (e : h.get a = some (.lst vs)) {y : Val} : (blt .append [.ref a, y] h).wp Q X = (vs.length < sizeLine ∧ Q .non (h.set a (.lst (vs ++ [y])))) := by
  unfold blt on2 bAppend; simp only [e]
  rw [wp_ite, wp_bad, ite_and]; rfl
theorem extend_tup {a : Nat} {vs ws : List Val} (e : h.get a = some (.lst vs)) : (blt .extend [.ref a, .tup ws] h).wp Q X = (vs.length + ws.length ≤ sizeLine ∧ Q .non (h.set a (.lst (vs ++ ws)))) := by
  unfold blt on2 bExtend; simp only [e, extOf]
  rw [wp_ite, wp_bad, ite_and]
  simp only [R.wp, Val.beq]
  simp
theorem recv_append {a : Nat} {vs : List Val} (e : h.get a = some (.lst vs)) : recv .append (.ref a) h = true := by
  unfold recv; simp only [e]
theorem recv_extend {a : Nat} {vs : List Val} (e : h.get a = some (.lst vs)) : recv .extend (.ref a) h = true := by
  unfold recv; simp only [e]
theorem srcOf_lst {a : Nat} {vs : List Val} (e : h.get a = some (.lst vs)) : srcOf h (.ref a) = some ⟨some (a, vs), vs⟩ := by
  unfold srcOf; simp only [e]
theorem max_int {i j : Int} : (blt .max [.int i, .int j] h).wp Q X = Q (.int (if j > i then j else i)) h := (rfl)
theorem int_int {i : Int} : (blt .int [.int i] h).wp Q X = Q (.int i) h := (rfl)
theorem eqn_get {a : Nat} {c : Nat} {fs : List (Nat × Val)} (e : h.get a = some (.ins c fs)) {T : Tab} {call : Nat → List Val → Heap → R Val} {f : Nat} {v : Val} (hf : lookF f fs = some v) : (getF T call (.ref a) f h).wp Q X = Q v h := by
  unfold getF; simp only [e, hf]; rfl
theorem meth_ref {a : Nat} {c m : Nat} {fs : List (Nat × Val)} (e : h.get a = some (.ins c fs)) {T : Tab} (hf : lookF m fs = none) : methOf T (.ref a) m h = T.meth c m := by
  unfold methOf; simp only [e, hf]
theorem setF_ref {a : Nat} {c f : Nat} {fs : List (Nat × Val)} {v : Val} (e : h.get a = some (.ins c fs)) {T : Tab} (hf : T.fld c f = true) (hl : fs.length < 1000) : setF T (.ref a) f v h = some (h.set a (.ins c (putF f v fs))) := by
  unfold setF; simp only [e]; rw [if_pos ⟨hf, hl⟩]
end
end M
namespace M
theorem size_ok {n : Nat} (h : n < 100000) : n ≤ sizeLine := by unfold sizeLine; omega
theorem one_le : 1 ≤ sizeLine := size_ok (by omega)
theorem two_le : 2 ≤ sizeLine := size_ok (by omega)
theorem zero_le : 0 ≤ sizeLine := size_ok (by omega)
end M
end

section
set_option linter.all false
set_option Elab.async false
namespace M
/-- the law's table -/
def TT : Tab where
  fn f := codeL.lookup f
  meth c m := methL.lookup (c, m)
  init c := initL.lookup c
  prop _ _ := none
  exf _ := none
  sub _ _ := false
  fld c f := fldL.contains (c, f)
end M
end

section
set_option linter.all false
set_option Elab.async false
set_option maxRecDepth 10000
/-! P1: the codes: what the defs come to. -/
namespace M
def bI (b : Bool) : Val := .int (if b then 1 else 0)
def pairB (s : Nat) (b : Bool) : Bool × Bool := let o := (s.testBit 1) ^^ (s.testBit 0); (b ^^ o, (b ^^ o) ^^ s.testBit 3)
def nxS (s : Nat) (b : Bool) : Nat := 8 * b.toNat + s / 2
theorem nxS_lt {s : Nat} {b : Bool} (h : s < 16) : nxS s b < 16 := by unfold nxS; cases b <;> simp <;> omega
theorem lt16 {P : Nat → Prop} (h0 : P 0) (h1 : P 1) (h2 : P 2) (h3 : P 3) (h4 : P 4) (h5 : P 5) (h6 : P 6) (h7 : P 7) (h8 : P 8) (h9 : P 9) (h10 : P 10) (h11 : P 11) (h12 : P 12) (h13 : P 13) (h14 : P 14) (h15 : P 15) : ∀ s < 16, P s := by
  intro s hs
  have : s = 0 ∨ s = 1 ∨ s = 2 ∨ s = 3 ∨ s = 4 ∨ s = 5 ∨ s = 6 ∨ s = 7 ∨ s = 8 ∨ s = 9 ∨ s = 10 ∨ s = 11 ∨ s = 12 ∨ s = 13 ∨ s = 14 ∨ s = 15 := by omega
  rcases this with rfl | rfl | rfl | rfl | rfl | rfl | rfl | rfl | rfl | rfl | rfl | rfl | rfl | rfl | rfl | rfl <;> assumption
theorem small_ok {i j : Int} (h : small64 i = true) : (small64 i || small64 j) = true := by rw [h]; rfl
theorem small_ok2 {i j : Int} (h : small64 j = true) : (small64 i || small64 j) = true := by rw [h]; cases small64 i <;> rfl
theorem fn_pair_of : TT.fn 225 = some c_pair_of := rfl
theorem pair_of_eq (n : Nat) (h : Heap) (b : Bool) : ∀ s < 16, callAt TT (n + 1) 225 [.int (s : Nat), bI b] h = .ok (.tup [bI (pairB s b).1, bI (pairB s b).2]) h := by
  refine lt16 ?_ ?_ ?_ ?_ ?_ ?_ ?_ ?_ ?_ ?_ ?_ ?_ ?_ ?_ ?_ ?_ <;> cases b <;> rfl
/-- a step of the decoder, as a row: state j / 2, bit j % 2 -/
def stepV (j : Nat) : Val := .tup [.int (j / 2 : Nat), bI (decide (j % 2 = 1)), bI (pairB (j / 2) (decide (j % 2 = 1))).1, bI (pairB (j / 2) (decide (j % 2 = 1))).2, .int (nxS (j / 2) (decide (j % 2 = 1)) : Nat)]
theorem fn_steps : TT.fn 255 = some c_steps := rfl
theorem steps_wp (n : Nat) (h : Heap) {X : Nat → List Val → Heap → Prop} : (callAt TT (n + 2) 255 [] h).wp (fun v h' => ∃ r, v = .ref r ∧ h.get r = none ∧ h'.get r = some (.lst ((List.range 32).map stepV)) ∧ Ext h h') X := by
  refine call_wp fn_steps rfl ?_
  unfold c_steps
  simp only [wp_ok, wp_bad, wp_bind, wp_ite, wp_nx, wp_ret, wp_fbad, wp_st, retE_ret, retE_exc, opt_some, opt_none, tru_bl, slotQ_some, intV_int, blV_bl, refV_ref, tupV_tup, wp_loc, wp_cint, wp_cstr, wp_cbl, wp_cnon, wp_cval, wp_bin, wp_neg, wp_nt, wp_cmp, wp_chain, wp_is, wp_and, wp_or, wp_ife, wp_fld, wp_ix, wp_sl, wp_tup, wp_lst, wp_dnew, wp_call, wp_mk, wp_make, wp_meth, wp_methK, wp_blt, wp_bm, wp_pno, wp_pyes, wp_ono, wp_oyes, wp_esnil, wp_escons, wp_over, wp_range1, wp_range2, wp_range3, wp_enum, wp_rev, wp_nil, wp_cons, wp_ex, wp_set, wp_setf, wp_seti, wp_setTF, wp_sret, wp_retn, wp_pass, wp_brk, wp_cnt, wp_if, wp_for, wp_while, wp_binI, binI_add, binI_sub, binI_mul, binI_fdiv, binI_mod, binI_shr, binI_band, binI_bxor, binI_pow, cmp_lt, cmp_le, cmp_gt, cmp_ge, cmp_eqI, cmp_neI, cmp_eqS, cmp_neS, opt_ite, ite_and, List.getElem?_cons_zero, List.getElem?_cons_succ, List.set_cons_zero, List.set_cons_succ, List.length_cons, List.length_nil, List.append_nil, List.map_cons, List.map_nil, assignT, setSlots, List.cons_append, List.nil_append, Nat.reduceSub, Nat.reduceAdd, decide_eq_true_eq, if_true, if_false, Bool.false_eq_true, Bool.not_true, Bool.not_false, beq_true, beq_false, decide_true, decide_false, List.replicate_zero, List.replicate_succ, true_and, and_true]
  refine ⟨by decide, ?_⟩
  rw [show in62 16 = true from rfl, show (16 : Int).toNat = 16 from rfl]
  refine ⟨rfl, ?_⟩
  refine for_range (fun k σ h' => ∃ a b c d, σ = [some (.ref h.size), a, b, c, d] ∧ h'.get h.size = some (.lst ((List.range (2 * k)).map stepV)) ∧ Ext h h') ?_ ?_ ?_
  · rintro k hk σ h' ⟨a, b, c, d, rfl, hr, hx⟩
    simp only [wp_ok, wp_bad, wp_bind, wp_ite, wp_nx, wp_ret, wp_fbad, wp_st, retE_ret, retE_exc, opt_some, opt_none, tru_bl, slotQ_some, intV_int, blV_bl, refV_ref, tupV_tup, wp_loc, wp_cint, wp_cstr, wp_cbl, wp_cnon, wp_cval, wp_bin, wp_neg, wp_nt, wp_cmp, wp_chain, wp_is, wp_and, wp_or, wp_ife, wp_fld, wp_ix, wp_sl, wp_tup, wp_lst, wp_dnew, wp_call, wp_mk, wp_make, wp_meth, wp_methK, wp_blt, wp_bm, wp_pno, wp_pyes, wp_ono, wp_oyes, wp_esnil, wp_escons, wp_over, wp_range1, wp_range2, wp_range3, wp_enum, wp_rev, wp_nil, wp_cons, wp_ex, wp_set, wp_setf, wp_seti, wp_setTF, wp_sret, wp_retn, wp_pass, wp_brk, wp_cnt, wp_if, wp_for, wp_while, wp_binI, binI_add, binI_sub, binI_mul, binI_fdiv, binI_mod, binI_shr, binI_band, binI_bxor, binI_pow, cmp_lt, cmp_le, cmp_gt, cmp_ge, cmp_eqI, cmp_neI, cmp_eqS, cmp_neS, opt_ite, ite_and, List.getElem?_cons_zero, List.getElem?_cons_succ, List.set_cons_zero, List.set_cons_succ, List.length_cons, List.length_nil, List.append_nil, List.map_cons, List.map_nil, assignT, setSlots, List.cons_append, List.nil_append, Nat.reduceSub, Nat.reduceAdd, decide_eq_true_eq, if_true, if_false, Bool.false_eq_true, Bool.not_true, Bool.not_false, beq_true, beq_false, decide_true, decide_false, List.replicate_zero, List.replicate_succ, true_and, and_true]
    refine ⟨rfl, ?_⟩
    rw [show (2 : Int).toNat = 2 from rfl]
    refine for_range (fun j σ h' => ∃ b c d, σ = [some (.ref h.size), some (.int k), b, c, d] ∧ h'.get h.size = some (.lst ((List.range (2 * k + j)).map stepV)) ∧ Ext h h') ?_ ?_ ?_
    · rintro j hj σ h' ⟨b, c, d, rfl, hr, hx⟩
      simp only [wp_ok, wp_bad, wp_bind, wp_ite, wp_nx, wp_ret, wp_fbad, wp_st, retE_ret, retE_exc, opt_some, opt_none, tru_bl, slotQ_some, intV_int, blV_bl, refV_ref, tupV_tup, wp_loc, wp_cint, wp_cstr, wp_cbl, wp_cnon, wp_cval, wp_bin, wp_neg, wp_nt, wp_cmp, wp_chain, wp_is, wp_and, wp_or, wp_ife, wp_fld, wp_ix, wp_sl, wp_tup, wp_lst, wp_dnew, wp_call, wp_mk, wp_make, wp_meth, wp_methK, wp_blt, wp_bm, wp_pno, wp_pyes, wp_ono, wp_oyes, wp_esnil, wp_escons, wp_over, wp_range1, wp_range2, wp_range3, wp_enum, wp_rev, wp_nil, wp_cons, wp_ex, wp_set, wp_setf, wp_seti, wp_setTF, wp_sret, wp_retn, wp_pass, wp_brk, wp_cnt, wp_if, wp_for, wp_while, wp_binI, binI_add, binI_sub, binI_mul, binI_fdiv, binI_mod, binI_shr, binI_band, binI_bxor, binI_pow, cmp_lt, cmp_le, cmp_gt, cmp_ge, cmp_eqI, cmp_neI, cmp_eqS, cmp_neS, opt_ite, ite_and, List.getElem?_cons_zero, List.getElem?_cons_succ, List.set_cons_zero, List.set_cons_succ, List.length_cons, List.length_nil, List.append_nil, List.map_cons, List.map_nil, assignT, setSlots, List.cons_append, List.nil_append, Nat.reduceSub, Nat.reduceAdd, decide_eq_true_eq, if_true, if_false, Bool.false_eq_true, Bool.not_true, Bool.not_false, beq_true, beq_false, decide_true, decide_false, List.replicate_zero, List.replicate_succ, true_and, and_true]
      have e : (.int (j : Nat) : Val) = bI (decide (j = 1)) := by
        match j, hj with
        | 0, _ => rfl
        | 1, _ => rfl
      rw [e, pair_of_eq _ _ _ _ hk]
      simp only [wp_ok, wp_bad, wp_bind, wp_ite, wp_nx, wp_ret, wp_fbad, wp_st, retE_ret, retE_exc, opt_some, opt_none, tru_bl, slotQ_some, intV_int, blV_bl, refV_ref, tupV_tup, wp_loc, wp_cint, wp_cstr, wp_cbl, wp_cnon, wp_cval, wp_bin, wp_neg, wp_nt, wp_cmp, wp_chain, wp_is, wp_and, wp_or, wp_ife, wp_fld, wp_ix, wp_sl, wp_tup, wp_lst, wp_dnew, wp_call, wp_mk, wp_make, wp_meth, wp_methK, wp_blt, wp_bm, wp_pno, wp_pyes, wp_ono, wp_oyes, wp_esnil, wp_escons, wp_over, wp_range1, wp_range2, wp_range3, wp_enum, wp_rev, wp_nil, wp_cons, wp_ex, wp_set, wp_setf, wp_seti, wp_setTF, wp_sret, wp_retn, wp_pass, wp_brk, wp_cnt, wp_if, wp_for, wp_while, wp_binI, binI_add, binI_sub, binI_mul, binI_fdiv, binI_mod, binI_shr, binI_band, binI_bxor, binI_pow, cmp_lt, cmp_le, cmp_gt, cmp_ge, cmp_eqI, cmp_neI, cmp_eqS, cmp_neS, opt_ite, ite_and, List.getElem?_cons_zero, List.getElem?_cons_succ, List.set_cons_zero, List.set_cons_succ, List.length_cons, List.length_nil, List.append_nil, List.map_cons, List.map_nil, assignT, setSlots, List.cons_append, List.nil_append, Nat.reduceSub, Nat.reduceAdd, decide_eq_true_eq, if_true, if_false, Bool.false_eq_true, Bool.not_true, Bool.not_false, beq_true, beq_false, decide_true, decide_false, List.replicate_zero, List.replicate_succ, true_and, and_true]
      rw [recv_append hr]
      simp only [bI, wp_ok, wp_bad, wp_bind, wp_ite, wp_nx, wp_ret, wp_fbad, wp_st, retE_ret, retE_exc, opt_some, opt_none, tru_bl, slotQ_some, intV_int, blV_bl, refV_ref, tupV_tup, wp_loc, wp_cint, wp_cstr, wp_cbl, wp_cnon, wp_cval, wp_bin, wp_neg, wp_nt, wp_cmp, wp_chain, wp_is, wp_and, wp_or, wp_ife, wp_fld, wp_ix, wp_sl, wp_tup, wp_lst, wp_dnew, wp_call, wp_mk, wp_make, wp_meth, wp_methK, wp_blt, wp_bm, wp_pno, wp_pyes, wp_ono, wp_oyes, wp_esnil, wp_escons, wp_over, wp_range1, wp_range2, wp_range3, wp_enum, wp_rev, wp_nil, wp_cons, wp_ex, wp_set, wp_setf, wp_seti, wp_setTF, wp_sret, wp_retn, wp_pass, wp_brk, wp_cnt, wp_if, wp_for, wp_while, wp_binI, binI_add, binI_sub, binI_mul, binI_fdiv, binI_mod, binI_shr, binI_band, binI_bxor, binI_pow, cmp_lt, cmp_le, cmp_gt, cmp_ge, cmp_eqI, cmp_neI, cmp_eqS, cmp_neS, opt_ite, ite_and, List.getElem?_cons_zero, List.getElem?_cons_succ, List.set_cons_zero, List.set_cons_succ, List.length_cons, List.length_nil, List.append_nil, List.map_cons, List.map_nil, assignT, setSlots, List.cons_append, List.nil_append, Nat.reduceSub, Nat.reduceAdd, decide_eq_true_eq, if_true, if_false, Bool.false_eq_true, Bool.not_true, Bool.not_false, beq_true, beq_false, decide_true, decide_false, List.replicate_zero, List.replicate_succ, true_and, and_true]
      refine ⟨small_ok rfl, by decide, by decide, ?_⟩
      rw [append_lst hr]
      refine ⟨by simp [sizeLine]; omega, ?_⟩
      refine ⟨_, _, _, rfl, ?_, hx.set (Heap.get_ge (Nat.le_refl _)) ?_⟩
      · rw [Heap.get_set_eq _ hr]
        congr 2
        rw [← Nat.add_assoc, List.range_succ, List.map_append, List.map_singleton]
        congr 2
        have h1 : (2 * k + j) / 2 = k := by omega
        have h2 : (2 * k + j) % 2 = j := by omega
        unfold stepV
        rw [h1, h2]
        simp only [bI]
        match j, hj with
        | 0, _ => simp [nxS]
        | 1, _ => simp [nxS]
      · exact Heap.get_lt hr
    · rintro σ h' ⟨b, c, d, rfl, hr, hx⟩
      exact ⟨_, _, _, _, rfl, hr, hx⟩
    · exact ⟨_, _, _, rfl, hr, hx⟩
  · rintro σ h' ⟨a, b, c, d, rfl, hr, hx⟩
    simp only [wp_ok, wp_bad, wp_bind, wp_ite, wp_nx, wp_ret, wp_fbad, wp_st, retE_ret, retE_exc, opt_some, opt_none, tru_bl, slotQ_some, intV_int, blV_bl, refV_ref, tupV_tup, wp_loc, wp_cint, wp_cstr, wp_cbl, wp_cnon, wp_cval, wp_bin, wp_neg, wp_nt, wp_cmp, wp_chain, wp_is, wp_and, wp_or, wp_ife, wp_fld, wp_ix, wp_sl, wp_tup, wp_lst, wp_dnew, wp_call, wp_mk, wp_make, wp_meth, wp_methK, wp_blt, wp_bm, wp_pno, wp_pyes, wp_ono, wp_oyes, wp_esnil, wp_escons, wp_over, wp_range1, wp_range2, wp_range3, wp_enum, wp_rev, wp_nil, wp_cons, wp_ex, wp_set, wp_setf, wp_seti, wp_setTF, wp_sret, wp_retn, wp_pass, wp_brk, wp_cnt, wp_if, wp_for, wp_while, wp_binI, binI_add, binI_sub, binI_mul, binI_fdiv, binI_mod, binI_shr, binI_band, binI_bxor, binI_pow, cmp_lt, cmp_le, cmp_gt, cmp_ge, cmp_eqI, cmp_neI, cmp_eqS, cmp_neS, opt_ite, ite_and, List.getElem?_cons_zero, List.getElem?_cons_succ, List.set_cons_zero, List.set_cons_succ, List.length_cons, List.length_nil, List.append_nil, List.map_cons, List.map_nil, assignT, setSlots, List.cons_append, List.nil_append, Nat.reduceSub, Nat.reduceAdd, decide_eq_true_eq, if_true, if_false, Bool.false_eq_true, Bool.not_true, Bool.not_false, beq_true, beq_false, decide_true, decide_false, List.replicate_zero, List.replicate_succ, true_and, and_true]
    exact ⟨_, rfl, Heap.get_ge (Nat.le_refl _), hr, hx⟩
  · exact ⟨_, _, _, _, rfl, Heap.get_new _ _, Ext.push _ _⟩
end M
end

section
set_option linter.all false
set_option Elab.async false
set_option maxRecDepth 10000
set_option pp.maxSteps 1500
/-! P2: the decoder. -/
namespace M
def oV : Option (Nat × Nat) → Val
  | none => .non
  | some (c, p) => .tup [.int (c : Nat), .int (p : Nat)]
def better (c p : Nat) : Option (Nat × Nat) → Bool
  | none => true
  | some (c', p') => if c = c' then decide (p < p') else decide (c < c')
def jb (j : Nat) : Bool := decide (j % 2 = 1)
def xB (a b : Bool) : Nat := (a ^^ b).toNat
def advStep (paths : List (Option (Nat × Nat))) (p0 p1 : Bool) (found : List (Option (Nat × Nat))) (j : Nat) : List (Option (Nat × Nat)) :=
  match (paths[j / 2]?).join with
  | some (c, p) =>
    if better (c + xB (pairB (j / 2) (jb j)).1 p0 + xB (pairB (j / 2) (jb j)).2 p1) (2 * p + (jb j).toNat) (found[nxS (j / 2) (jb j)]?).join
    then found.set (nxS (j / 2) (jb j)) (some (c + xB (pairB (j / 2) (jb j)).1 p0 + xB (pairB (j / 2) (jb j)).2 p1, 2 * p + (jb j).toNat))
    else found
  | none => found
def adv (paths : List (Option (Nat × Nat))) (js : List Nat) (p0 p1 : Bool) : List (Option (Nat × Nat)) := js.foldl (advStep paths p0 p1) (List.replicate 16 none)
theorem advStep_length {paths p0 p1 found j} : (advStep paths p0 p1 found j).length = found.length := by
  unfold advStep; split
  · split
    · simp
    · rfl
  · rfl
theorem foldl_take {α β : Type} (f : β → α → β) (b : β) (l : List α) {k : Nat} (hk : k < l.length) : (l.take (k + 1)).foldl f b = f ((l.take k).foldl f b) l[k] := by
  rw [List.take_succ_eq_append_getElem hk, List.foldl_append]; rfl
theorem advL_length {paths p0 p1 found} (js : List Nat) : (js.foldl (advStep paths p0 p1) found).length = found.length := by
  induction js generalizing found with
  | nil => rfl
  | cons j js ih => rw [List.foldl_cons, ih, advStep_length]
theorem xor_bI (a b : Bool) : natXor (if a = true then 1 else 0) (if b = true then 1 else 0) = ((xB a b : Nat) : Int) := by
  cases a <;> cases b <;> rfl
theorem bI_nn (a : Bool) : (0 : Int) ≤ (if a = true then 1 else 0) := by cases a <;> decide
theorem fn_advance : TT.fn 186 = some c_advance := rfl
theorem lt_pairs (h : Heap) (c p c' p' : Nat) : cmpV .lt (.tup [.int (c : Nat), .int (p : Nat)]) (.tup [.int (c' : Nat), .int (p' : Nat)]) h = some (better c p (some (c', p'))) := by
  show some (lexLt [(c : Int), p] [(c' : Int), p']) = _
  congr 1
  unfold better
  simp only [lexLt]
  by_cases e : c = c'
  · subst e
    rw [if_pos rfl, if_pos rfl]
    by_cases e : p = p'
    · subst e; simp
    · rw [if_neg (by omega)]; simp
  · rw [if_neg (by omega), if_neg e]; simp
theorem beq_oV (o : Option (Nat × Nat)) : Val.beq (oV o) .non = o.isNone := by
  cases o <;> rfl
theorem getE_join {α : Type} {l : List (Option α)} {k : Nat} (hk : k < l.length) : (l[k]?).join = l[k] := by simp [hk]
theorem advance_wp (n : Nat) (h : Heap) {rp rr : Nat} {paths : List (Option (Nat × Nat))} {js : List Nat} {p0 p1 : Bool} (ep : h.get rp = some (.lst (paths.map oV))) (lp : paths.length = 16) (er : h.get rr = some (.lst (js.map stepV))) (hj : ∀ j ∈ js, j < 32) {X : Nat → List Val → Heap → Prop} :
    (callAt TT (n + 1) 186 [.ref rp, .ref rr, .tup [bI p0, bI p1]] h).wp (fun v h' => ∃ r, v = .ref r ∧ h.get r = none ∧ h'.get r = some (.lst ((adv paths js p0 p1).map oV)) ∧ Ext h h') X := by
  refine call_wp fn_advance rfl ?_
  unfold c_advance
  simp only [wp_ok, wp_bad, wp_bind, wp_ite, wp_nx, wp_ret, wp_fbad, wp_st, retE_ret, retE_exc, opt_some, opt_none, tru_bl, slotQ_some, intV_int, blV_bl, refV_ref, tupV_tup, wp_loc, wp_cint, wp_cstr, wp_cbl, wp_cnon, wp_cval, wp_bin, wp_neg, wp_nt, wp_cmp, wp_chain, wp_is, wp_and, wp_or, wp_ife, wp_fld, wp_ix, wp_sl, wp_tup, wp_lst, wp_dnew, wp_call, wp_mk, wp_make, wp_meth, wp_methK, wp_blt, wp_bm, wp_pno, wp_pyes, wp_ono, wp_oyes, wp_esnil, wp_escons, wp_over, wp_range1, wp_range2, wp_range3, wp_enum, wp_rev, wp_nil, wp_cons, wp_ex, wp_set, wp_setf, wp_seti, wp_setTF, wp_sret, wp_retn, wp_pass, wp_brk, wp_cnt, wp_if, wp_for, wp_while, wp_binI, binI_add, binI_sub, binI_mul, binI_fdiv, binI_mod, binI_shr, binI_band, binI_bxor, binI_pow, cmp_lt, cmp_le, cmp_gt, cmp_ge, cmp_eqI, cmp_neI, cmp_eqS, cmp_neS, opt_ite, ite_and, List.getElem?_cons_zero, List.getElem?_cons_succ, List.set_cons_zero, List.set_cons_succ, List.length_cons, List.length_nil, List.append_nil, List.map_cons, List.map_nil, assignT, setSlots, List.cons_append, List.nil_append, Nat.reduceSub, Nat.reduceAdd, decide_eq_true_eq, if_true, if_false, Bool.false_eq_true, Bool.not_true, Bool.not_false, beq_true, beq_false, decide_true, decide_false, List.replicate_zero, List.replicate_succ, true_and, and_true]
  refine ⟨by decide, ?_⟩
  rw [mul_lst (Heap.get_new _ _), rep_one]
  refine ⟨⟨by decide, rfl⟩, ?_⟩
  generalize hr0 : (h.push (Obj.lst [Val.non])).size = r
  generalize hh0 : (h.push (Obj.lst [Val.non])).push (.lst (List.replicate (Int.toNat 16) Val.non)) = h0
  have x0 : Ext h h0 := by rw [← hh0]; exact (Ext.push _ _).tpush _
  have g0 : h0.get r = some (.lst ((List.replicate 16 (none : Option (Nat × Nat))).map oV)) := by rw [← hh0, ← hr0, Heap.get_new]; simp [oV]
  have n0 : h.get r = none := by rw [← hr0]; exact Heap.get_ge (by rw [Heap.size_push]; omega)
  rw [srcOf_lst (x0.2 _ _ er)]
  simp only [wp_ok, wp_bad, wp_bind, wp_ite, wp_nx, wp_ret, wp_fbad, wp_st, retE_ret, retE_exc, opt_some, opt_none, tru_bl, slotQ_some, intV_int, blV_bl, refV_ref, tupV_tup, wp_loc, wp_cint, wp_cstr, wp_cbl, wp_cnon, wp_cval, wp_bin, wp_neg, wp_nt, wp_cmp, wp_chain, wp_is, wp_and, wp_or, wp_ife, wp_fld, wp_ix, wp_sl, wp_tup, wp_lst, wp_dnew, wp_call, wp_mk, wp_make, wp_meth, wp_methK, wp_blt, wp_bm, wp_pno, wp_pyes, wp_ono, wp_oyes, wp_esnil, wp_escons, wp_over, wp_range1, wp_range2, wp_range3, wp_enum, wp_rev, wp_nil, wp_cons, wp_ex, wp_set, wp_setf, wp_seti, wp_setTF, wp_sret, wp_retn, wp_pass, wp_brk, wp_cnt, wp_if, wp_for, wp_while, wp_binI, binI_add, binI_sub, binI_mul, binI_fdiv, binI_mod, binI_shr, binI_band, binI_bxor, binI_pow, cmp_lt, cmp_le, cmp_gt, cmp_ge, cmp_eqI, cmp_neI, cmp_eqS, cmp_neS, opt_ite, ite_and, List.getElem?_cons_zero, List.getElem?_cons_succ, List.set_cons_zero, List.set_cons_succ, List.length_cons, List.length_nil, List.append_nil, List.map_cons, List.map_nil, assignT, setSlots, List.cons_append, List.nil_append, Nat.reduceSub, Nat.reduceAdd, decide_eq_true_eq, if_true, if_false, Bool.false_eq_true, Bool.not_true, Bool.not_false, beq_true, beq_false, decide_true, decide_false, List.replicate_zero, List.replicate_succ, true_and, and_true]
  refine for_inv (fun k σ h' => ∃ a b c d e f g i, σ = [some (.ref rp), some (.ref rr), some (.tup [bI p0, bI p1]), some (.ref r), a, b, c, d, e, f, g, i] ∧ h'.get r = some (.lst (((js.take k).foldl (advStep paths p0 p1) (List.replicate 16 none)).map oV)) ∧ Ext h h') ?_ ?_ ?_ ?_
  · rintro k σ h' hk ⟨a, b, c, d, e, f, g, i, rfl, hg, hx⟩
    exact stands_some (hx.2 _ _ er)
  · rintro k hk σ h' ⟨a, b, c, d, e, f, g, i, rfl, hg, hx⟩
    rw [List.length_map] at hk
    have hj1 : js[k] < 32 := hj _ (List.getElem_mem hk)
    generalize hjk : js[k] = j at hj1
    have hjs : (js.map stepV)[k]'(by rw [List.length_map]; exact hk) = stepV j := by rw [List.getElem_map, hjk]
    rw [hjs]
    refine ⟨_, rfl, ?_⟩
    rw [foldl_take _ _ _ hk, hjk]
    have hl : ((js.take k).foldl (advStep paths p0 p1) (List.replicate 16 none)).length = 16 := by rw [advL_length]; rfl
    generalize (js.take k).foldl (advStep paths p0 p1) (List.replicate 16 none) = found at hg hl ⊢
    have hj2 : j / 2 < 16 := by omega
    have hj3 : nxS (j / 2) (jb j) < 16 := nxS_lt hj2
    have hn : ((nxS (j / 2) (decide (j % 2 = 1)) : Nat) : Int) = ((nxS (j / 2) (jb j) : Nat) : Int) := rfl
    rw [wp_cons]
    simp only [wp_ok, wp_bad, wp_bind, wp_ite, wp_nx, wp_ret, wp_fbad, wp_st, retE_ret, retE_exc, opt_some, opt_none, tru_bl, slotQ_some, intV_int, blV_bl, refV_ref, tupV_tup, wp_loc, wp_cint, wp_cstr, wp_cbl, wp_cnon, wp_cval, wp_bin, wp_neg, wp_nt, wp_cmp, wp_chain, wp_is, wp_and, wp_or, wp_ife, wp_fld, wp_ix, wp_sl, wp_tup, wp_lst, wp_dnew, wp_call, wp_mk, wp_make, wp_meth, wp_methK, wp_blt, wp_bm, wp_pno, wp_pyes, wp_ono, wp_oyes, wp_esnil, wp_escons, wp_over, wp_range1, wp_range2, wp_range3, wp_enum, wp_rev, wp_nil, wp_ex, wp_set, wp_setf, wp_seti, wp_setTF, wp_sret, wp_retn, wp_pass, wp_brk, wp_cnt, wp_if, wp_for, wp_while, wp_binI, binI_add, binI_sub, binI_mul, binI_fdiv, binI_mod, binI_shr, binI_band, binI_bxor, binI_pow, cmp_lt, cmp_le, cmp_gt, cmp_ge, cmp_eqI, cmp_neI, cmp_eqS, cmp_neS, opt_ite, ite_and, List.getElem?_cons_zero, List.getElem?_cons_succ, List.set_cons_zero, List.set_cons_succ, List.length_cons, List.length_nil, List.append_nil, List.map_cons, List.map_nil, assignT, setSlots, List.cons_append, List.nil_append, Nat.reduceSub, Nat.reduceAdd, decide_eq_true_eq, if_true, if_false, Bool.false_eq_true, Bool.not_true, Bool.not_false, beq_true, beq_false, decide_true, decide_false, List.replicate_zero, List.replicate_succ, true_and, and_true]
    rw [ix_lst (hx.2 _ _ ep) (by rw [List.length_map]; omega)]
    rw [List.getElem_map]
    simp only [wp_ok, wp_bad, wp_bind, wp_ite, wp_nx, wp_ret, wp_fbad, wp_st, retE_ret, retE_exc, opt_some, opt_none, tru_bl, slotQ_some, intV_int, blV_bl, refV_ref, tupV_tup, wp_loc, wp_cint, wp_cstr, wp_cbl, wp_cnon, wp_cval, wp_bin, wp_neg, wp_nt, wp_cmp, wp_chain, wp_is, wp_and, wp_or, wp_ife, wp_fld, wp_ix, wp_sl, wp_tup, wp_lst, wp_dnew, wp_call, wp_mk, wp_make, wp_meth, wp_methK, wp_blt, wp_bm, wp_pno, wp_pyes, wp_ono, wp_oyes, wp_esnil, wp_escons, wp_over, wp_range1, wp_range2, wp_range3, wp_enum, wp_rev, wp_nil, wp_ex, wp_set, wp_setf, wp_seti, wp_setTF, wp_sret, wp_retn, wp_pass, wp_brk, wp_cnt, wp_if, wp_for, wp_while, wp_binI, binI_add, binI_sub, binI_mul, binI_fdiv, binI_mod, binI_shr, binI_band, binI_bxor, binI_pow, cmp_lt, cmp_le, cmp_gt, cmp_ge, cmp_eqI, cmp_neI, cmp_eqS, cmp_neS, opt_ite, ite_and, List.getElem?_cons_zero, List.getElem?_cons_succ, List.set_cons_zero, List.set_cons_succ, List.length_cons, List.length_nil, List.append_nil, List.map_cons, List.map_nil, assignT, setSlots, List.cons_append, List.nil_append, Nat.reduceSub, Nat.reduceAdd, decide_eq_true_eq, if_true, if_false, Bool.false_eq_true, Bool.not_true, Bool.not_false, beq_true, beq_false, decide_true, decide_false, List.replicate_zero, List.replicate_succ, true_and, and_true]
    unfold advStep
    rw [getE_join (by omega : j / 2 < paths.length)]
    generalize ho : paths[j / 2]'(by omega) = o
    rw [beq_oV]
    cases o with
    | none => 
      simp only [Option.isNone, wp_ok, wp_bad, wp_bind, wp_ite, wp_nx, wp_ret, wp_fbad, wp_st, retE_ret, retE_exc, opt_some, opt_none, tru_bl, slotQ_some, intV_int, blV_bl, refV_ref, tupV_tup, wp_loc, wp_cint, wp_cstr, wp_cbl, wp_cnon, wp_cval, wp_bin, wp_neg, wp_nt, wp_cmp, wp_chain, wp_is, wp_and, wp_or, wp_ife, wp_fld, wp_ix, wp_sl, wp_tup, wp_lst, wp_dnew, wp_call, wp_mk, wp_make, wp_meth, wp_methK, wp_blt, wp_bm, wp_pno, wp_pyes, wp_ono, wp_oyes, wp_esnil, wp_escons, wp_over, wp_range1, wp_range2, wp_range3, wp_enum, wp_rev, wp_nil, wp_ex, wp_set, wp_setf, wp_seti, wp_setTF, wp_sret, wp_retn, wp_pass, wp_brk, wp_cnt, wp_if, wp_for, wp_while, wp_binI, binI_add, binI_sub, binI_mul, binI_fdiv, binI_mod, binI_shr, binI_band, binI_bxor, binI_pow, cmp_lt, cmp_le, cmp_gt, cmp_ge, cmp_eqI, cmp_neI, cmp_eqS, cmp_neS, opt_ite, ite_and, List.getElem?_cons_zero, List.getElem?_cons_succ, List.set_cons_zero, List.set_cons_succ, List.length_cons, List.length_nil, List.append_nil, List.map_cons, List.map_nil, assignT, setSlots, List.cons_append, List.nil_append, Nat.reduceSub, Nat.reduceAdd, decide_eq_true_eq, if_true, if_false, Bool.false_eq_true, Bool.not_true, Bool.not_false, beq_true, beq_false, decide_true, decide_false, List.replicate_zero, List.replicate_succ, true_and, and_true]
      exact ⟨_, _, _, _, _, _, _, _, rfl, hg, hx⟩
    | some o =>
      obtain ⟨c, p⟩ := o
      simp only [Option.isNone, wp_ok, wp_bad, wp_bind, wp_ite, wp_nx, wp_ret, wp_fbad, wp_st, retE_ret, retE_exc, opt_some, opt_none, tru_bl, slotQ_some, intV_int, blV_bl, refV_ref, tupV_tup, wp_loc, wp_cint, wp_cstr, wp_cbl, wp_cnon, wp_cval, wp_bin, wp_neg, wp_nt, wp_cmp, wp_chain, wp_is, wp_and, wp_or, wp_ife, wp_fld, wp_ix, wp_sl, wp_tup, wp_lst, wp_dnew, wp_call, wp_mk, wp_make, wp_meth, wp_methK, wp_blt, wp_bm, wp_pno, wp_pyes, wp_ono, wp_oyes, wp_esnil, wp_escons, wp_over, wp_range1, wp_range2, wp_range3, wp_enum, wp_rev, wp_nil, wp_ex, wp_set, wp_setf, wp_seti, wp_setTF, wp_sret, wp_retn, wp_pass, wp_brk, wp_cnt, wp_if, wp_for, wp_while, wp_binI, binI_add, binI_sub, binI_mul, binI_fdiv, binI_mod, binI_shr, binI_band, binI_bxor, binI_pow, cmp_lt, cmp_le, cmp_gt, cmp_ge, cmp_eqI, cmp_neI, cmp_eqS, cmp_neS, opt_ite, ite_and, List.getElem?_cons_zero, List.getElem?_cons_succ, List.set_cons_zero, List.set_cons_succ, List.length_cons, List.length_nil, List.append_nil, List.map_cons, List.map_nil, assignT, setSlots, List.cons_append, List.nil_append, Nat.reduceSub, Nat.reduceAdd, decide_eq_true_eq, if_true, if_false, Bool.false_eq_true, Bool.not_true, Bool.not_false, beq_true, beq_false, decide_true, decide_false, List.replicate_zero, List.replicate_succ, true_and, and_true]
      rw [wp_cons]
      simp only [wp_ok, wp_bad, wp_bind, wp_ite, wp_nx, wp_ret, wp_fbad, wp_st, retE_ret, retE_exc, opt_some, opt_none, tru_bl, slotQ_some, intV_int, blV_bl, refV_ref, tupV_tup, wp_loc, wp_cint, wp_cstr, wp_cbl, wp_cnon, wp_cval, wp_bin, wp_neg, wp_nt, wp_cmp, wp_chain, wp_is, wp_and, wp_or, wp_ife, wp_fld, wp_ix, wp_sl, wp_tup, wp_lst, wp_dnew, wp_call, wp_mk, wp_make, wp_meth, wp_methK, wp_blt, wp_bm, wp_pno, wp_pyes, wp_ono, wp_oyes, wp_esnil, wp_escons, wp_over, wp_range1, wp_range2, wp_range3, wp_enum, wp_rev, wp_nil, wp_ex, wp_set, wp_setf, wp_seti, wp_setTF, wp_sret, wp_retn, wp_pass, wp_brk, wp_cnt, wp_if, wp_for, wp_while, wp_binI, binI_add, binI_sub, binI_mul, binI_fdiv, binI_mod, binI_shr, binI_band, binI_bxor, binI_pow, cmp_lt, cmp_le, cmp_gt, cmp_ge, cmp_eqI, cmp_neI, cmp_eqS, cmp_neS, opt_ite, ite_and, List.getElem?_cons_zero, List.getElem?_cons_succ, List.set_cons_zero, List.set_cons_succ, List.length_cons, List.length_nil, List.append_nil, List.map_cons, List.map_nil, assignT, setSlots, List.cons_append, List.nil_append, Nat.reduceSub, Nat.reduceAdd, decide_eq_true_eq, if_true, if_false, Bool.false_eq_true, Bool.not_true, Bool.not_false, beq_true, beq_false, decide_true, decide_false, List.replicate_zero, List.replicate_succ, true_and, and_true]
      rw [ix_lst (hx.2 _ _ ep) (by rw [List.length_map]; omega), List.getElem_map, ho]
      simp only [oV, wp_ok, wp_bad, wp_bind, wp_ite, wp_nx, wp_ret, wp_fbad, wp_st, retE_ret, retE_exc, opt_some, opt_none, tru_bl, slotQ_some, intV_int, blV_bl, refV_ref, tupV_tup, wp_loc, wp_cint, wp_cstr, wp_cbl, wp_cnon, wp_cval, wp_bin, wp_neg, wp_nt, wp_cmp, wp_chain, wp_is, wp_and, wp_or, wp_ife, wp_fld, wp_ix, wp_sl, wp_tup, wp_lst, wp_dnew, wp_call, wp_mk, wp_make, wp_meth, wp_methK, wp_blt, wp_bm, wp_pno, wp_pyes, wp_ono, wp_oyes, wp_esnil, wp_escons, wp_over, wp_range1, wp_range2, wp_range3, wp_enum, wp_rev, wp_nil, wp_ex, wp_set, wp_setf, wp_seti, wp_setTF, wp_sret, wp_retn, wp_pass, wp_brk, wp_cnt, wp_if, wp_for, wp_while, wp_binI, binI_add, binI_sub, binI_mul, binI_fdiv, binI_mod, binI_shr, binI_band, binI_bxor, binI_pow, cmp_lt, cmp_le, cmp_gt, cmp_ge, cmp_eqI, cmp_neI, cmp_eqS, cmp_neS, opt_ite, ite_and, List.getElem?_cons_zero, List.getElem?_cons_succ, List.set_cons_zero, List.set_cons_succ, List.length_cons, List.length_nil, List.append_nil, List.map_cons, List.map_nil, assignT, setSlots, List.cons_append, List.nil_append, Nat.reduceSub, Nat.reduceAdd, decide_eq_true_eq, if_true, if_false, Bool.false_eq_true, Bool.not_true, Bool.not_false, beq_true, beq_false, decide_true, decide_false, List.replicate_zero, List.replicate_succ, true_and, and_true]
      rw [wp_cons]
      have i0 : ∀ a b, ixV h' (.tup [a, b]) (.int 0) = some a := fun a b => rfl
      have i1 : ∀ a b, ixV h' (.tup [a, b]) (.int 1) = some b := fun a b => rfl
      simp only [i0, i1, bI, wp_ok, wp_bad, wp_bind, wp_ite, wp_nx, wp_ret, wp_fbad, wp_st, retE_ret, retE_exc, opt_some, opt_none, tru_bl, slotQ_some, intV_int, blV_bl, refV_ref, tupV_tup, wp_loc, wp_cint, wp_cstr, wp_cbl, wp_cnon, wp_cval, wp_bin, wp_neg, wp_nt, wp_cmp, wp_chain, wp_is, wp_and, wp_or, wp_ife, wp_fld, wp_ix, wp_sl, wp_tup, wp_lst, wp_dnew, wp_call, wp_mk, wp_make, wp_meth, wp_methK, wp_blt, wp_bm, wp_pno, wp_pyes, wp_ono, wp_oyes, wp_esnil, wp_escons, wp_over, wp_range1, wp_range2, wp_range3, wp_enum, wp_rev, wp_nil, wp_ex, wp_set, wp_setf, wp_seti, wp_setTF, wp_sret, wp_retn, wp_pass, wp_brk, wp_cnt, wp_if, wp_for, wp_while, wp_binI, binI_add, binI_sub, binI_mul, binI_fdiv, binI_mod, binI_shr, binI_band, binI_bxor, binI_pow, cmp_lt, cmp_le, cmp_gt, cmp_ge, cmp_eqI, cmp_neI, cmp_eqS, cmp_neS, opt_ite, ite_and, List.getElem?_cons_zero, List.getElem?_cons_succ, List.set_cons_zero, List.set_cons_succ, List.length_cons, List.length_nil, List.append_nil, List.map_cons, List.map_nil, assignT, setSlots, List.cons_append, List.nil_append, Nat.reduceSub, Nat.reduceAdd, decide_eq_true_eq, if_true, if_false, Bool.false_eq_true, Bool.not_true, Bool.not_false, beq_true, beq_false, decide_true, decide_false, List.replicate_zero, List.replicate_succ, true_and, and_true, bI_nn, and_self, true_and, xor_bI]
      rw [wp_cons]
      simp only [wp_ok, wp_bad, wp_bind, wp_ite, wp_nx, wp_ret, wp_fbad, wp_st, retE_ret, retE_exc, opt_some, opt_none, tru_bl, slotQ_some, intV_int, blV_bl, refV_ref, tupV_tup, wp_loc, wp_cint, wp_cstr, wp_cbl, wp_cnon, wp_cval, wp_bin, wp_neg, wp_nt, wp_cmp, wp_chain, wp_is, wp_and, wp_or, wp_ife, wp_fld, wp_ix, wp_sl, wp_tup, wp_lst, wp_dnew, wp_call, wp_mk, wp_make, wp_meth, wp_methK, wp_blt, wp_bm, wp_pno, wp_pyes, wp_ono, wp_oyes, wp_esnil, wp_escons, wp_over, wp_range1, wp_range2, wp_range3, wp_enum, wp_rev, wp_nil, wp_ex, wp_set, wp_setf, wp_seti, wp_setTF, wp_sret, wp_retn, wp_pass, wp_brk, wp_cnt, wp_if, wp_for, wp_while, wp_binI, binI_add, binI_sub, binI_mul, binI_fdiv, binI_mod, binI_shr, binI_band, binI_bxor, binI_pow, cmp_lt, cmp_le, cmp_gt, cmp_ge, cmp_eqI, cmp_neI, cmp_eqS, cmp_neS, opt_ite, ite_and, List.getElem?_cons_zero, List.getElem?_cons_succ, List.set_cons_zero, List.set_cons_succ, List.length_cons, List.length_nil, List.append_nil, List.map_cons, List.map_nil, assignT, setSlots, List.cons_append, List.nil_append, Nat.reduceSub, Nat.reduceAdd, decide_eq_true_eq, if_true, if_false, Bool.false_eq_true, Bool.not_true, Bool.not_false, beq_true, beq_false, decide_true, decide_false, List.replicate_zero, List.replicate_succ, true_and, and_true]
      refine ⟨small_ok rfl, by decide, ?_⟩
      rw [wp_cons]
      simp only [hn, wp_ok, wp_bad, wp_bind, wp_ite, wp_nx, wp_ret, wp_fbad, wp_st, retE_ret, retE_exc, opt_some, opt_none, tru_bl, slotQ_some, intV_int, blV_bl, refV_ref, tupV_tup, wp_loc, wp_cint, wp_cstr, wp_cbl, wp_cnon, wp_cval, wp_bin, wp_neg, wp_nt, wp_cmp, wp_chain, wp_is, wp_and, wp_or, wp_ife, wp_fld, wp_ix, wp_sl, wp_tup, wp_lst, wp_dnew, wp_call, wp_mk, wp_make, wp_meth, wp_methK, wp_blt, wp_bm, wp_pno, wp_pyes, wp_ono, wp_oyes, wp_esnil, wp_escons, wp_over, wp_range1, wp_range2, wp_range3, wp_enum, wp_rev, wp_nil, wp_ex, wp_set, wp_setf, wp_seti, wp_setTF, wp_sret, wp_retn, wp_pass, wp_brk, wp_cnt, wp_if, wp_for, wp_while, wp_binI, binI_add, binI_sub, binI_mul, binI_fdiv, binI_mod, binI_shr, binI_band, binI_bxor, binI_pow, cmp_lt, cmp_le, cmp_gt, cmp_ge, cmp_eqI, cmp_neI, cmp_eqS, cmp_neS, opt_ite, ite_and, List.getElem?_cons_zero, List.getElem?_cons_succ, List.set_cons_zero, List.set_cons_succ, List.length_cons, List.length_nil, List.append_nil, List.map_cons, List.map_nil, assignT, setSlots, List.cons_append, List.nil_append, Nat.reduceSub, Nat.reduceAdd, decide_eq_true_eq, if_true, if_false, Bool.false_eq_true, Bool.not_true, Bool.not_false, beq_true, beq_false, decide_true, decide_false, List.replicate_zero, List.replicate_succ, true_and, and_true]
      rw [ix_lst hg (by rw [List.length_map]; omega), List.getElem_map]
      simp only [wp_ok, wp_bad, wp_bind, wp_ite, wp_nx, wp_ret, wp_fbad, wp_st, retE_ret, retE_exc, opt_some, opt_none, tru_bl, slotQ_some, intV_int, blV_bl, refV_ref, tupV_tup, wp_loc, wp_cint, wp_cstr, wp_cbl, wp_cnon, wp_cval, wp_bin, wp_neg, wp_nt, wp_cmp, wp_chain, wp_is, wp_and, wp_or, wp_ife, wp_fld, wp_ix, wp_sl, wp_tup, wp_lst, wp_dnew, wp_call, wp_mk, wp_make, wp_meth, wp_methK, wp_blt, wp_bm, wp_pno, wp_pyes, wp_ono, wp_oyes, wp_esnil, wp_escons, wp_over, wp_range1, wp_range2, wp_range3, wp_enum, wp_rev, wp_nil, wp_ex, wp_set, wp_setf, wp_seti, wp_setTF, wp_sret, wp_retn, wp_pass, wp_brk, wp_cnt, wp_if, wp_for, wp_while, wp_binI, binI_add, binI_sub, binI_mul, binI_fdiv, binI_mod, binI_shr, binI_band, binI_bxor, binI_pow, cmp_lt, cmp_le, cmp_gt, cmp_ge, cmp_eqI, cmp_neI, cmp_eqS, cmp_neS, opt_ite, ite_and, List.getElem?_cons_zero, List.getElem?_cons_succ, List.set_cons_zero, List.set_cons_succ, List.length_cons, List.length_nil, List.append_nil, List.map_cons, List.map_nil, assignT, setSlots, List.cons_append, List.nil_append, Nat.reduceSub, Nat.reduceAdd, decide_eq_true_eq, if_true, if_false, Bool.false_eq_true, Bool.not_true, Bool.not_false, beq_true, beq_false, decide_true, decide_false, List.replicate_zero, List.replicate_succ, true_and, and_true]
      rw [beq_oV, wp_cons]
      simp only [wp_ok, wp_bad, wp_bind, wp_ite, wp_nx, wp_ret, wp_fbad, wp_st, retE_ret, retE_exc, opt_some, opt_none, tru_bl, slotQ_some, intV_int, blV_bl, refV_ref, tupV_tup, wp_loc, wp_cint, wp_cstr, wp_cbl, wp_cnon, wp_cval, wp_bin, wp_neg, wp_nt, wp_cmp, wp_chain, wp_is, wp_and, wp_or, wp_ife, wp_fld, wp_ix, wp_sl, wp_tup, wp_lst, wp_dnew, wp_call, wp_mk, wp_make, wp_meth, wp_methK, wp_blt, wp_bm, wp_pno, wp_pyes, wp_ono, wp_oyes, wp_esnil, wp_escons, wp_over, wp_range1, wp_range2, wp_range3, wp_enum, wp_rev, wp_nil, wp_ex, wp_set, wp_setf, wp_seti, wp_setTF, wp_sret, wp_retn, wp_pass, wp_brk, wp_cnt, wp_if, wp_for, wp_while, wp_binI, binI_add, binI_sub, binI_mul, binI_fdiv, binI_mod, binI_shr, binI_band, binI_bxor, binI_pow, cmp_lt, cmp_le, cmp_gt, cmp_ge, cmp_eqI, cmp_neI, cmp_eqS, cmp_neS, opt_ite, ite_and, List.getElem?_cons_zero, List.getElem?_cons_succ, List.set_cons_zero, List.set_cons_succ, List.length_cons, List.length_nil, List.append_nil, List.map_cons, List.map_nil, assignT, setSlots, List.cons_append, List.nil_append, Nat.reduceSub, Nat.reduceAdd, decide_eq_true_eq, if_true, if_false, Bool.false_eq_true, Bool.not_true, Bool.not_false, beq_true, beq_false, decide_true, decide_false, List.replicate_zero, List.replicate_succ, true_and, and_true]
      rw [set_lst hg (by rw [List.length_map]; omega)]
      rw [getE_join (by omega : nxS (j / 2) (jb j) < found.length)]
      have e1 : ((c : Nat) : Int) + (xB (pairB (j / 2) (decide (j % 2 = 1))).1 p0 : Nat) + (xB (pairB (j / 2) (decide (j % 2 = 1))).2 p1 : Nat) = ((c + xB (pairB (j / 2) (jb j)).1 p0 + xB (pairB (j / 2) (jb j)).2 p1 : Nat) : Int) := by
        simp only [jb, Int.natCast_add]
      have e2 : 2 * ((p : Nat) : Int) + (if decide (j % 2 = 1) = true then 1 else 0) = ((2 * p + (jb j).toNat : Nat) : Int) := by
        unfold jb
        by_cases q : j % 2 = 1 <;> simp [q]
      simp only [decide_eq_true_eq] at e2
      rw [e1, e2]
      generalize c + xB (pairB (j / 2) (jb j)).1 p0 + xB (pairB (j / 2) (jb j)).2 p1 = c2
      generalize 2 * p + (jb j).toNat = p2
      obtain ⟨q, hq⟩ : ∃ q, q = nxS (j / 2) (jb j) := ⟨_, rfl⟩
      simp only [← hq]
      rw [← hq] at hj3
      have hs : (List.map oV found).set q (.tup [.int (c2 : Nat), .int (p2 : Nat)]) = List.map oV (found.set q (some (c2, p2))) := by
        rw [List.map_set]; rfl
      rw [hs]
      generalize ho2 : found[q]'(by omega) = o2
      have hh : ∀ (g : Heap), g = h'.set r (Obj.lst (List.map oV (found.set q (some (c2, p2))))) → g.get r = some (Obj.lst (List.map oV (found.set q (some (c2, p2))))) ∧ Ext h g := by
        rintro g rfl
        exact ⟨Heap.get_set_eq _ hg, hx.set n0 (Heap.get_lt hg)⟩
      cases o2 with
      | none =>
        simp only [Option.isNone, better, wp_ok, wp_bad, wp_bind, wp_ite, wp_nx, wp_ret, wp_fbad, wp_st, retE_ret, retE_exc, opt_some, opt_none, tru_bl, slotQ_some, intV_int, blV_bl, refV_ref, tupV_tup, wp_loc, wp_cint, wp_cstr, wp_cbl, wp_cnon, wp_cval, wp_bin, wp_neg, wp_nt, wp_cmp, wp_chain, wp_is, wp_and, wp_or, wp_ife, wp_fld, wp_ix, wp_sl, wp_tup, wp_lst, wp_dnew, wp_call, wp_mk, wp_make, wp_meth, wp_methK, wp_blt, wp_bm, wp_pno, wp_pyes, wp_ono, wp_oyes, wp_esnil, wp_escons, wp_over, wp_range1, wp_range2, wp_range3, wp_enum, wp_rev, wp_nil, wp_ex, wp_set, wp_setf, wp_seti, wp_setTF, wp_sret, wp_retn, wp_pass, wp_brk, wp_cnt, wp_if, wp_for, wp_while, wp_binI, binI_add, binI_sub, binI_mul, binI_fdiv, binI_mod, binI_shr, binI_band, binI_bxor, binI_pow, cmp_lt, cmp_le, cmp_gt, cmp_ge, cmp_eqI, cmp_neI, cmp_eqS, cmp_neS, opt_ite, ite_and, List.getElem?_cons_zero, List.getElem?_cons_succ, List.set_cons_zero, List.set_cons_succ, List.length_cons, List.length_nil, List.append_nil, List.map_cons, List.map_nil, assignT, setSlots, List.cons_append, List.nil_append, Nat.reduceSub, Nat.reduceAdd, decide_eq_true_eq, if_true, if_false, Bool.false_eq_true, Bool.not_true, Bool.not_false, beq_true, beq_false, decide_true, decide_false, List.replicate_zero, List.replicate_succ, true_and, and_true]
        exact ⟨_, _, _, _, _, _, _, _, rfl, hh _ rfl⟩
      | some o =>
        obtain ⟨c', p'⟩ := o
        simp only [Option.isNone, oV, lt_pairs, wp_ok, wp_bad, wp_bind, wp_ite, wp_nx, wp_ret, wp_fbad, wp_st, retE_ret, retE_exc, opt_some, opt_none, tru_bl, slotQ_some, intV_int, blV_bl, refV_ref, tupV_tup, wp_loc, wp_cint, wp_cstr, wp_cbl, wp_cnon, wp_cval, wp_bin, wp_neg, wp_nt, wp_cmp, wp_chain, wp_is, wp_and, wp_or, wp_ife, wp_fld, wp_ix, wp_sl, wp_tup, wp_lst, wp_dnew, wp_call, wp_mk, wp_make, wp_meth, wp_methK, wp_blt, wp_bm, wp_pno, wp_pyes, wp_ono, wp_oyes, wp_esnil, wp_escons, wp_over, wp_range1, wp_range2, wp_range3, wp_enum, wp_rev, wp_nil, wp_ex, wp_set, wp_setf, wp_seti, wp_setTF, wp_sret, wp_retn, wp_pass, wp_brk, wp_cnt, wp_if, wp_for, wp_while, wp_binI, binI_add, binI_sub, binI_mul, binI_fdiv, binI_mod, binI_shr, binI_band, binI_bxor, binI_pow, cmp_lt, cmp_le, cmp_gt, cmp_ge, cmp_eqI, cmp_neI, cmp_eqS, cmp_neS, opt_ite, ite_and, List.getElem?_cons_zero, List.getElem?_cons_succ, List.set_cons_zero, List.set_cons_succ, List.length_cons, List.length_nil, List.append_nil, List.map_cons, List.map_nil, assignT, setSlots, List.cons_append, List.nil_append, Nat.reduceSub, Nat.reduceAdd, decide_eq_true_eq, if_true, if_false, Bool.false_eq_true, Bool.not_true, Bool.not_false, beq_true, beq_false, decide_true, decide_false, List.replicate_zero, List.replicate_succ, true_and, and_true]
        cases better c2 p2 (some (c', p')) with
        | false => exact ⟨_, _, _, _, _, _, _, _, rfl, hg, hx⟩
        | true => exact ⟨_, _, _, _, _, _, _, _, rfl, hh _ rfl⟩
  · rintro σ h' ⟨a, b, c, d, e, f, g, i, rfl, hg, hx⟩
    simp only [wp_ok, wp_bad, wp_bind, wp_ite, wp_nx, wp_ret, wp_fbad, wp_st, retE_ret, retE_exc, opt_some, opt_none, tru_bl, slotQ_some, intV_int, blV_bl, refV_ref, tupV_tup, wp_loc, wp_cint, wp_cstr, wp_cbl, wp_cnon, wp_cval, wp_bin, wp_neg, wp_nt, wp_cmp, wp_chain, wp_is, wp_and, wp_or, wp_ife, wp_fld, wp_ix, wp_sl, wp_tup, wp_lst, wp_dnew, wp_call, wp_mk, wp_make, wp_meth, wp_methK, wp_blt, wp_bm, wp_pno, wp_pyes, wp_ono, wp_oyes, wp_esnil, wp_escons, wp_over, wp_range1, wp_range2, wp_range3, wp_enum, wp_rev, wp_nil, wp_cons, wp_ex, wp_set, wp_setf, wp_seti, wp_setTF, wp_sret, wp_retn, wp_pass, wp_brk, wp_cnt, wp_if, wp_for, wp_while, wp_binI, binI_add, binI_sub, binI_mul, binI_fdiv, binI_mod, binI_shr, binI_band, binI_bxor, binI_pow, cmp_lt, cmp_le, cmp_gt, cmp_ge, cmp_eqI, cmp_neI, cmp_eqS, cmp_neS, opt_ite, ite_and, List.getElem?_cons_zero, List.getElem?_cons_succ, List.set_cons_zero, List.set_cons_succ, List.length_cons, List.length_nil, List.append_nil, List.map_cons, List.map_nil, assignT, setSlots, List.cons_append, List.nil_append, Nat.reduceSub, Nat.reduceAdd, decide_eq_true_eq, if_true, if_false, Bool.false_eq_true, Bool.not_true, Bool.not_false, beq_true, beq_false, decide_true, decide_false, List.replicate_zero, List.replicate_succ, true_and, and_true]
    rw [List.length_map, List.take_length] at hg
    exact ⟨_, rfl, n0, hg, hx⟩
  · exact ⟨_, _, _, _, _, _, _, _, rfl, g0, x0⟩
end M
end

section
set_option linter.all false
set_option Elab.async false
set_option maxRecDepth 4000
set_option pp.maxSteps 500
/-! P3: nearest. -/
namespace M
theorem in62_nat {n : Nat} (h : n < 2 ^ 61) : in62 (n : Int) = true := by
  unfold in62
  rw [Bool.and_eq_true, decide_eq_true_eq, decide_eq_true_eq]
  omega
theorem bit_and (p m : Nat) : natAnd ((p : Int) / 2 ^ m) 1 = if p.testBit m = true then 1 else 0 := by
  have e : ((p : Int) / 2 ^ m) = ((p / 2 ^ m : Nat) : Int) := by
    rw [Int.natCast_ediv, Int.natCast_pow]; rfl
  rw [e]
  unfold natAnd
  rw [Int.toNat_natCast, show (1 : Int).toNat = 1 from rfl, Nat.and_one_is_mod, Nat.testBit_eq_decide_div_mod_eq]
  have := Nat.mod_two_eq_zero_or_one (p / 2 ^ m)
  rcases this with q | q <;> simp [q]
def zerosL : List Nat := (List.range 32).filter fun j => decide (j % 2 = 0)
def rowsAt (count k : Nat) : List Nat := if k + 4 < count then List.range 32 else zerosL
def nearP (cs : List Bool) (count : Nat) : Nat → List (Option (Nat × Nat))
  | 0 => (List.replicate 16 none).set 0 (some (0, 0))
  | k + 1 => adv (nearP cs count k) (rowsAt count k) (cs.getD (2 * k) false) (cs.getD (2 * k + 1) false)
theorem adv_length (paths js p0 p1) : (adv paths js p0 p1).length = 16 := by unfold adv; rw [advL_length]; rfl
theorem nearP_length (cs : List Bool) (count k : Nat) : (nearP cs count k).length = 16 := by
  cases k with
  | zero => rfl
  | succ k => exact adv_length _ _ _ _
def tailB : Bk := (.cons (.set (.many [7, 8]) (.ix (.loc 4) (.cint 0)))
    (.cons (.ret (.tup (.cons (.comp (.bin .band (.bin .shr (.loc 8) (.bin .sub (.bin .sub (.loc 1) (.cint 1)) (.loc 5))) (.cint 1)) (.one 5) (.range1 (.loc 1)) .no) (.cons (.loc 7) .nil))))
    .nil))
theorem tail_wp {call : Nat → List Val → Heap → R Val} (h h' : Heap) {r count : Nat} {ps : List (Option (Nat × Nat))} (hct : count < 1000) {c p : Nat} (hf : ps[0]? = some (some (c, p))) (hg : h'.get r = some (.lst (ps.map oV))) (hx : Ext h h') {X : Nat → List Val → Heap → Prop} {N : Slots → Heap → Prop} {v0 v2 v3 a b c' d e' : Option Val} :
    (evB TT call tailB [v0, some (.int count), v2, v3, some (.ref r), a, b, c', d, e'] h').wp N (retE (fun v h' => ∃ r, v = .tup [.ref r, .int (c : Nat)] ∧ h.get r = none ∧ h'.get r = some (.lst ((List.range count).map fun k => bI (p.testBit (count - 1 - k)))) ∧ Ext h h') X) := by
  unfold tailB
  rw [wp_cons]
  simp only [wp_ok, wp_bad, wp_bind, wp_ite, wp_nx, wp_ret, wp_fbad, wp_st, retE_ret, retE_exc, opt_some, opt_none, tru_bl, slotQ_some, intV_int, blV_bl, refV_ref, tupV_tup, wp_loc, wp_cint, wp_cstr, wp_cbl, wp_cnon, wp_cval, wp_bin, wp_neg, wp_nt, wp_cmp, wp_chain, wp_is, wp_and, wp_or, wp_ife, wp_fld, wp_ix, wp_sl, wp_tup, wp_lst, wp_dnew, wp_call, wp_mk, wp_make, wp_meth, wp_methK, wp_blt, wp_bm, wp_comp, wp_comp2, wp_pno, wp_pyes, wp_ono, wp_oyes, wp_esnil, wp_escons, wp_over, wp_range1, wp_range2, wp_range3, wp_enum, wp_rev, wp_nil, wp_ex, wp_set, wp_setf, wp_seti, wp_setTF, wp_sret, wp_retn, wp_pass, wp_brk, wp_cnt, wp_if, wp_for, wp_while, wp_binI, binI_add, binI_sub, binI_mul, binI_fdiv, binI_mod, binI_shr, binI_band, binI_bxor, binI_pow, cmp_lt, cmp_le, cmp_gt, cmp_ge, cmp_eqI, cmp_neI, cmp_eqS, cmp_neS, opt_ite, ite_and, List.getElem?_cons_zero, List.getElem?_cons_succ, List.set_cons_zero, List.set_cons_succ, List.length_cons, List.length_nil, List.append_nil, List.map_cons, List.map_nil, assignT, setSlots, List.cons_append, List.nil_append, Nat.reduceSub, Nat.reduceAdd, decide_eq_true_eq, if_true, if_false, Bool.false_eq_true, Bool.not_true, Bool.not_false, beq_true, beq_false, decide_true, decide_false, List.replicate_zero, List.replicate_succ, true_and, and_true]
  have l0 : 0 < ps.length := by
    cases ps with
    | nil => cases hf
    | cons x xs => simp
  have i5 : ixV h' (.ref r) (.int 0) = some (.tup [.int (c : Nat), .int (p : Nat)]) := by
    refine (ix_lst (k := 0) hg (by rw [List.length_map]; exact l0)).trans ?_
    rw [List.getElem?_eq_getElem l0] at hf
    rw [List.getElem_map, Option.some.inj hf]
    rfl
  rw [i5]
  simp only [wp_ok, wp_bad, wp_bind, wp_ite, wp_nx, wp_ret, wp_fbad, wp_st, retE_ret, retE_exc, opt_some, opt_none, tru_bl, slotQ_some, intV_int, blV_bl, refV_ref, tupV_tup, wp_loc, wp_cint, wp_cstr, wp_cbl, wp_cnon, wp_cval, wp_bin, wp_neg, wp_nt, wp_cmp, wp_chain, wp_is, wp_and, wp_or, wp_ife, wp_fld, wp_ix, wp_sl, wp_tup, wp_lst, wp_dnew, wp_call, wp_mk, wp_make, wp_meth, wp_methK, wp_blt, wp_bm, wp_comp, wp_comp2, wp_pno, wp_pyes, wp_ono, wp_oyes, wp_esnil, wp_escons, wp_over, wp_range1, wp_range2, wp_range3, wp_enum, wp_rev, wp_nil, wp_ex, wp_set, wp_setf, wp_seti, wp_setTF, wp_sret, wp_retn, wp_pass, wp_brk, wp_cnt, wp_if, wp_for, wp_while, wp_binI, binI_add, binI_sub, binI_mul, binI_fdiv, binI_mod, binI_shr, binI_band, binI_bxor, binI_pow, cmp_lt, cmp_le, cmp_gt, cmp_ge, cmp_eqI, cmp_neI, cmp_eqS, cmp_neS, opt_ite, ite_and, List.getElem?_cons_zero, List.getElem?_cons_succ, List.set_cons_zero, List.set_cons_succ, List.length_cons, List.length_nil, List.append_nil, List.map_cons, List.map_nil, assignT, setSlots, List.cons_append, List.nil_append, Nat.reduceSub, Nat.reduceAdd, decide_eq_true_eq, if_true, if_false, Bool.false_eq_true, Bool.not_true, Bool.not_false, beq_true, beq_false, decide_true, decide_false, List.replicate_zero, List.replicate_succ, true_and, and_true]
  rw [wp_cons]
  simp only [wp_ok, wp_bad, wp_bind, wp_ite, wp_nx, wp_ret, wp_fbad, wp_st, retE_ret, retE_exc, opt_some, opt_none, tru_bl, slotQ_some, intV_int, blV_bl, refV_ref, tupV_tup, wp_loc, wp_cint, wp_cstr, wp_cbl, wp_cnon, wp_cval, wp_bin, wp_neg, wp_nt, wp_cmp, wp_chain, wp_is, wp_and, wp_or, wp_ife, wp_fld, wp_ix, wp_sl, wp_tup, wp_lst, wp_dnew, wp_call, wp_mk, wp_make, wp_meth, wp_methK, wp_blt, wp_bm, wp_comp, wp_comp2, wp_pno, wp_pyes, wp_ono, wp_oyes, wp_esnil, wp_escons, wp_over, wp_range1, wp_range2, wp_range3, wp_enum, wp_rev, wp_nil, wp_ex, wp_set, wp_setf, wp_seti, wp_setTF, wp_sret, wp_retn, wp_pass, wp_brk, wp_cnt, wp_if, wp_for, wp_while, wp_binI, binI_add, binI_sub, binI_mul, binI_fdiv, binI_mod, binI_shr, binI_band, binI_bxor, binI_pow, cmp_lt, cmp_le, cmp_gt, cmp_ge, cmp_eqI, cmp_neI, cmp_eqS, cmp_neS, opt_ite, ite_and, List.getElem?_cons_zero, List.getElem?_cons_succ, List.set_cons_zero, List.set_cons_succ, List.length_cons, List.length_nil, List.append_nil, List.map_cons, List.map_nil, assignT, setSlots, List.cons_append, List.nil_append, Nat.reduceSub, Nat.reduceAdd, decide_eq_true_eq, if_true, if_false, Bool.false_eq_true, Bool.not_true, Bool.not_false, beq_true, beq_false, decide_true, decide_false, List.replicate_zero, List.replicate_succ, true_and, and_true]
  refine ⟨in62_nat (by omega), ?_⟩
  rw [Int.toNat_natCast]
  simp only [wipeT, wp_ok, wp_bad, wp_bind, wp_ite, wp_nx, wp_ret, wp_fbad, wp_st, retE_ret, retE_exc, opt_some, opt_none, tru_bl, slotQ_some, intV_int, blV_bl, refV_ref, tupV_tup, wp_loc, wp_cint, wp_cstr, wp_cbl, wp_cnon, wp_cval, wp_bin, wp_neg, wp_nt, wp_cmp, wp_chain, wp_is, wp_and, wp_or, wp_ife, wp_fld, wp_ix, wp_sl, wp_tup, wp_lst, wp_dnew, wp_call, wp_mk, wp_make, wp_meth, wp_methK, wp_blt, wp_bm, wp_comp, wp_comp2, wp_pno, wp_pyes, wp_ono, wp_oyes, wp_esnil, wp_escons, wp_over, wp_range1, wp_range2, wp_range3, wp_enum, wp_rev, wp_nil, wp_ex, wp_set, wp_setf, wp_seti, wp_setTF, wp_sret, wp_retn, wp_pass, wp_brk, wp_cnt, wp_if, wp_for, wp_while, wp_binI, binI_add, binI_sub, binI_mul, binI_fdiv, binI_mod, binI_shr, binI_band, binI_bxor, binI_pow, cmp_lt, cmp_le, cmp_gt, cmp_ge, cmp_eqI, cmp_neI, cmp_eqS, cmp_neS, opt_ite, ite_and, List.getElem?_cons_zero, List.getElem?_cons_succ, List.set_cons_zero, List.set_cons_succ, List.length_cons, List.length_nil, List.append_nil, List.map_cons, List.map_nil, assignT, setSlots, List.cons_append, List.nil_append, Nat.reduceSub, Nat.reduceAdd, decide_eq_true_eq, if_true, if_false, Bool.false_eq_true, Bool.not_true, Bool.not_false, beq_true, beq_false, decide_true, decide_false, List.replicate_zero, List.replicate_succ, true_and, and_true]
  refine comp_map (f := fun v => match v with | .int k => bI (p.testBit (count - 1 - k.toNat)) | _ => .non) (fun σ h => by rw [evO]) (fun _ _ => rfl) (fun k hk h9 x9 => ?_) (fun h9 x9 => ?_)
  · rw [rangeL_length] at hk
    rw [rangeL_get]
    refine ⟨_, rfl, ?_⟩
    simp only [wp_ok, wp_bad, wp_bind, wp_ite, wp_nx, wp_ret, wp_fbad, wp_st, retE_ret, retE_exc, opt_some, opt_none, tru_bl, slotQ_some, intV_int, blV_bl, refV_ref, tupV_tup, wp_loc, wp_cint, wp_cstr, wp_cbl, wp_cnon, wp_cval, wp_bin, wp_neg, wp_nt, wp_cmp, wp_chain, wp_is, wp_and, wp_or, wp_ife, wp_fld, wp_ix, wp_sl, wp_tup, wp_lst, wp_dnew, wp_call, wp_mk, wp_make, wp_meth, wp_methK, wp_blt, wp_bm, wp_comp, wp_comp2, wp_pno, wp_pyes, wp_ono, wp_oyes, wp_esnil, wp_escons, wp_over, wp_range1, wp_range2, wp_range3, wp_enum, wp_rev, wp_nil, wp_ex, wp_set, wp_setf, wp_seti, wp_setTF, wp_sret, wp_retn, wp_pass, wp_brk, wp_cnt, wp_if, wp_for, wp_while, wp_binI, binI_add, binI_sub, binI_mul, binI_fdiv, binI_mod, binI_shr, binI_band, binI_bxor, binI_pow, cmp_lt, cmp_le, cmp_gt, cmp_ge, cmp_eqI, cmp_neI, cmp_eqS, cmp_neS, opt_ite, ite_and, List.getElem?_cons_zero, List.getElem?_cons_succ, List.set_cons_zero, List.set_cons_succ, List.length_cons, List.length_nil, List.append_nil, List.map_cons, List.map_nil, assignT, setSlots, List.cons_append, List.nil_append, Nat.reduceSub, Nat.reduceAdd, decide_eq_true_eq, if_true, if_false, Bool.false_eq_true, Bool.not_true, Bool.not_false, beq_true, beq_false, decide_true, decide_false, List.replicate_zero, List.replicate_succ, true_and, and_true]
    have e3 : (count : Int) - 1 - (0 + k * 1) = ((count - 1 - k : Nat) : Int) := by omega
    rw [e3, Int.toNat_natCast, bit_and]
    have e4 : (0 + (k : Int) * 1).toNat = k := by omega
    refine ⟨by omega, ⟨?_, by decide⟩, ?_, x9⟩
    · exact Int.ediv_nonneg (by omega) (Int.pow_nonneg (by decide))
    · rw [e4]; rfl
  · have a1 : (rangeL 0 1 count).length = count := rangeL_length _ _ _
    refine ⟨size_ok (by rw [List.length_map, a1]; omega), ?_⟩
    refine ⟨two_le, ?_⟩
    refine ⟨h9.size, ?_⟩
    refine ⟨rfl, ?_⟩
    refine ⟨?_, ?_, hx.trans (x9.tpush _)⟩
    · exact (hx.trans x9).size_none
    · rw [Heap.get_new]
      congr 2
      apply List.ext_getElem
      · simp [rangeL_length]
      · intro i h1 h2
        rw [List.getElem_map, List.getElem_map, rangeL_get, List.getElem_range]
        simp
theorem fn_nearest : TT.fn 213 = some c_nearest := rfl
theorem nearest_wp (n : Nat) (h : Heap) {rc : Nat} {cs : List Bool} {count : Nat} (e : h.get rc = some (.lst (cs.map bI))) (hl : cs.length = 2 * count) (h4 : 4 ≤ count) (hct : count < 1000) {c p : Nat} (hf : (nearP cs count count)[0]? = some (some (c, p))) {X : Nat → List Val → Heap → Prop} :
    (callAt TT (n + 3) 213 [.ref rc] h).wp (fun v h' => ∃ r, v = .tup [.ref r, .int (c : Nat)] ∧ h.get r = none ∧ h'.get r = some (.lst ((List.range count).map fun k => bI (p.testBit (count - 1 - k)))) ∧ Ext h h') X := by
  refine call_wp fn_nearest rfl ?_
  unfold c_nearest
  have hlen : ((cs.map bI).length : Int) = 2 * count := by rw [List.length_map, hl]; omega
  rw [wp_cons]
  simp only [wp_ok, wp_bad, wp_bind, wp_ite, wp_nx, wp_ret, wp_fbad, wp_st, retE_ret, retE_exc, opt_some, opt_none, tru_bl, slotQ_some, intV_int, blV_bl, refV_ref, tupV_tup, wp_loc, wp_cint, wp_cstr, wp_cbl, wp_cnon, wp_cval, wp_bin, wp_neg, wp_nt, wp_cmp, wp_chain, wp_is, wp_and, wp_or, wp_ife, wp_fld, wp_ix, wp_sl, wp_tup, wp_lst, wp_dnew, wp_call, wp_mk, wp_make, wp_meth, wp_methK, wp_blt, wp_bm, wp_comp, wp_comp2, wp_pno, wp_pyes, wp_ono, wp_oyes, wp_esnil, wp_escons, wp_over, wp_range1, wp_range2, wp_range3, wp_enum, wp_rev, wp_nil, wp_ex, wp_set, wp_setf, wp_seti, wp_setTF, wp_sret, wp_retn, wp_pass, wp_brk, wp_cnt, wp_if, wp_for, wp_while, wp_binI, binI_add, binI_sub, binI_mul, binI_fdiv, binI_mod, binI_shr, binI_band, binI_bxor, binI_pow, cmp_lt, cmp_le, cmp_gt, cmp_ge, cmp_eqI, cmp_neI, cmp_eqS, cmp_neS, opt_ite, ite_and, List.getElem?_cons_zero, List.getElem?_cons_succ, List.set_cons_zero, List.set_cons_succ, List.length_cons, List.length_nil, List.append_nil, List.map_cons, List.map_nil, assignT, setSlots, List.cons_append, List.nil_append, Nat.reduceSub, Nat.reduceAdd, decide_eq_true_eq, if_true, if_false, Bool.false_eq_true, Bool.not_true, Bool.not_false, beq_true, beq_false, decide_true, decide_false, List.replicate_zero, List.replicate_succ, true_and, and_true]
  rw [len_lst e, hlen]
  simp only [wp_ok, wp_bad, wp_bind, wp_ite, wp_nx, wp_ret, wp_fbad, wp_st, retE_ret, retE_exc, opt_some, opt_none, tru_bl, slotQ_some, intV_int, blV_bl, refV_ref, tupV_tup, wp_loc, wp_cint, wp_cstr, wp_cbl, wp_cnon, wp_cval, wp_bin, wp_neg, wp_nt, wp_cmp, wp_chain, wp_is, wp_and, wp_or, wp_ife, wp_fld, wp_ix, wp_sl, wp_tup, wp_lst, wp_dnew, wp_call, wp_mk, wp_make, wp_meth, wp_methK, wp_blt, wp_bm, wp_comp, wp_comp2, wp_pno, wp_pyes, wp_ono, wp_oyes, wp_esnil, wp_escons, wp_over, wp_range1, wp_range2, wp_range3, wp_enum, wp_rev, wp_nil, wp_ex, wp_set, wp_setf, wp_seti, wp_setTF, wp_sret, wp_retn, wp_pass, wp_brk, wp_cnt, wp_if, wp_for, wp_while, wp_binI, binI_add, binI_sub, binI_mul, binI_fdiv, binI_mod, binI_shr, binI_band, binI_bxor, binI_pow, cmp_lt, cmp_le, cmp_gt, cmp_ge, cmp_eqI, cmp_neI, cmp_eqS, cmp_neS, opt_ite, ite_and, List.getElem?_cons_zero, List.getElem?_cons_succ, List.set_cons_zero, List.set_cons_succ, List.length_cons, List.length_nil, List.append_nil, List.map_cons, List.map_nil, assignT, setSlots, List.cons_append, List.nil_append, Nat.reduceSub, Nat.reduceAdd, decide_eq_true_eq, if_true, if_false, Bool.false_eq_true, Bool.not_true, Bool.not_false, beq_true, beq_false, decide_true, decide_false, List.replicate_zero, List.replicate_succ, true_and, and_true]
  refine ⟨by decide, ?_⟩
  rw [show (2 * (count : Int)) / 2 = count by omega]
  rw [wp_cons]
  simp only [wp_ok, wp_bad, wp_bind, wp_ite, wp_nx, wp_ret, wp_fbad, wp_st, retE_ret, retE_exc, opt_some, opt_none, tru_bl, slotQ_some, intV_int, blV_bl, refV_ref, tupV_tup, wp_loc, wp_cint, wp_cstr, wp_cbl, wp_cnon, wp_cval, wp_bin, wp_neg, wp_nt, wp_cmp, wp_chain, wp_is, wp_and, wp_or, wp_ife, wp_fld, wp_ix, wp_sl, wp_tup, wp_lst, wp_dnew, wp_call, wp_mk, wp_make, wp_meth, wp_methK, wp_blt, wp_bm, wp_comp, wp_comp2, wp_pno, wp_pyes, wp_ono, wp_oyes, wp_esnil, wp_escons, wp_over, wp_range1, wp_range2, wp_range3, wp_enum, wp_rev, wp_nil, wp_ex, wp_set, wp_setf, wp_seti, wp_setTF, wp_sret, wp_retn, wp_pass, wp_brk, wp_cnt, wp_if, wp_for, wp_while, wp_binI, binI_add, binI_sub, binI_mul, binI_fdiv, binI_mod, binI_shr, binI_band, binI_bxor, binI_pow, cmp_lt, cmp_le, cmp_gt, cmp_ge, cmp_eqI, cmp_neI, cmp_eqS, cmp_neS, opt_ite, ite_and, List.getElem?_cons_zero, List.getElem?_cons_succ, List.set_cons_zero, List.set_cons_succ, List.length_cons, List.length_nil, List.append_nil, List.map_cons, List.map_nil, assignT, setSlots, List.cons_append, List.nil_append, Nat.reduceSub, Nat.reduceAdd, decide_eq_true_eq, if_true, if_false, Bool.false_eq_true, Bool.not_true, Bool.not_false, beq_true, beq_false, decide_true, decide_false, List.replicate_zero, List.replicate_succ, true_and, and_true]
  rw [len_lst e, hlen]
  simp only [wp_ok, wp_bad, wp_bind, wp_ite, wp_nx, wp_ret, wp_fbad, wp_st, retE_ret, retE_exc, opt_some, opt_none, tru_bl, slotQ_some, intV_int, blV_bl, refV_ref, tupV_tup, wp_loc, wp_cint, wp_cstr, wp_cbl, wp_cnon, wp_cval, wp_bin, wp_neg, wp_nt, wp_cmp, wp_chain, wp_is, wp_and, wp_or, wp_ife, wp_fld, wp_ix, wp_sl, wp_tup, wp_lst, wp_dnew, wp_call, wp_mk, wp_make, wp_meth, wp_methK, wp_blt, wp_bm, wp_comp, wp_comp2, wp_pno, wp_pyes, wp_ono, wp_oyes, wp_esnil, wp_escons, wp_over, wp_range1, wp_range2, wp_range3, wp_enum, wp_rev, wp_nil, wp_ex, wp_set, wp_setf, wp_seti, wp_setTF, wp_sret, wp_retn, wp_pass, wp_brk, wp_cnt, wp_if, wp_for, wp_while, wp_binI, binI_add, binI_sub, binI_mul, binI_fdiv, binI_mod, binI_shr, binI_band, binI_bxor, binI_pow, cmp_lt, cmp_le, cmp_gt, cmp_ge, cmp_eqI, cmp_neI, cmp_eqS, cmp_neS, opt_ite, ite_and, List.getElem?_cons_zero, List.getElem?_cons_succ, List.set_cons_zero, List.set_cons_succ, List.length_cons, List.length_nil, List.append_nil, List.map_cons, List.map_nil, assignT, setSlots, List.cons_append, List.nil_append, Nat.reduceSub, Nat.reduceAdd, decide_eq_true_eq, if_true, if_false, Bool.false_eq_true, Bool.not_true, Bool.not_false, beq_true, beq_false, decide_true, decide_false, List.replicate_zero, List.replicate_succ, true_and, and_true]
  refine ⟨by decide, ?_⟩
  rw [if_neg (by omega), if_neg (by omega)]
  rw [wp_cons]
  simp only [wp_ok, wp_bad, wp_bind, wp_ite, wp_nx, wp_ret, wp_fbad, wp_st, retE_ret, retE_exc, opt_some, opt_none, tru_bl, slotQ_some, intV_int, blV_bl, refV_ref, tupV_tup, wp_loc, wp_cint, wp_cstr, wp_cbl, wp_cnon, wp_cval, wp_bin, wp_neg, wp_nt, wp_cmp, wp_chain, wp_is, wp_and, wp_or, wp_ife, wp_fld, wp_ix, wp_sl, wp_tup, wp_lst, wp_dnew, wp_call, wp_mk, wp_make, wp_meth, wp_methK, wp_blt, wp_bm, wp_comp, wp_comp2, wp_pno, wp_pyes, wp_ono, wp_oyes, wp_esnil, wp_escons, wp_over, wp_range1, wp_range2, wp_range3, wp_enum, wp_rev, wp_nil, wp_ex, wp_set, wp_setf, wp_seti, wp_setTF, wp_sret, wp_retn, wp_pass, wp_brk, wp_cnt, wp_if, wp_for, wp_while, wp_binI, binI_add, binI_sub, binI_mul, binI_fdiv, binI_mod, binI_shr, binI_band, binI_bxor, binI_pow, cmp_lt, cmp_le, cmp_gt, cmp_ge, cmp_eqI, cmp_neI, cmp_eqS, cmp_neS, opt_ite, ite_and, List.getElem?_cons_zero, List.getElem?_cons_succ, List.set_cons_zero, List.set_cons_succ, List.length_cons, List.length_nil, List.append_nil, List.map_cons, List.map_nil, assignT, setSlots, List.cons_append, List.nil_append, Nat.reduceSub, Nat.reduceAdd, decide_eq_true_eq, if_true, if_false, Bool.false_eq_true, Bool.not_true, Bool.not_false, beq_true, beq_false, decide_true, decide_false, List.replicate_zero, List.replicate_succ, true_and, and_true]
  refine (steps_wp (n + 0) h (X := nox)).mono ?_ (fun _ _ _ q => q.elim)
  rintro v h1 ⟨rs, rfl, ns, gs, x1⟩
  rw [wp_cons]
  simp only [wp_ok, wp_bad, wp_bind, wp_ite, wp_nx, wp_ret, wp_fbad, wp_st, retE_ret, retE_exc, opt_some, opt_none, tru_bl, slotQ_some, intV_int, blV_bl, refV_ref, tupV_tup, wp_loc, wp_cint, wp_cstr, wp_cbl, wp_cnon, wp_cval, wp_bin, wp_neg, wp_nt, wp_cmp, wp_chain, wp_is, wp_and, wp_or, wp_ife, wp_fld, wp_ix, wp_sl, wp_tup, wp_lst, wp_dnew, wp_call, wp_mk, wp_make, wp_meth, wp_methK, wp_blt, wp_bm, wp_comp, wp_comp2, wp_pno, wp_pyes, wp_ono, wp_oyes, wp_esnil, wp_escons, wp_over, wp_range1, wp_range2, wp_range3, wp_enum, wp_rev, wp_nil, wp_ex, wp_set, wp_setf, wp_seti, wp_setTF, wp_sret, wp_retn, wp_pass, wp_brk, wp_cnt, wp_if, wp_for, wp_while, wp_binI, binI_add, binI_sub, binI_mul, binI_fdiv, binI_mod, binI_shr, binI_band, binI_bxor, binI_pow, cmp_lt, cmp_le, cmp_gt, cmp_ge, cmp_eqI, cmp_neI, cmp_eqS, cmp_neS, opt_ite, ite_and, List.getElem?_cons_zero, List.getElem?_cons_succ, List.set_cons_zero, List.set_cons_succ, List.length_cons, List.length_nil, List.append_nil, List.map_cons, List.map_nil, assignT, setSlots, List.cons_append, List.nil_append, Nat.reduceSub, Nat.reduceAdd, decide_eq_true_eq, if_true, if_false, Bool.false_eq_true, Bool.not_true, Bool.not_false, beq_true, beq_false, decide_true, decide_false, List.replicate_zero, List.replicate_succ, true_and, and_true]
  rw [srcOf_lst gs]
  simp only [wp_ok, wp_bad, wp_bind, wp_ite, wp_nx, wp_ret, wp_fbad, wp_st, retE_ret, retE_exc, opt_some, opt_none, tru_bl, slotQ_some, intV_int, blV_bl, refV_ref, tupV_tup, wp_loc, wp_cint, wp_cstr, wp_cbl, wp_cnon, wp_cval, wp_bin, wp_neg, wp_nt, wp_cmp, wp_chain, wp_is, wp_and, wp_or, wp_ife, wp_fld, wp_ix, wp_sl, wp_tup, wp_lst, wp_dnew, wp_call, wp_mk, wp_make, wp_meth, wp_methK, wp_blt, wp_bm, wp_comp, wp_comp2, wp_pno, wp_pyes, wp_ono, wp_oyes, wp_esnil, wp_escons, wp_over, wp_range1, wp_range2, wp_range3, wp_enum, wp_rev, wp_nil, wp_ex, wp_set, wp_setf, wp_seti, wp_setTF, wp_sret, wp_retn, wp_pass, wp_brk, wp_cnt, wp_if, wp_for, wp_while, wp_binI, binI_add, binI_sub, binI_mul, binI_fdiv, binI_mod, binI_shr, binI_band, binI_bxor, binI_pow, cmp_lt, cmp_le, cmp_gt, cmp_ge, cmp_eqI, cmp_neI, cmp_eqS, cmp_neS, opt_ite, ite_and, List.getElem?_cons_zero, List.getElem?_cons_succ, List.set_cons_zero, List.set_cons_succ, List.length_cons, List.length_nil, List.append_nil, List.map_cons, List.map_nil, assignT, setSlots, List.cons_append, List.nil_append, Nat.reduceSub, Nat.reduceAdd, decide_eq_true_eq, if_true, if_false, Bool.false_eq_true, Bool.not_true, Bool.not_false, beq_true, beq_false, decide_true, decide_false, List.replicate_zero, List.replicate_succ, true_and, and_true]
  have lm : ((List.range 32).map stepV).length = 32 := by simp
  refine comp_inv (fun k acc h' => acc = ((List.range k).filter fun j => decide (j % 2 = 0)).map stepV ∧ h' = h1) ?_ ?_ ?_ ⟨rfl, rfl⟩
  · rintro k acc h' hk ⟨ha, rfl⟩
    exact stands_some gs
  · rintro k hk acc h' ⟨ha, rfl⟩
    rw [lm] at hk
    have hv : (((List.range 32).map stepV)[k]'(by rw [lm]; exact hk)) = stepV k := by rw [List.getElem_map, List.getElem_range]
    rw [hv]
    refine ⟨_, rfl, ?_⟩
    have i1 : ixV h' (stepV k) (.int 1) = some (bI (decide (k % 2 = 1))) := rfl
    simp only [wipeT, i1, bI, wp_ok, wp_bad, wp_bind, wp_ite, wp_nx, wp_ret, wp_fbad, wp_st, retE_ret, retE_exc, opt_some, opt_none, tru_bl, slotQ_some, intV_int, blV_bl, refV_ref, tupV_tup, wp_loc, wp_cint, wp_cstr, wp_cbl, wp_cnon, wp_cval, wp_bin, wp_neg, wp_nt, wp_cmp, wp_chain, wp_is, wp_and, wp_or, wp_ife, wp_fld, wp_ix, wp_sl, wp_tup, wp_lst, wp_dnew, wp_call, wp_mk, wp_make, wp_meth, wp_methK, wp_blt, wp_bm, wp_comp, wp_comp2, wp_pno, wp_pyes, wp_ono, wp_oyes, wp_esnil, wp_escons, wp_over, wp_range1, wp_range2, wp_range3, wp_enum, wp_rev, wp_nil, wp_ex, wp_set, wp_setf, wp_seti, wp_setTF, wp_sret, wp_retn, wp_pass, wp_brk, wp_cnt, wp_if, wp_for, wp_while, wp_binI, binI_add, binI_sub, binI_mul, binI_fdiv, binI_mod, binI_shr, binI_band, binI_bxor, binI_pow, cmp_lt, cmp_le, cmp_gt, cmp_ge, cmp_eqI, cmp_neI, cmp_eqS, cmp_neS, opt_ite, ite_and, List.getElem?_cons_zero, List.getElem?_cons_succ, List.set_cons_zero, List.set_cons_succ, List.length_cons, List.length_nil, List.append_nil, List.map_cons, List.map_nil, assignT, setSlots, List.cons_append, List.nil_append, Nat.reduceSub, Nat.reduceAdd, decide_eq_true_eq, if_true, if_false, Bool.false_eq_true, Bool.not_true, Bool.not_false, beq_true, beq_false, decide_true, decide_false, List.replicate_zero, List.replicate_succ, true_and, and_true]
    have q : List.filter (fun j => decide (j % 2 = 0)) (List.range (k + 1)) = List.filter (fun j => decide (j % 2 = 0)) (List.range k) ++ (if k % 2 = 0 then [k] else []) := by
      rw [List.range_succ, List.filter_append]
      congr 1
      by_cases z : k % 2 = 0 <;> simp [z]
    rw [q]
    rcases Nat.mod_two_eq_zero_or_one k with z | z
    · simp [z, ha]
    · simp [z, ha]
  rintro acc h' ⟨ha, rfl⟩
  rw [lm] at ha
  have ha : acc = zerosL.map stepV := ha
  subst ha
  refine ⟨by rw [show (zerosL.map stepV).length = 16 from rfl]; decide, ?_⟩
  generalize hz0 : h'.push (Obj.lst (zerosL.map stepV)) = h2
  have x2 : Ext h' h2 := by rw [← hz0]; exact Ext.push _ _
  have gz : h2.get h'.size = some (.lst (zerosL.map stepV)) := by rw [← hz0]; exact Heap.get_new _ _
  generalize h'.size = rz at gz
  rw [wp_cons]
  simp only [wp_ok, wp_bad, wp_bind, wp_ite, wp_nx, wp_ret, wp_fbad, wp_st, retE_ret, retE_exc, opt_some, opt_none, tru_bl, slotQ_some, intV_int, blV_bl, refV_ref, tupV_tup, wp_loc, wp_cint, wp_cstr, wp_cbl, wp_cnon, wp_cval, wp_bin, wp_neg, wp_nt, wp_cmp, wp_chain, wp_is, wp_and, wp_or, wp_ife, wp_fld, wp_ix, wp_sl, wp_tup, wp_lst, wp_dnew, wp_call, wp_mk, wp_make, wp_meth, wp_methK, wp_blt, wp_bm, wp_comp, wp_comp2, wp_pno, wp_pyes, wp_ono, wp_oyes, wp_esnil, wp_escons, wp_over, wp_range1, wp_range2, wp_range3, wp_enum, wp_rev, wp_nil, wp_ex, wp_set, wp_setf, wp_seti, wp_setTF, wp_sret, wp_retn, wp_pass, wp_brk, wp_cnt, wp_if, wp_for, wp_while, wp_binI, binI_add, binI_sub, binI_mul, binI_fdiv, binI_mod, binI_shr, binI_band, binI_bxor, binI_pow, cmp_lt, cmp_le, cmp_gt, cmp_ge, cmp_eqI, cmp_neI, cmp_eqS, cmp_neS, opt_ite, ite_and, List.getElem?_cons_zero, List.getElem?_cons_succ, List.set_cons_zero, List.set_cons_succ, List.length_cons, List.length_nil, List.append_nil, List.map_cons, List.map_nil, assignT, setSlots, List.cons_append, List.nil_append, Nat.reduceSub, Nat.reduceAdd, decide_eq_true_eq, if_true, if_false, Bool.false_eq_true, Bool.not_true, Bool.not_false, beq_true, beq_false, decide_true, decide_false, List.replicate_zero, List.replicate_succ, true_and, and_true]
  refine ⟨by decide, ?_⟩
  rw [mul_lst (Heap.get_new _ _), rep_one]
  refine ⟨⟨by decide, rfl⟩, ?_⟩
  generalize hr0 : (h2.push (Obj.lst [Val.non])).size = r
  generalize hh0 : (h2.push (Obj.lst [Val.non])).push (.lst (List.replicate (Int.toNat 16) Val.non)) = h3
  have x3 : Ext h2 h3 := by rw [← hh0]; exact (Ext.push _ _).tpush _
  have g3 : h3.get r = some (.lst ((List.replicate 16 (none : Option (Nat × Nat))).map oV)) := by rw [← hh0, ← hr0, Heap.get_new]; simp [oV]
  have n3 : h2.get r = none := by rw [← hr0]; exact Heap.get_ge (by rw [Heap.size_push]; omega)
  have x03 : Ext h h3 := x1.trans (x2.trans x3)
  have n0 : h.get r = none := by
    cases q : h.get r with
    | none => rfl
    | some o => rw [(x1.trans x2).2 _ _ q] at n3; cases n3
  rw [wp_cons]
  simp only [wp_ok, wp_bad, wp_bind, wp_ite, wp_nx, wp_ret, wp_fbad, wp_st, retE_ret, retE_exc, opt_some, opt_none, tru_bl, slotQ_some, intV_int, blV_bl, refV_ref, tupV_tup, wp_loc, wp_cint, wp_cstr, wp_cbl, wp_cnon, wp_cval, wp_bin, wp_neg, wp_nt, wp_cmp, wp_chain, wp_is, wp_and, wp_or, wp_ife, wp_fld, wp_ix, wp_sl, wp_tup, wp_lst, wp_dnew, wp_call, wp_mk, wp_make, wp_meth, wp_methK, wp_blt, wp_bm, wp_comp, wp_comp2, wp_pno, wp_pyes, wp_ono, wp_oyes, wp_esnil, wp_escons, wp_over, wp_range1, wp_range2, wp_range3, wp_enum, wp_rev, wp_nil, wp_ex, wp_set, wp_setf, wp_seti, wp_setTF, wp_sret, wp_retn, wp_pass, wp_brk, wp_cnt, wp_if, wp_for, wp_while, wp_binI, binI_add, binI_sub, binI_mul, binI_fdiv, binI_mod, binI_shr, binI_band, binI_bxor, binI_pow, cmp_lt, cmp_le, cmp_gt, cmp_ge, cmp_eqI, cmp_neI, cmp_eqS, cmp_neS, opt_ite, ite_and, List.getElem?_cons_zero, List.getElem?_cons_succ, List.set_cons_zero, List.set_cons_succ, List.length_cons, List.length_nil, List.append_nil, List.map_cons, List.map_nil, assignT, setSlots, List.cons_append, List.nil_append, Nat.reduceSub, Nat.reduceAdd, decide_eq_true_eq, if_true, if_false, Bool.false_eq_true, Bool.not_true, Bool.not_false, beq_true, beq_false, decide_true, decide_false, List.replicate_zero, List.replicate_succ, true_and, and_true]
  refine ⟨two_le, ?_⟩
  have s3 : ∀ v, setV h3 (.ref r) (.int 0) v = some (h3.set r (.lst (((List.replicate 16 (none : Option (Nat × Nat))).map oV).set 0 v))) := fun v => set_lst (k := 0) g3 (by simp) v
  rw [s3, opt_some]
  have e0 : ((List.replicate 16 (none : Option (Nat × Nat))).map oV).set 0 (.tup [.int 0, .int 0]) = (nearP cs count 0).map oV := by
    unfold nearP
    rw [List.map_set]
    rfl
  rw [e0]
  have x5 := x3.set (o := .lst ((nearP cs count 0).map oV)) n3 (Heap.get_lt g3)
  have g5 := Heap.get_set_eq (.lst ((nearP cs count 0).map oV)) g3
  generalize h3.set r (.lst ((nearP cs count 0).map oV)) = h5 at x5 g5 ⊢
  have x05 : Ext h h5 := x1.trans (x2.trans x5)
  rw [wp_cons]
  simp only [wp_ok, wp_bad, wp_bind, wp_ite, wp_nx, wp_ret, wp_fbad, wp_st, retE_ret, retE_exc, opt_some, opt_none, tru_bl, slotQ_some, intV_int, blV_bl, refV_ref, tupV_tup, wp_loc, wp_cint, wp_cstr, wp_cbl, wp_cnon, wp_cval, wp_bin, wp_neg, wp_nt, wp_cmp, wp_chain, wp_is, wp_and, wp_or, wp_ife, wp_fld, wp_ix, wp_sl, wp_tup, wp_lst, wp_dnew, wp_call, wp_mk, wp_make, wp_meth, wp_methK, wp_blt, wp_bm, wp_comp, wp_comp2, wp_pno, wp_pyes, wp_ono, wp_oyes, wp_esnil, wp_escons, wp_over, wp_range1, wp_range2, wp_range3, wp_enum, wp_rev, wp_nil, wp_ex, wp_set, wp_setf, wp_seti, wp_setTF, wp_sret, wp_retn, wp_pass, wp_brk, wp_cnt, wp_if, wp_for, wp_while, wp_binI, binI_add, binI_sub, binI_mul, binI_fdiv, binI_mod, binI_shr, binI_band, binI_bxor, binI_pow, cmp_lt, cmp_le, cmp_gt, cmp_ge, cmp_eqI, cmp_neI, cmp_eqS, cmp_neS, opt_ite, ite_and, List.getElem?_cons_zero, List.getElem?_cons_succ, List.set_cons_zero, List.set_cons_succ, List.length_cons, List.length_nil, List.append_nil, List.map_cons, List.map_nil, assignT, setSlots, List.cons_append, List.nil_append, Nat.reduceSub, Nat.reduceAdd, decide_eq_true_eq, if_true, if_false, Bool.false_eq_true, Bool.not_true, Bool.not_false, beq_true, beq_false, decide_true, decide_false, List.replicate_zero, List.replicate_succ, true_and, and_true]
  refine ⟨in62_nat (by omega), ?_⟩
  rw [Int.toNat_natCast]
  refine for_range (fun k σ h' => ∃ a b c d e r, σ = [some (.ref rc), some (.int count), some (.ref rs), some (.ref rz), some (.ref r), a, b, c, d, e] ∧ h.get r = none ∧ h'.get r = some (.lst ((nearP cs count k).map oV)) ∧ Ext h h' ∧ h'.get rs = some (.lst ((List.range 32).map stepV)) ∧ h'.get rz = some (.lst (zerosL.map stepV))) ?_ ?_ ?_
  · rintro k hk σ h' ⟨a, b, c, d, e', r, rfl, hn, hg, hx, hs, hz⟩
    rw [wp_cons]
    simp only [wp_ok, wp_bad, wp_bind, wp_ite, wp_nx, wp_ret, wp_fbad, wp_st, retE_ret, retE_exc, opt_some, opt_none, tru_bl, slotQ_some, intV_int, blV_bl, refV_ref, tupV_tup, wp_loc, wp_cint, wp_cstr, wp_cbl, wp_cnon, wp_cval, wp_bin, wp_neg, wp_nt, wp_cmp, wp_chain, wp_is, wp_and, wp_or, wp_ife, wp_fld, wp_ix, wp_sl, wp_tup, wp_lst, wp_dnew, wp_call, wp_mk, wp_make, wp_meth, wp_methK, wp_blt, wp_bm, wp_comp, wp_comp2, wp_pno, wp_pyes, wp_ono, wp_oyes, wp_esnil, wp_escons, wp_over, wp_range1, wp_range2, wp_range3, wp_enum, wp_rev, wp_nil, wp_ex, wp_set, wp_setf, wp_seti, wp_setTF, wp_sret, wp_retn, wp_pass, wp_brk, wp_cnt, wp_if, wp_for, wp_while, wp_binI, binI_add, binI_sub, binI_mul, binI_fdiv, binI_mod, binI_shr, binI_band, binI_bxor, binI_pow, cmp_lt, cmp_le, cmp_gt, cmp_ge, cmp_eqI, cmp_neI, cmp_eqS, cmp_neS, opt_ite, ite_and, List.getElem?_cons_zero, List.getElem?_cons_succ, List.set_cons_zero, List.set_cons_succ, List.length_cons, List.length_nil, List.append_nil, List.map_cons, List.map_nil, assignT, setSlots, List.cons_append, List.nil_append, Nat.reduceSub, Nat.reduceAdd, decide_eq_true_eq, if_true, if_false, Bool.false_eq_true, Bool.not_true, Bool.not_false, beq_true, beq_false, decide_true, decide_false, List.replicate_zero, List.replicate_succ, true_and, and_true]
    have key : ∀ rr, h'.get rr = some (.lst ((rowsAt count k).map stepV)) → ∀ b, 
       (evB TT (callAt TT (n + 2)) (Bk.cons (St.set (Tg.one 4) (E.call 186 (Es.cons (E.loc 4) (Es.cons (E.loc 6) (Es.cons (E.tup (Es.cons ((E.loc 0).ix (E.bin Op.mul (E.cint 2) (E.loc 5))) (Es.cons ((E.loc 0).ix (E.bin Op.add (E.bin Op.mul (E.cint 2) (E.loc 5)) (E.cint 1))) Es.nil))) Es.nil))) [])) Bk.nil) [some (.ref rc), some (.int count), some (.ref rs), some (.ref rz), some (.ref r), some (.int k), some (.ref rr), c, d, e'] h').wp (fun σ h' => ∃ a b c d e r, σ = [some (.ref rc), some (.int count), some (.ref rs), some (.ref rz), some (.ref r), a, b, c, d, e] ∧ h.get r = none ∧ h'.get r = some (.lst ((nearP cs count (k + 1)).map oV)) ∧ Ext h h' ∧ h'.get rs = some (.lst ((List.range 32).map stepV)) ∧ h'.get rz = some (.lst (zerosL.map stepV))) b := by
      intro rr hrr b
      rw [wp_cons]
      simp only [wp_ok, wp_bad, wp_bind, wp_ite, wp_nx, wp_ret, wp_fbad, wp_st, retE_ret, retE_exc, opt_some, opt_none, tru_bl, slotQ_some, intV_int, blV_bl, refV_ref, tupV_tup, wp_loc, wp_cint, wp_cstr, wp_cbl, wp_cnon, wp_cval, wp_bin, wp_neg, wp_nt, wp_cmp, wp_chain, wp_is, wp_and, wp_or, wp_ife, wp_fld, wp_ix, wp_sl, wp_tup, wp_lst, wp_dnew, wp_call, wp_mk, wp_make, wp_meth, wp_methK, wp_blt, wp_bm, wp_comp, wp_comp2, wp_pno, wp_pyes, wp_ono, wp_oyes, wp_esnil, wp_escons, wp_over, wp_range1, wp_range2, wp_range3, wp_enum, wp_rev, wp_nil, wp_ex, wp_set, wp_setf, wp_seti, wp_setTF, wp_sret, wp_retn, wp_pass, wp_brk, wp_cnt, wp_if, wp_for, wp_while, wp_binI, binI_add, binI_sub, binI_mul, binI_fdiv, binI_mod, binI_shr, binI_band, binI_bxor, binI_pow, cmp_lt, cmp_le, cmp_gt, cmp_ge, cmp_eqI, cmp_neI, cmp_eqS, cmp_neS, opt_ite, ite_and, List.getElem?_cons_zero, List.getElem?_cons_succ, List.set_cons_zero, List.set_cons_succ, List.length_cons, List.length_nil, List.append_nil, List.map_cons, List.map_nil, assignT, setSlots, List.cons_append, List.nil_append, Nat.reduceSub, Nat.reduceAdd, decide_eq_true_eq, if_true, if_false, Bool.false_eq_true, Bool.not_true, Bool.not_false, beq_true, beq_false, decide_true, decide_false, List.replicate_zero, List.replicate_succ, true_and, and_true]
      refine ⟨small_ok rfl, ?_⟩
      rw [show 2 * (k : Int) = ((2 * k : Nat) : Int) by omega, show ((2 * k : Nat) : Int) + 1 = ((2 * k + 1 : Nat) : Int) by omega]
      rw [ix_lst (hx.2 _ _ e) (by rw [List.length_map]; omega)]
      rw [ix_lst (hx.2 _ _ e) (by rw [List.length_map]; omega)]
      simp only [List.getElem_map, wp_ok, wp_bad, wp_bind, wp_ite, wp_nx, wp_ret, wp_fbad, wp_st, retE_ret, retE_exc, opt_some, opt_none, tru_bl, slotQ_some, intV_int, blV_bl, refV_ref, tupV_tup, wp_loc, wp_cint, wp_cstr, wp_cbl, wp_cnon, wp_cval, wp_bin, wp_neg, wp_nt, wp_cmp, wp_chain, wp_is, wp_and, wp_or, wp_ife, wp_fld, wp_ix, wp_sl, wp_tup, wp_lst, wp_dnew, wp_call, wp_mk, wp_make, wp_meth, wp_methK, wp_blt, wp_bm, wp_comp, wp_comp2, wp_pno, wp_pyes, wp_ono, wp_oyes, wp_esnil, wp_escons, wp_over, wp_range1, wp_range2, wp_range3, wp_enum, wp_rev, wp_nil, wp_ex, wp_set, wp_setf, wp_seti, wp_setTF, wp_sret, wp_retn, wp_pass, wp_brk, wp_cnt, wp_if, wp_for, wp_while, wp_binI, binI_add, binI_sub, binI_mul, binI_fdiv, binI_mod, binI_shr, binI_band, binI_bxor, binI_pow, cmp_lt, cmp_le, cmp_gt, cmp_ge, cmp_eqI, cmp_neI, cmp_eqS, cmp_neS, opt_ite, ite_and, List.getElem?_cons_zero, List.getElem?_cons_succ, List.set_cons_zero, List.set_cons_succ, List.length_cons, List.length_nil, List.append_nil, List.map_cons, List.map_nil, assignT, setSlots, List.cons_append, List.nil_append, Nat.reduceSub, Nat.reduceAdd, decide_eq_true_eq, if_true, if_false, Bool.false_eq_true, Bool.not_true, Bool.not_false, beq_true, beq_false, decide_true, decide_false, List.replicate_zero, List.replicate_succ, true_and, and_true]
      refine ⟨small_ok rfl, by decide, ?_⟩
      refine (advance_wp (n + 1) h' hg (nearP_length _ _ _) hrr (fun j hj => ?_) (X := nox)).mono ?_ (fun _ _ _ q => q.elim)
      · unfold rowsAt at hj
        split at hj
        · simpa using hj
        · unfold zerosL at hj
          rw [List.mem_filter] at hj
          simpa using hj.1
      · rintro v h9 ⟨r9, rfl, n9, g9, x9⟩
        refine ⟨_, _, _, _, _, _, rfl, ?_, ?_, hx.trans x9, x9.2 _ _ hs, x9.2 _ _ hz⟩
        · cases q : h.get r9 with
          | none => rfl
          | some o => rw [hx.2 _ _ q] at n9; cases n9
        · rw [g9, nearP]
          congr 4
          · rw [List.getD_eq_getElem?_getD, List.getElem?_eq_getElem (by omega)]; rfl
          · rw [List.getD_eq_getElem?_getD, List.getElem?_eq_getElem (by omega)]; rfl
    by_cases q : k + 4 < count
    · rw [if_pos (by omega)]
      exact key rs (by unfold rowsAt; rw [if_pos q]; exact hs) _
    · rw [if_neg (by omega)]
      exact key rz (by unfold rowsAt; rw [if_neg q]; exact hz) _
  · rintro σ h' ⟨a, b, c', d, e', r, rfl, hn, hg, hx, hs, hz⟩
    exact tail_wp h h' hct hf hg hx
  · exact ⟨_, _, _, _, _, _, rfl, n0, g5, x05, x5.2 _ _ (x2.2 _ _ gs), x5.2 _ _ gz⟩
end M
end

section
set_option linter.all false
set_option Elab.async false
set_option maxRecDepth 4000
set_option pp.maxSteps 700
/-! P4: the other codes. -/
namespace M
def conv : Nat → List Bool → List Bool
  | _, [] => []
  | s, b :: bs => (pairB s b).1 :: (pairB s b).2 :: conv (nxS s b) bs
def stN : Nat → List Bool → Nat
  | s, [] => s
  | s, b :: bs => stN (nxS s b) bs
theorem conv_snoc (s : Nat) (xs : List Bool) (b : Bool) : conv s (xs ++ [b]) = conv s xs ++ [(pairB (stN s xs) b).1, (pairB (stN s xs) b).2] := by
  induction xs generalizing s with
  | nil => rfl
  | cons x xs ih => simp only [List.cons_append, conv, stN, ih]
theorem stN_snoc (s : Nat) (xs : List Bool) (b : Bool) : stN s (xs ++ [b]) = nxS (stN s xs) b := by
  induction xs generalizing s with
  | nil => rfl
  | cons x xs ih => simp only [List.cons_append, stN, ih]
theorem stN_lt {s : Nat} (hs : s < 16) (xs : List Bool) : stN s xs < 16 := by
  induction xs generalizing s with
  | nil => exact hs
  | cons x xs ih => exact ih (nxS_lt hs)
theorem conv_length (s : Nat) (xs : List Bool) : (conv s xs).length = 2 * xs.length := by
  induction xs generalizing s with
  | nil => rfl
  | cons x xs ih => simp only [conv, List.length_cons, ih]; omega
theorem Ext.none {a h : Heap} (x : Ext a h) {r : Nat} (e : h.get r = none) : a.get r = none := by
  cases q : a.get r with
  | none => rfl
  | some o => rw [x.2 _ _ q] at e; cases e
theorem fn_convolve : TT.fn 200 = some c_convolve := rfl
theorem convolve_wp (n : Nat) (h : Heap) {ra : Nat} {bs : List Bool} (e : h.get ra = some (.lst (bs.map bI))) (hl : bs.length < 10000) {X : Nat → List Val → Heap → Prop} :
    (callAt TT (n + 2) 200 [.ref ra] h).wp (fun v h' => ∃ r, v = .ref r ∧ h.get r = none ∧ h'.get r = some (.lst ((conv 0 bs).map bI)) ∧ Ext h h') X := by
  refine call_wp fn_convolve rfl ?_
  unfold c_convolve
  rw [wp_cons]
  simp only [wp_ok, wp_bad, wp_bind, wp_ite, wp_nx, wp_ret, wp_fbad, wp_st, retE_ret, retE_exc, opt_some, opt_none, tru_bl, slotQ_some, intV_int, blV_bl, refV_ref, tupV_tup, wp_loc, wp_cint, wp_cstr, wp_cbl, wp_cnon, wp_cval, wp_bin, wp_neg, wp_nt, wp_cmp, wp_chain, wp_is, wp_and, wp_or, wp_ife, wp_fld, wp_ix, wp_sl, wp_tup, wp_lst, wp_dnew, wp_call, wp_mk, wp_make, wp_meth, wp_methK, wp_blt, wp_bm, wp_comp, wp_comp2, wp_pno, wp_pyes, wp_ono, wp_oyes, wp_esnil, wp_escons, wp_over, wp_range1, wp_range2, wp_range3, wp_enum, wp_rev, wp_nil, wp_ex, wp_set, wp_setf, wp_seti, wp_setTF, wp_sret, wp_retn, wp_pass, wp_brk, wp_cnt, wp_if, wp_for, wp_while, wp_binI, binI_add, binI_sub, binI_mul, binI_fdiv, binI_mod, binI_shr, binI_band, binI_bxor, binI_pow, cmp_lt, cmp_le, cmp_gt, cmp_ge, cmp_eqI, cmp_neI, cmp_eqS, cmp_neS, opt_ite, ite_and, List.getElem?_cons_zero, List.getElem?_cons_succ, List.set_cons_zero, List.set_cons_succ, List.length_cons, List.length_nil, List.append_nil, List.map_cons, List.map_nil, assignT, setSlots, List.cons_append, List.nil_append, Nat.reduceSub, Nat.reduceAdd, decide_eq_true_eq, if_true, if_false, Bool.false_eq_true, Bool.not_true, Bool.not_false, beq_true, beq_false, decide_true, decide_false, List.replicate_zero, List.replicate_succ, true_and, and_true]
  refine ⟨zero_le, ?_⟩
  rw [wp_cons]
  simp only [wp_ok, wp_bad, wp_bind, wp_ite, wp_nx, wp_ret, wp_fbad, wp_st, retE_ret, retE_exc, opt_some, opt_none, tru_bl, slotQ_some, intV_int, blV_bl, refV_ref, tupV_tup, wp_loc, wp_cint, wp_cstr, wp_cbl, wp_cnon, wp_cval, wp_bin, wp_neg, wp_nt, wp_cmp, wp_chain, wp_is, wp_and, wp_or, wp_ife, wp_fld, wp_ix, wp_sl, wp_tup, wp_lst, wp_dnew, wp_call, wp_mk, wp_make, wp_meth, wp_methK, wp_blt, wp_bm, wp_comp, wp_comp2, wp_pno, wp_pyes, wp_ono, wp_oyes, wp_esnil, wp_escons, wp_over, wp_range1, wp_range2, wp_range3, wp_enum, wp_rev, wp_nil, wp_ex, wp_set, wp_setf, wp_seti, wp_setTF, wp_sret, wp_retn, wp_pass, wp_brk, wp_cnt, wp_if, wp_for, wp_while, wp_binI, binI_add, binI_sub, binI_mul, binI_fdiv, binI_mod, binI_shr, binI_band, binI_bxor, binI_pow, cmp_lt, cmp_le, cmp_gt, cmp_ge, cmp_eqI, cmp_neI, cmp_eqS, cmp_neS, opt_ite, ite_and, List.getElem?_cons_zero, List.getElem?_cons_succ, List.set_cons_zero, List.set_cons_succ, List.length_cons, List.length_nil, List.append_nil, List.map_cons, List.map_nil, assignT, setSlots, List.cons_append, List.nil_append, Nat.reduceSub, Nat.reduceAdd, decide_eq_true_eq, if_true, if_false, Bool.false_eq_true, Bool.not_true, Bool.not_false, beq_true, beq_false, decide_true, decide_false, List.replicate_zero, List.replicate_succ, true_and, and_true]
  rw [wp_cons]
  simp only [wp_ok, wp_bad, wp_bind, wp_ite, wp_nx, wp_ret, wp_fbad, wp_st, retE_ret, retE_exc, opt_some, opt_none, tru_bl, slotQ_some, intV_int, blV_bl, refV_ref, tupV_tup, wp_loc, wp_cint, wp_cstr, wp_cbl, wp_cnon, wp_cval, wp_bin, wp_neg, wp_nt, wp_cmp, wp_chain, wp_is, wp_and, wp_or, wp_ife, wp_fld, wp_ix, wp_sl, wp_tup, wp_lst, wp_dnew, wp_call, wp_mk, wp_make, wp_meth, wp_methK, wp_blt, wp_bm, wp_comp, wp_comp2, wp_pno, wp_pyes, wp_ono, wp_oyes, wp_esnil, wp_escons, wp_over, wp_range1, wp_range2, wp_range3, wp_enum, wp_rev, wp_nil, wp_ex, wp_set, wp_setf, wp_seti, wp_setTF, wp_sret, wp_retn, wp_pass, wp_brk, wp_cnt, wp_if, wp_for, wp_while, wp_binI, binI_add, binI_sub, binI_mul, binI_fdiv, binI_mod, binI_shr, binI_band, binI_bxor, binI_pow, cmp_lt, cmp_le, cmp_gt, cmp_ge, cmp_eqI, cmp_neI, cmp_eqS, cmp_neS, opt_ite, ite_and, List.getElem?_cons_zero, List.getElem?_cons_succ, List.set_cons_zero, List.set_cons_succ, List.length_cons, List.length_nil, List.append_nil, List.map_cons, List.map_nil, assignT, setSlots, List.cons_append, List.nil_append, Nat.reduceSub, Nat.reduceAdd, decide_eq_true_eq, if_true, if_false, Bool.false_eq_true, Bool.not_true, Bool.not_false, beq_true, beq_false, decide_true, decide_false, List.replicate_zero, List.replicate_succ, true_and, and_true]
  have x0 := Ext.push h (.lst [])
  rw [srcOf_lst (x0.2 _ _ e)]
  simp only [wp_ok, wp_bad, wp_bind, wp_ite, wp_nx, wp_ret, wp_fbad, wp_st, retE_ret, retE_exc, opt_some, opt_none, tru_bl, slotQ_some, intV_int, blV_bl, refV_ref, tupV_tup, wp_loc, wp_cint, wp_cstr, wp_cbl, wp_cnon, wp_cval, wp_bin, wp_neg, wp_nt, wp_cmp, wp_chain, wp_is, wp_and, wp_or, wp_ife, wp_fld, wp_ix, wp_sl, wp_tup, wp_lst, wp_dnew, wp_call, wp_mk, wp_make, wp_meth, wp_methK, wp_blt, wp_bm, wp_comp, wp_comp2, wp_pno, wp_pyes, wp_ono, wp_oyes, wp_esnil, wp_escons, wp_over, wp_range1, wp_range2, wp_range3, wp_enum, wp_rev, wp_nil, wp_ex, wp_set, wp_setf, wp_seti, wp_setTF, wp_sret, wp_retn, wp_pass, wp_brk, wp_cnt, wp_if, wp_for, wp_while, wp_binI, binI_add, binI_sub, binI_mul, binI_fdiv, binI_mod, binI_shr, binI_band, binI_bxor, binI_pow, cmp_lt, cmp_le, cmp_gt, cmp_ge, cmp_eqI, cmp_neI, cmp_eqS, cmp_neS, opt_ite, ite_and, List.getElem?_cons_zero, List.getElem?_cons_succ, List.set_cons_zero, List.set_cons_succ, List.length_cons, List.length_nil, List.append_nil, List.map_cons, List.map_nil, assignT, setSlots, List.cons_append, List.nil_append, Nat.reduceSub, Nat.reduceAdd, decide_eq_true_eq, if_true, if_false, Bool.false_eq_true, Bool.not_true, Bool.not_false, beq_true, beq_false, decide_true, decide_false, List.replicate_zero, List.replicate_succ, true_and, and_true]
  refine for_inv (fun k σ h' => ∃ a, σ = [some (.ref ra), some (.ref h.size), some (.int (stN 0 (bs.take k) : Nat)), a] ∧ h'.get h.size = some (.lst ((conv 0 (bs.take k)).map bI)) ∧ Ext h h') ?_ ?_ ?_ ?_
  · rintro k σ h' hk ⟨a, rfl, hg, hx⟩
    exact stands_some (hx.2 _ _ e)
  · rintro k hk σ h' ⟨a, rfl, hg, hx⟩
    rw [List.length_map] at hk
    rw [List.getElem_map]
    refine ⟨_, rfl, ?_⟩
    rw [wp_cons]
    simp only [wp_ok, wp_bad, wp_bind, wp_ite, wp_nx, wp_ret, wp_fbad, wp_st, retE_ret, retE_exc, opt_some, opt_none, tru_bl, slotQ_some, intV_int, blV_bl, refV_ref, tupV_tup, wp_loc, wp_cint, wp_cstr, wp_cbl, wp_cnon, wp_cval, wp_bin, wp_neg, wp_nt, wp_cmp, wp_chain, wp_is, wp_and, wp_or, wp_ife, wp_fld, wp_ix, wp_sl, wp_tup, wp_lst, wp_dnew, wp_call, wp_mk, wp_make, wp_meth, wp_methK, wp_blt, wp_bm, wp_comp, wp_comp2, wp_pno, wp_pyes, wp_ono, wp_oyes, wp_esnil, wp_escons, wp_over, wp_range1, wp_range2, wp_range3, wp_enum, wp_rev, wp_nil, wp_ex, wp_set, wp_setf, wp_seti, wp_setTF, wp_sret, wp_retn, wp_pass, wp_brk, wp_cnt, wp_if, wp_for, wp_while, wp_binI, binI_add, binI_sub, binI_mul, binI_fdiv, binI_mod, binI_shr, binI_band, binI_bxor, binI_pow, cmp_lt, cmp_le, cmp_gt, cmp_ge, cmp_eqI, cmp_neI, cmp_eqS, cmp_neS, opt_ite, ite_and, List.getElem?_cons_zero, List.getElem?_cons_succ, List.set_cons_zero, List.set_cons_succ, List.length_cons, List.length_nil, List.append_nil, List.map_cons, List.map_nil, assignT, setSlots, List.cons_append, List.nil_append, Nat.reduceSub, Nat.reduceAdd, decide_eq_true_eq, if_true, if_false, Bool.false_eq_true, Bool.not_true, Bool.not_false, beq_true, beq_false, decide_true, decide_false, List.replicate_zero, List.replicate_succ, true_and, and_true]
    rw [recv_extend hg, pair_of_eq _ _ _ _ (stN_lt (by decide) _)]
    simp only [wp_ok, wp_bad, wp_bind, wp_ite, wp_nx, wp_ret, wp_fbad, wp_st, retE_ret, retE_exc, opt_some, opt_none, tru_bl, slotQ_some, intV_int, blV_bl, refV_ref, tupV_tup, wp_loc, wp_cint, wp_cstr, wp_cbl, wp_cnon, wp_cval, wp_bin, wp_neg, wp_nt, wp_cmp, wp_chain, wp_is, wp_and, wp_or, wp_ife, wp_fld, wp_ix, wp_sl, wp_tup, wp_lst, wp_dnew, wp_call, wp_mk, wp_make, wp_meth, wp_methK, wp_blt, wp_bm, wp_comp, wp_comp2, wp_pno, wp_pyes, wp_ono, wp_oyes, wp_esnil, wp_escons, wp_over, wp_range1, wp_range2, wp_range3, wp_enum, wp_rev, wp_nil, wp_ex, wp_set, wp_setf, wp_seti, wp_setTF, wp_sret, wp_retn, wp_pass, wp_brk, wp_cnt, wp_if, wp_for, wp_while, wp_binI, binI_add, binI_sub, binI_mul, binI_fdiv, binI_mod, binI_shr, binI_band, binI_bxor, binI_pow, cmp_lt, cmp_le, cmp_gt, cmp_ge, cmp_eqI, cmp_neI, cmp_eqS, cmp_neS, opt_ite, ite_and, List.getElem?_cons_zero, List.getElem?_cons_succ, List.set_cons_zero, List.set_cons_succ, List.length_cons, List.length_nil, List.append_nil, List.map_cons, List.map_nil, assignT, setSlots, List.cons_append, List.nil_append, Nat.reduceSub, Nat.reduceAdd, decide_eq_true_eq, if_true, if_false, Bool.false_eq_true, Bool.not_true, Bool.not_false, beq_true, beq_false, decide_true, decide_false, List.replicate_zero, List.replicate_succ, true_and, and_true]
    rw [extend_tup hg]
    refine ⟨size_ok ?_, ?_⟩
    · rw [List.length_map, conv_length, List.length_take]
      simp only [List.length_cons, List.length_nil]
      omega
    rw [wp_cons]
    simp only [bI, wp_ok, wp_bad, wp_bind, wp_ite, wp_nx, wp_ret, wp_fbad, wp_st, retE_ret, retE_exc, opt_some, opt_none, tru_bl, slotQ_some, intV_int, blV_bl, refV_ref, tupV_tup, wp_loc, wp_cint, wp_cstr, wp_cbl, wp_cnon, wp_cval, wp_bin, wp_neg, wp_nt, wp_cmp, wp_chain, wp_is, wp_and, wp_or, wp_ife, wp_fld, wp_ix, wp_sl, wp_tup, wp_lst, wp_dnew, wp_call, wp_mk, wp_make, wp_meth, wp_methK, wp_blt, wp_bm, wp_comp, wp_comp2, wp_pno, wp_pyes, wp_ono, wp_oyes, wp_esnil, wp_escons, wp_over, wp_range1, wp_range2, wp_range3, wp_enum, wp_rev, wp_nil, wp_ex, wp_set, wp_setf, wp_seti, wp_setTF, wp_sret, wp_retn, wp_pass, wp_brk, wp_cnt, wp_if, wp_for, wp_while, wp_binI, binI_add, binI_sub, binI_mul, binI_fdiv, binI_mod, binI_shr, binI_band, binI_bxor, binI_pow, cmp_lt, cmp_le, cmp_gt, cmp_ge, cmp_eqI, cmp_neI, cmp_eqS, cmp_neS, opt_ite, ite_and, List.getElem?_cons_zero, List.getElem?_cons_succ, List.set_cons_zero, List.set_cons_succ, List.length_cons, List.length_nil, List.append_nil, List.map_cons, List.map_nil, assignT, setSlots, List.cons_append, List.nil_append, Nat.reduceSub, Nat.reduceAdd, decide_eq_true_eq, if_true, if_false, Bool.false_eq_true, Bool.not_true, Bool.not_false, beq_true, beq_false, decide_true, decide_false, List.replicate_zero, List.replicate_succ, true_and, and_true]
    refine ⟨small_ok rfl, by decide, ?_⟩
    have hx2 := hx.set (o := .lst ((conv 0 (bs.take k)).map bI ++ [bI (pairB (stN 0 (bs.take k)) bs[k]).1, bI (pairB (stN 0 (bs.take k)) bs[k]).2])) (Heap.get_ge (Nat.le_refl _)) (Heap.get_lt hg)
    have hg2 := Heap.get_set_eq (.lst ((conv 0 (bs.take k)).map bI ++ [bI (pairB (stN 0 (bs.take k)) bs[k]).1, bI (pairB (stN 0 (bs.take k)) bs[k]).2])) hg
    have key : (8 * (if bs[k] = true then 1 else 0) : Int) + ((stN 0 (bs.take k) : Nat) : Int) / 2 = ((stN 0 (bs.take (k + 1)) : Nat) : Int) := by
      rw [List.take_succ_eq_append_getElem hk, stN_snoc]
      unfold nxS
      cases bs[k] <;> simp
    rw [key]
    refine ⟨_, rfl, ?_, hx2⟩
    refine hg2.trans ?_
    rw [List.take_succ_eq_append_getElem hk, conv_snoc, List.map_append]
    rfl
  · rintro σ h' ⟨a, rfl, hg, hx⟩
    rw [wp_cons]
    simp only [wp_ok, wp_bad, wp_bind, wp_ite, wp_nx, wp_ret, wp_fbad, wp_st, retE_ret, retE_exc, opt_some, opt_none, tru_bl, slotQ_some, intV_int, blV_bl, refV_ref, tupV_tup, wp_loc, wp_cint, wp_cstr, wp_cbl, wp_cnon, wp_cval, wp_bin, wp_neg, wp_nt, wp_cmp, wp_chain, wp_is, wp_and, wp_or, wp_ife, wp_fld, wp_ix, wp_sl, wp_tup, wp_lst, wp_dnew, wp_call, wp_mk, wp_make, wp_meth, wp_methK, wp_blt, wp_bm, wp_comp, wp_comp2, wp_pno, wp_pyes, wp_ono, wp_oyes, wp_esnil, wp_escons, wp_over, wp_range1, wp_range2, wp_range3, wp_enum, wp_rev, wp_nil, wp_ex, wp_set, wp_setf, wp_seti, wp_setTF, wp_sret, wp_retn, wp_pass, wp_brk, wp_cnt, wp_if, wp_for, wp_while, wp_binI, binI_add, binI_sub, binI_mul, binI_fdiv, binI_mod, binI_shr, binI_band, binI_bxor, binI_pow, cmp_lt, cmp_le, cmp_gt, cmp_ge, cmp_eqI, cmp_neI, cmp_eqS, cmp_neS, opt_ite, ite_and, List.getElem?_cons_zero, List.getElem?_cons_succ, List.set_cons_zero, List.set_cons_succ, List.length_cons, List.length_nil, List.append_nil, List.map_cons, List.map_nil, assignT, setSlots, List.cons_append, List.nil_append, Nat.reduceSub, Nat.reduceAdd, decide_eq_true_eq, if_true, if_false, Bool.false_eq_true, Bool.not_true, Bool.not_false, beq_true, beq_false, decide_true, decide_false, List.replicate_zero, List.replicate_succ, true_and, and_true]
    rw [List.length_map, List.take_length] at hg
    exact ⟨_, rfl, Heap.get_ge (Nat.le_refl _), hg, hx⟩
  · exact ⟨_, rfl, Heap.get_new _ _, x0⟩
def nI (n : Nat) : Val := .int (n : Nat)
def obits (os : List Nat) : List Bool := os.flatMap fun o => (List.range 8).map fun k => o.testBit k
theorem obits_length (os : List Nat) : (obits os).length = 8 * os.length := by
  induction os with
  | nil => rfl
  | cons o os ih =>
    have : obits (o :: os) = ((List.range 8).map fun k => o.testBit k) ++ obits os := by simp [obits]
    rw [this, List.length_append, ih, List.length_map, List.length_range, List.length_cons]
    omega
theorem obits_snoc (os : List Nat) (o : Nat) : obits (os ++ [o]) = obits os ++ (List.range 8).map fun k => o.testBit k := by
  simp [obits]
theorem fn_octet_bits : TT.fn 221 = some c_octet_bits := rfl
theorem octet_bits_wp (n : Nat) (h : Heap) {os : List Nat} (hl : os.length < 10000) {X : Nat → List Val → Heap → Prop} :
    (callAt TT (n + 1) 221 [.tup (os.map nI)] h).wp (fun v h' => ∃ r, v = .ref r ∧ h.get r = none ∧ h'.get r = some (.lst ((obits os).map bI)) ∧ Ext h h') X := by
  refine call_wp fn_octet_bits rfl ?_
  unfold c_octet_bits
  rw [wp_cons]
  simp only [srcOf, wipeT, wp_ok, wp_bad, wp_bind, wp_ite, wp_nx, wp_ret, wp_fbad, wp_st, retE_ret, retE_exc, opt_some, opt_none, tru_bl, slotQ_some, intV_int, blV_bl, refV_ref, tupV_tup, wp_loc, wp_cint, wp_cstr, wp_cbl, wp_cnon, wp_cval, wp_bin, wp_neg, wp_nt, wp_cmp, wp_chain, wp_is, wp_and, wp_or, wp_ife, wp_fld, wp_ix, wp_sl, wp_tup, wp_lst, wp_dnew, wp_call, wp_mk, wp_make, wp_meth, wp_methK, wp_blt, wp_bm, wp_comp, wp_comp2, wp_pno, wp_pyes, wp_ono, wp_oyes, wp_esnil, wp_escons, wp_over, wp_range1, wp_range2, wp_range3, wp_enum, wp_rev, wp_nil, wp_ex, wp_set, wp_setf, wp_seti, wp_setTF, wp_sret, wp_retn, wp_pass, wp_brk, wp_cnt, wp_if, wp_for, wp_while, wp_binI, binI_add, binI_sub, binI_mul, binI_fdiv, binI_mod, binI_shr, binI_band, binI_bxor, binI_pow, cmp_lt, cmp_le, cmp_gt, cmp_ge, cmp_eqI, cmp_neI, cmp_eqS, cmp_neS, opt_ite, ite_and, List.getElem?_cons_zero, List.getElem?_cons_succ, List.set_cons_zero, List.set_cons_succ, List.length_cons, List.length_nil, List.append_nil, List.map_cons, List.map_nil, assignT, setSlots, List.cons_append, List.nil_append, Nat.reduceSub, Nat.reduceAdd, decide_eq_true_eq, if_true, if_false, Bool.false_eq_true, Bool.not_true, Bool.not_false, beq_true, beq_false, decide_true, decide_false, List.replicate_zero, List.replicate_succ, true_and, and_true]
  refine comp2_inv (fun k acc h' => acc = (obits (os.take k)).map bI ∧ h' = h) (fun _ _ _ _ _ => rfl) ?_ ?_ ⟨rfl, rfl⟩
  · rintro k hk acc h' ⟨rfl, rfl⟩
    rw [List.length_map] at hk
    rw [List.getElem_map]
    refine ⟨_, rfl, ?_⟩
    simp only [wipeT, wp_ok, wp_bad, wp_bind, wp_ite, wp_nx, wp_ret, wp_fbad, wp_st, retE_ret, retE_exc, opt_some, opt_none, tru_bl, slotQ_some, intV_int, blV_bl, refV_ref, tupV_tup, wp_loc, wp_cint, wp_cstr, wp_cbl, wp_cnon, wp_cval, wp_bin, wp_neg, wp_nt, wp_cmp, wp_chain, wp_is, wp_and, wp_or, wp_ife, wp_fld, wp_ix, wp_sl, wp_tup, wp_lst, wp_dnew, wp_call, wp_mk, wp_make, wp_meth, wp_methK, wp_blt, wp_bm, wp_comp, wp_comp2, wp_pno, wp_pyes, wp_ono, wp_oyes, wp_esnil, wp_escons, wp_over, wp_range1, wp_range2, wp_range3, wp_enum, wp_rev, wp_nil, wp_ex, wp_set, wp_setf, wp_seti, wp_setTF, wp_sret, wp_retn, wp_pass, wp_brk, wp_cnt, wp_if, wp_for, wp_while, wp_binI, binI_add, binI_sub, binI_mul, binI_fdiv, binI_mod, binI_shr, binI_band, binI_bxor, binI_pow, cmp_lt, cmp_le, cmp_gt, cmp_ge, cmp_eqI, cmp_neI, cmp_eqS, cmp_neS, opt_ite, ite_and, List.getElem?_cons_zero, List.getElem?_cons_succ, List.set_cons_zero, List.set_cons_succ, List.length_cons, List.length_nil, List.append_nil, List.map_cons, List.map_nil, assignT, setSlots, List.cons_append, List.nil_append, Nat.reduceSub, Nat.reduceAdd, decide_eq_true_eq, if_true, if_false, Bool.false_eq_true, Bool.not_true, Bool.not_false, beq_true, beq_false, decide_true, decide_false, List.replicate_zero, List.replicate_succ, true_and, and_true]
    rw [show in62 8 = true from rfl, show (8 : Int).toNat = 8 from rfl]
    refine ⟨rfl, ?_⟩
    refine comp_inv (fun j acc h2 => acc = (List.range j).map (fun i => bI (os[k].testBit i)) ∧ h2 = h') (fun _ _ _ _ _ => rfl) ?_ ?_ ⟨rfl, rfl⟩
    · rintro j hj acc h2 ⟨rfl, rfl⟩
      rw [rangeL_length] at hj
      rw [rangeL_get]
      refine ⟨_, rfl, ?_⟩
      simp only [nI, wp_ok, wp_bad, wp_bind, wp_ite, wp_nx, wp_ret, wp_fbad, wp_st, retE_ret, retE_exc, opt_some, opt_none, tru_bl, slotQ_some, intV_int, blV_bl, refV_ref, tupV_tup, wp_loc, wp_cint, wp_cstr, wp_cbl, wp_cnon, wp_cval, wp_bin, wp_neg, wp_nt, wp_cmp, wp_chain, wp_is, wp_and, wp_or, wp_ife, wp_fld, wp_ix, wp_sl, wp_tup, wp_lst, wp_dnew, wp_call, wp_mk, wp_make, wp_meth, wp_methK, wp_blt, wp_bm, wp_comp, wp_comp2, wp_pno, wp_pyes, wp_ono, wp_oyes, wp_esnil, wp_escons, wp_over, wp_range1, wp_range2, wp_range3, wp_enum, wp_rev, wp_nil, wp_ex, wp_set, wp_setf, wp_seti, wp_setTF, wp_sret, wp_retn, wp_pass, wp_brk, wp_cnt, wp_if, wp_for, wp_while, wp_binI, binI_add, binI_sub, binI_mul, binI_fdiv, binI_mod, binI_shr, binI_band, binI_bxor, binI_pow, cmp_lt, cmp_le, cmp_gt, cmp_ge, cmp_eqI, cmp_neI, cmp_eqS, cmp_neS, opt_ite, ite_and, List.getElem?_cons_zero, List.getElem?_cons_succ, List.set_cons_zero, List.set_cons_succ, List.length_cons, List.length_nil, List.append_nil, List.map_cons, List.map_nil, assignT, setSlots, List.cons_append, List.nil_append, Nat.reduceSub, Nat.reduceAdd, decide_eq_true_eq, if_true, if_false, Bool.false_eq_true, Bool.not_true, Bool.not_false, beq_true, beq_false, decide_true, decide_false, List.replicate_zero, List.replicate_succ, true_and, and_true]
      rw [show (0 + (j : Int) * 1) = (j : Int) by omega, Int.toNat_natCast, bit_and]
      refine ⟨by omega, ⟨Int.ediv_nonneg (by omega) (Int.pow_nonneg (by decide)), by decide⟩, ?_⟩
      rw [List.range_succ, List.map_append]
      rfl
    · rintro acc h2 ⟨rfl, rfl⟩
      rw [rangeL_length, List.take_succ_eq_append_getElem hk, obits_snoc, List.map_append, List.map_map]
      exact ⟨rfl, rfl⟩
  · rintro acc h' ⟨rfl, rfl⟩
    rw [show os.take (os.map nI).length = os by rw [List.length_map, List.take_length]]
    refine ⟨size_ok ?_, _, rfl, Heap.get_ge (Nat.le_refl _), Heap.get_new _ _, Ext.push _ _⟩
    rw [List.length_map, obits_length]
    omega
def numB (bs : List Bool) : Nat := bs.foldl (fun n b => 2 * n + b.toNat) 0
theorem fn_bits_number : TT.fn 191 = some c_bits_number := rfl
theorem bits_number_wp (n : Nat) (h : Heap) {ra : Nat} {bs : List Bool} (e : h.get ra = some (.lst (bs.map bI))) {X : Nat → List Val → Heap → Prop} :
    (callAt TT (n + 1) 191 [.ref ra] h).wp (fun v h' => v = nI (numB bs) ∧ h' = h) X := by
  refine call_wp fn_bits_number rfl ?_
  unfold c_bits_number
  rw [wp_cons]
  simp only [wp_ok, wp_bad, wp_bind, wp_ite, wp_nx, wp_ret, wp_fbad, wp_st, retE_ret, retE_exc, opt_some, opt_none, tru_bl, slotQ_some, intV_int, blV_bl, refV_ref, tupV_tup, wp_loc, wp_cint, wp_cstr, wp_cbl, wp_cnon, wp_cval, wp_bin, wp_neg, wp_nt, wp_cmp, wp_chain, wp_is, wp_and, wp_or, wp_ife, wp_fld, wp_ix, wp_sl, wp_tup, wp_lst, wp_dnew, wp_call, wp_mk, wp_make, wp_meth, wp_methK, wp_blt, wp_bm, wp_comp, wp_comp2, wp_pno, wp_pyes, wp_ono, wp_oyes, wp_esnil, wp_escons, wp_over, wp_range1, wp_range2, wp_range3, wp_enum, wp_rev, wp_nil, wp_ex, wp_set, wp_setf, wp_seti, wp_setTF, wp_sret, wp_retn, wp_pass, wp_brk, wp_cnt, wp_if, wp_for, wp_while, wp_binI, binI_add, binI_sub, binI_mul, binI_fdiv, binI_mod, binI_shr, binI_band, binI_bxor, binI_pow, cmp_lt, cmp_le, cmp_gt, cmp_ge, cmp_eqI, cmp_neI, cmp_eqS, cmp_neS, opt_ite, ite_and, List.getElem?_cons_zero, List.getElem?_cons_succ, List.set_cons_zero, List.set_cons_succ, List.length_cons, List.length_nil, List.append_nil, List.map_cons, List.map_nil, assignT, setSlots, List.cons_append, List.nil_append, Nat.reduceSub, Nat.reduceAdd, decide_eq_true_eq, if_true, if_false, Bool.false_eq_true, Bool.not_true, Bool.not_false, beq_true, beq_false, decide_true, decide_false, List.replicate_zero, List.replicate_succ, true_and, and_true]
  rw [wp_cons]
  simp only [wp_ok, wp_bad, wp_bind, wp_ite, wp_nx, wp_ret, wp_fbad, wp_st, retE_ret, retE_exc, opt_some, opt_none, tru_bl, slotQ_some, intV_int, blV_bl, refV_ref, tupV_tup, wp_loc, wp_cint, wp_cstr, wp_cbl, wp_cnon, wp_cval, wp_bin, wp_neg, wp_nt, wp_cmp, wp_chain, wp_is, wp_and, wp_or, wp_ife, wp_fld, wp_ix, wp_sl, wp_tup, wp_lst, wp_dnew, wp_call, wp_mk, wp_make, wp_meth, wp_methK, wp_blt, wp_bm, wp_comp, wp_comp2, wp_pno, wp_pyes, wp_ono, wp_oyes, wp_esnil, wp_escons, wp_over, wp_range1, wp_range2, wp_range3, wp_enum, wp_rev, wp_nil, wp_ex, wp_set, wp_setf, wp_seti, wp_setTF, wp_sret, wp_retn, wp_pass, wp_brk, wp_cnt, wp_if, wp_for, wp_while, wp_binI, binI_add, binI_sub, binI_mul, binI_fdiv, binI_mod, binI_shr, binI_band, binI_bxor, binI_pow, cmp_lt, cmp_le, cmp_gt, cmp_ge, cmp_eqI, cmp_neI, cmp_eqS, cmp_neS, opt_ite, ite_and, List.getElem?_cons_zero, List.getElem?_cons_succ, List.set_cons_zero, List.set_cons_succ, List.length_cons, List.length_nil, List.append_nil, List.map_cons, List.map_nil, assignT, setSlots, List.cons_append, List.nil_append, Nat.reduceSub, Nat.reduceAdd, decide_eq_true_eq, if_true, if_false, Bool.false_eq_true, Bool.not_true, Bool.not_false, beq_true, beq_false, decide_true, decide_false, List.replicate_zero, List.replicate_succ, true_and, and_true]
  rw [srcOf_lst e]
  simp only [wp_ok, wp_bad, wp_bind, wp_ite, wp_nx, wp_ret, wp_fbad, wp_st, retE_ret, retE_exc, opt_some, opt_none, tru_bl, slotQ_some, intV_int, blV_bl, refV_ref, tupV_tup, wp_loc, wp_cint, wp_cstr, wp_cbl, wp_cnon, wp_cval, wp_bin, wp_neg, wp_nt, wp_cmp, wp_chain, wp_is, wp_and, wp_or, wp_ife, wp_fld, wp_ix, wp_sl, wp_tup, wp_lst, wp_dnew, wp_call, wp_mk, wp_make, wp_meth, wp_methK, wp_blt, wp_bm, wp_comp, wp_comp2, wp_pno, wp_pyes, wp_ono, wp_oyes, wp_esnil, wp_escons, wp_over, wp_range1, wp_range2, wp_range3, wp_enum, wp_rev, wp_nil, wp_ex, wp_set, wp_setf, wp_seti, wp_setTF, wp_sret, wp_retn, wp_pass, wp_brk, wp_cnt, wp_if, wp_for, wp_while, wp_binI, binI_add, binI_sub, binI_mul, binI_fdiv, binI_mod, binI_shr, binI_band, binI_bxor, binI_pow, cmp_lt, cmp_le, cmp_gt, cmp_ge, cmp_eqI, cmp_neI, cmp_eqS, cmp_neS, opt_ite, ite_and, List.getElem?_cons_zero, List.getElem?_cons_succ, List.set_cons_zero, List.set_cons_succ, List.length_cons, List.length_nil, List.append_nil, List.map_cons, List.map_nil, assignT, setSlots, List.cons_append, List.nil_append, Nat.reduceSub, Nat.reduceAdd, decide_eq_true_eq, if_true, if_false, Bool.false_eq_true, Bool.not_true, Bool.not_false, beq_true, beq_false, decide_true, decide_false, List.replicate_zero, List.replicate_succ, true_and, and_true]
  refine for_inv (fun k σ h' => ∃ a, σ = [some (.ref ra), some (nI (numB (bs.take k))), a] ∧ h' = h) ?_ ?_ ?_ ?_
  · rintro k σ h' hk ⟨a, rfl, rfl⟩
    exact stands_some e
  · rintro k hk σ h' ⟨a, rfl, rfl⟩
    rw [List.length_map] at hk
    rw [List.getElem_map]
    refine ⟨_, rfl, ?_⟩
    rw [wp_cons]
    simp only [nI, bI, wp_ok, wp_bad, wp_bind, wp_ite, wp_nx, wp_ret, wp_fbad, wp_st, retE_ret, retE_exc, opt_some, opt_none, tru_bl, slotQ_some, intV_int, blV_bl, refV_ref, tupV_tup, wp_loc, wp_cint, wp_cstr, wp_cbl, wp_cnon, wp_cval, wp_bin, wp_neg, wp_nt, wp_cmp, wp_chain, wp_is, wp_and, wp_or, wp_ife, wp_fld, wp_ix, wp_sl, wp_tup, wp_lst, wp_dnew, wp_call, wp_mk, wp_make, wp_meth, wp_methK, wp_blt, wp_bm, wp_comp, wp_comp2, wp_pno, wp_pyes, wp_ono, wp_oyes, wp_esnil, wp_escons, wp_over, wp_range1, wp_range2, wp_range3, wp_enum, wp_rev, wp_nil, wp_ex, wp_set, wp_setf, wp_seti, wp_setTF, wp_sret, wp_retn, wp_pass, wp_brk, wp_cnt, wp_if, wp_for, wp_while, wp_binI, binI_add, binI_sub, binI_mul, binI_fdiv, binI_mod, binI_shr, binI_band, binI_bxor, binI_pow, cmp_lt, cmp_le, cmp_gt, cmp_ge, cmp_eqI, cmp_neI, cmp_eqS, cmp_neS, opt_ite, ite_and, List.getElem?_cons_zero, List.getElem?_cons_succ, List.set_cons_zero, List.set_cons_succ, List.length_cons, List.length_nil, List.append_nil, List.map_cons, List.map_nil, assignT, setSlots, List.cons_append, List.nil_append, Nat.reduceSub, Nat.reduceAdd, decide_eq_true_eq, if_true, if_false, Bool.false_eq_true, Bool.not_true, Bool.not_false, beq_true, beq_false, decide_true, decide_false, List.replicate_zero, List.replicate_succ, true_and, and_true]
    have key : 2 * ((numB (bs.take k) : Nat) : Int) + (if bs[k] = true then 1 else 0) = ((numB (bs.take (k + 1)) : Nat) : Int) := by
      unfold numB
      rw [foldl_take _ _ _ hk]
      cases bs[k] <;> simp
    refine ⟨small_ok rfl, ?_⟩
    rw [key]
    exact ⟨_, rfl⟩
  · rintro σ h' ⟨a, rfl, rfl⟩
    rw [wp_cons]
    simp only [wp_ok, wp_bad, wp_bind, wp_ite, wp_nx, wp_ret, wp_fbad, wp_st, retE_ret, retE_exc, opt_some, opt_none, tru_bl, slotQ_some, intV_int, blV_bl, refV_ref, tupV_tup, wp_loc, wp_cint, wp_cstr, wp_cbl, wp_cnon, wp_cval, wp_bin, wp_neg, wp_nt, wp_cmp, wp_chain, wp_is, wp_and, wp_or, wp_ife, wp_fld, wp_ix, wp_sl, wp_tup, wp_lst, wp_dnew, wp_call, wp_mk, wp_make, wp_meth, wp_methK, wp_blt, wp_bm, wp_comp, wp_comp2, wp_pno, wp_pyes, wp_ono, wp_oyes, wp_esnil, wp_escons, wp_over, wp_range1, wp_range2, wp_range3, wp_enum, wp_rev, wp_nil, wp_ex, wp_set, wp_setf, wp_seti, wp_setTF, wp_sret, wp_retn, wp_pass, wp_brk, wp_cnt, wp_if, wp_for, wp_while, wp_binI, binI_add, binI_sub, binI_mul, binI_fdiv, binI_mod, binI_shr, binI_band, binI_bxor, binI_pow, cmp_lt, cmp_le, cmp_gt, cmp_ge, cmp_eqI, cmp_neI, cmp_eqS, cmp_neS, opt_ite, ite_and, List.getElem?_cons_zero, List.getElem?_cons_succ, List.set_cons_zero, List.set_cons_succ, List.length_cons, List.length_nil, List.append_nil, List.map_cons, List.map_nil, assignT, setSlots, List.cons_append, List.nil_append, Nat.reduceSub, Nat.reduceAdd, decide_eq_true_eq, if_true, if_false, Bool.false_eq_true, Bool.not_true, Bool.not_false, beq_true, beq_false, decide_true, decide_false, List.replicate_zero, List.replicate_succ, true_and, and_true]
    rw [List.length_map, List.take_length]
  · exact ⟨_, rfl, rfl⟩
end M
end

section
set_option linter.all false
set_option Elab.async false
set_option maxRecDepth 4000
set_option pp.maxSteps 700
/-! P5: octets, parity. -/
namespace M
/-- the octets that bits write -/
def octs (bs : List Bool) (m : Nat) : List Nat := (List.range m).map fun j => numB ((bs.drop (8 * j)).take 8).reverse
theorem cut_nat {α : Type} (xs : List α) {a b : Nat} (ha : a ≤ xs.length) (hb : b ≤ xs.length) : cutL xs (some (a : Int)) (some (b : Int)) = (xs.drop a).take (b - a) := by
  unfold cutL clip
  simp only
  rw [if_neg (by omega), if_neg (by omega)]
  simp only [Int.toNat_natCast, Nat.min_eq_left ha, Nat.min_eq_left hb]
theorem cut_to {α : Type} (xs : List α) {b : Nat} (hb : b ≤ xs.length) : cutL xs none (some (b : Int)) = xs.take b := by
  unfold cutL clip
  simp only
  rw [if_neg (by omega)]
  simp only [Int.toNat_natCast, Nat.min_eq_left hb, List.drop_zero, Nat.sub_zero]
theorem cut_from {α : Type} (xs : List α) {a : Nat} (ha : a ≤ xs.length) : cutL xs (some (a : Int)) none = xs.drop a := by
  unfold cutL clip
  simp only
  rw [if_neg (by omega)]
  simp only [Int.toNat_natCast, Nat.min_eq_left ha]
  rw [List.take_of_length_le]
  rw [List.length_drop]
  omega
theorem rangeN_8 {m : Nat} : rangeN 0 ((8 * m : Nat) : Int) 8 = m := by
  unfold rangeN
  rw [if_pos (by decide)]
  split
  · omega
  · omega
theorem fn_bits_octets : TT.fn 192 = some c_bits_octets := rfl
theorem bits_octets_wp (n : Nat) (h : Heap) {ra m : Nat} {bs : List Bool} (e : h.get ra = some (.lst (bs.map bI))) (hl : bs.length = 8 * m) (hm : m < 1000) {X : Nat → List Val → Heap → Prop} :
    (callAt TT (n + 2) 192 [.ref ra] h).wp (fun v h' => v = .tup ((octs bs m).map nI) ∧ Ext h h') X := by
  refine call_wp fn_bits_octets rfl ?_
  unfold c_bits_octets
  have hlen : ((bs.map bI).length : Int) = (8 * m : Nat) := by rw [List.length_map, hl]
  rw [wp_cons]
  simp only [wp_ok, wp_bad, wp_bind, wp_ite, wp_nx, wp_ret, wp_fbad, wp_st, retE_ret, retE_exc, opt_some, opt_none, tru_bl, slotQ_some, intV_int, blV_bl, refV_ref, tupV_tup, wp_loc, wp_cint, wp_cstr, wp_cbl, wp_cnon, wp_cval, wp_bin, wp_neg, wp_nt, wp_cmp, wp_chain, wp_is, wp_and, wp_or, wp_ife, wp_fld, wp_ix, wp_sl, wp_tup, wp_lst, wp_dnew, wp_call, wp_mk, wp_make, wp_meth, wp_methK, wp_blt, wp_bm, wp_comp, wp_comp2, wp_pno, wp_pyes, wp_ono, wp_oyes, wp_esnil, wp_escons, wp_over, wp_range1, wp_range2, wp_range3, wp_enum, wp_rev, wp_nil, wp_ex, wp_set, wp_setf, wp_seti, wp_setTF, wp_sret, wp_retn, wp_pass, wp_brk, wp_cnt, wp_if, wp_for, wp_while, wp_binI, binI_add, binI_sub, binI_mul, binI_fdiv, binI_mod, binI_shr, binI_band, binI_bxor, binI_pow, cmp_lt, cmp_le, cmp_gt, cmp_ge, cmp_eqI, cmp_neI, cmp_eqS, cmp_neS, opt_ite, ite_and, List.getElem?_cons_zero, List.getElem?_cons_succ, List.set_cons_zero, List.set_cons_succ, List.length_cons, List.length_nil, List.append_nil, List.map_cons, List.map_nil, assignT, setSlots, List.cons_append, List.nil_append, Nat.reduceSub, Nat.reduceAdd, decide_eq_true_eq, if_true, if_false, Bool.false_eq_true, Bool.not_true, Bool.not_false, beq_true, beq_false, decide_true, decide_false, List.replicate_zero, List.replicate_succ, true_and, and_true]
  rw [len_lst e, hlen]
  simp only [wp_ok, wp_bad, wp_bind, wp_ite, wp_nx, wp_ret, wp_fbad, wp_st, retE_ret, retE_exc, opt_some, opt_none, tru_bl, slotQ_some, intV_int, blV_bl, refV_ref, tupV_tup, wp_loc, wp_cint, wp_cstr, wp_cbl, wp_cnon, wp_cval, wp_bin, wp_neg, wp_nt, wp_cmp, wp_chain, wp_is, wp_and, wp_or, wp_ife, wp_fld, wp_ix, wp_sl, wp_tup, wp_lst, wp_dnew, wp_call, wp_mk, wp_make, wp_meth, wp_methK, wp_blt, wp_bm, wp_comp, wp_comp2, wp_pno, wp_pyes, wp_ono, wp_oyes, wp_esnil, wp_escons, wp_over, wp_range1, wp_range2, wp_range3, wp_enum, wp_rev, wp_nil, wp_ex, wp_set, wp_setf, wp_seti, wp_setTF, wp_sret, wp_retn, wp_pass, wp_brk, wp_cnt, wp_if, wp_for, wp_while, wp_binI, binI_add, binI_sub, binI_mul, binI_fdiv, binI_mod, binI_shr, binI_band, binI_bxor, binI_pow, cmp_lt, cmp_le, cmp_gt, cmp_ge, cmp_eqI, cmp_neI, cmp_eqS, cmp_neS, opt_ite, ite_and, List.getElem?_cons_zero, List.getElem?_cons_succ, List.set_cons_zero, List.set_cons_succ, List.length_cons, List.length_nil, List.append_nil, List.map_cons, List.map_nil, assignT, setSlots, List.cons_append, List.nil_append, Nat.reduceSub, Nat.reduceAdd, decide_eq_true_eq, if_true, if_false, Bool.false_eq_true, Bool.not_true, Bool.not_false, beq_true, beq_false, decide_true, decide_false, List.replicate_zero, List.replicate_succ, true_and, and_true]
  refine ⟨by decide, ?_⟩
  rw [show decide (((8 * m : Nat) : Int) % 8 = 0) = true by rw [decide_eq_true_eq]; omega]
  simp only [wp_ok, wp_bad, wp_bind, wp_ite, wp_nx, wp_ret, wp_fbad, wp_st, retE_ret, retE_exc, opt_some, opt_none, tru_bl, slotQ_some, intV_int, blV_bl, refV_ref, tupV_tup, wp_loc, wp_cint, wp_cstr, wp_cbl, wp_cnon, wp_cval, wp_bin, wp_neg, wp_nt, wp_cmp, wp_chain, wp_is, wp_and, wp_or, wp_ife, wp_fld, wp_ix, wp_sl, wp_tup, wp_lst, wp_dnew, wp_call, wp_mk, wp_make, wp_meth, wp_methK, wp_blt, wp_bm, wp_comp, wp_comp2, wp_pno, wp_pyes, wp_ono, wp_oyes, wp_esnil, wp_escons, wp_over, wp_range1, wp_range2, wp_range3, wp_enum, wp_rev, wp_nil, wp_ex, wp_set, wp_setf, wp_seti, wp_setTF, wp_sret, wp_retn, wp_pass, wp_brk, wp_cnt, wp_if, wp_for, wp_while, wp_binI, binI_add, binI_sub, binI_mul, binI_fdiv, binI_mod, binI_shr, binI_band, binI_bxor, binI_pow, cmp_lt, cmp_le, cmp_gt, cmp_ge, cmp_eqI, cmp_neI, cmp_eqS, cmp_neS, opt_ite, ite_and, List.getElem?_cons_zero, List.getElem?_cons_succ, List.set_cons_zero, List.set_cons_succ, List.length_cons, List.length_nil, List.append_nil, List.map_cons, List.map_nil, assignT, setSlots, List.cons_append, List.nil_append, Nat.reduceSub, Nat.reduceAdd, decide_eq_true_eq, if_true, if_false, Bool.false_eq_true, Bool.not_true, Bool.not_false, beq_true, beq_false, decide_true, decide_false, List.replicate_zero, List.replicate_succ, true_and, and_true]
  rw [wp_cons]
  simp only [wp_ok, wp_bad, wp_bind, wp_ite, wp_nx, wp_ret, wp_fbad, wp_st, retE_ret, retE_exc, opt_some, opt_none, tru_bl, slotQ_some, intV_int, blV_bl, refV_ref, tupV_tup, wp_loc, wp_cint, wp_cstr, wp_cbl, wp_cnon, wp_cval, wp_bin, wp_neg, wp_nt, wp_cmp, wp_chain, wp_is, wp_and, wp_or, wp_ife, wp_fld, wp_ix, wp_sl, wp_tup, wp_lst, wp_dnew, wp_call, wp_mk, wp_make, wp_meth, wp_methK, wp_blt, wp_bm, wp_comp, wp_comp2, wp_pno, wp_pyes, wp_ono, wp_oyes, wp_esnil, wp_escons, wp_over, wp_range1, wp_range2, wp_range3, wp_enum, wp_rev, wp_nil, wp_ex, wp_set, wp_setf, wp_seti, wp_setTF, wp_sret, wp_retn, wp_pass, wp_brk, wp_cnt, wp_if, wp_for, wp_while, wp_binI, binI_add, binI_sub, binI_mul, binI_fdiv, binI_mod, binI_shr, binI_band, binI_bxor, binI_pow, cmp_lt, cmp_le, cmp_gt, cmp_ge, cmp_eqI, cmp_neI, cmp_eqS, cmp_neS, opt_ite, ite_and, List.getElem?_cons_zero, List.getElem?_cons_succ, List.set_cons_zero, List.set_cons_succ, List.length_cons, List.length_nil, List.append_nil, List.map_cons, List.map_nil, assignT, setSlots, List.cons_append, List.nil_append, Nat.reduceSub, Nat.reduceAdd, decide_eq_true_eq, if_true, if_false, Bool.false_eq_true, Bool.not_true, Bool.not_false, beq_true, beq_false, decide_true, decide_false, List.replicate_zero, List.replicate_succ, true_and, and_true]
  rw [len_lst e, hlen]
  simp only [wp_ok, wp_bad, wp_bind, wp_ite, wp_nx, wp_ret, wp_fbad, wp_st, retE_ret, retE_exc, opt_some, opt_none, tru_bl, slotQ_some, intV_int, blV_bl, refV_ref, tupV_tup, wp_loc, wp_cint, wp_cstr, wp_cbl, wp_cnon, wp_cval, wp_bin, wp_neg, wp_nt, wp_cmp, wp_chain, wp_is, wp_and, wp_or, wp_ife, wp_fld, wp_ix, wp_sl, wp_tup, wp_lst, wp_dnew, wp_call, wp_mk, wp_make, wp_meth, wp_methK, wp_blt, wp_bm, wp_comp, wp_comp2, wp_pno, wp_pyes, wp_ono, wp_oyes, wp_esnil, wp_escons, wp_over, wp_range1, wp_range2, wp_range3, wp_enum, wp_rev, wp_nil, wp_ex, wp_set, wp_setf, wp_seti, wp_setTF, wp_sret, wp_retn, wp_pass, wp_brk, wp_cnt, wp_if, wp_for, wp_while, wp_binI, binI_add, binI_sub, binI_mul, binI_fdiv, binI_mod, binI_shr, binI_band, binI_bxor, binI_pow, cmp_lt, cmp_le, cmp_gt, cmp_ge, cmp_eqI, cmp_neI, cmp_eqS, cmp_neS, opt_ite, ite_and, List.getElem?_cons_zero, List.getElem?_cons_succ, List.set_cons_zero, List.set_cons_succ, List.length_cons, List.length_nil, List.append_nil, List.map_cons, List.map_nil, assignT, setSlots, List.cons_append, List.nil_append, Nat.reduceSub, Nat.reduceAdd, decide_eq_true_eq, if_true, if_false, Bool.false_eq_true, Bool.not_true, Bool.not_false, beq_true, beq_false, decide_true, decide_false, List.replicate_zero, List.replicate_succ, true_and, and_true]
  rw [show in62 0 = true from rfl, in62_nat (by omega : 8 * m < 2 ^ 61)]
  refine ⟨by decide, ?_⟩
  rw [rangeN_8]
  refine comp_inv (fun k acc h' => ∃ rs : Nat → Nat, acc = (List.range k).map (fun i => .ref (rs i)) ∧ (∀ i < k, h'.get (rs i) = some (.lst (((bs.drop (8 * i)).take 8).reverse.map bI))) ∧ Ext h h') (fun _ _ _ _ _ => rfl) ?_ ?_ ⟨fun _ => 0, rfl, fun i hi => absurd hi (by omega), Ext.refl h⟩
  · rintro k hk acc h' ⟨rs, ha, hr, hx⟩
    rw [rangeL_length] at hk
    rw [rangeL_get]
    refine ⟨_, rfl, ?_⟩
    simp only [wipeT, wp_ok, wp_bad, wp_bind, wp_ite, wp_nx, wp_ret, wp_fbad, wp_st, retE_ret, retE_exc, opt_some, opt_none, tru_bl, slotQ_some, intV_int, blV_bl, refV_ref, tupV_tup, wp_loc, wp_cint, wp_cstr, wp_cbl, wp_cnon, wp_cval, wp_bin, wp_neg, wp_nt, wp_cmp, wp_chain, wp_is, wp_and, wp_or, wp_ife, wp_fld, wp_ix, wp_sl, wp_tup, wp_lst, wp_dnew, wp_call, wp_mk, wp_make, wp_meth, wp_methK, wp_blt, wp_bm, wp_comp, wp_comp2, wp_pno, wp_pyes, wp_ono, wp_oyes, wp_esnil, wp_escons, wp_over, wp_range1, wp_range2, wp_range3, wp_enum, wp_rev, wp_nil, wp_ex, wp_set, wp_setf, wp_seti, wp_setTF, wp_sret, wp_retn, wp_pass, wp_brk, wp_cnt, wp_if, wp_for, wp_while, wp_binI, binI_add, binI_sub, binI_mul, binI_fdiv, binI_mod, binI_shr, binI_band, binI_bxor, binI_pow, cmp_lt, cmp_le, cmp_gt, cmp_ge, cmp_eqI, cmp_neI, cmp_eqS, cmp_neS, opt_ite, ite_and, List.getElem?_cons_zero, List.getElem?_cons_succ, List.set_cons_zero, List.set_cons_succ, List.length_cons, List.length_nil, List.append_nil, List.map_cons, List.map_nil, assignT, setSlots, List.cons_append, List.nil_append, Nat.reduceSub, Nat.reduceAdd, decide_eq_true_eq, if_true, if_false, Bool.false_eq_true, Bool.not_true, Bool.not_false, beq_true, beq_false, decide_true, decide_false, List.replicate_zero, List.replicate_succ, true_and, and_true]
    rw [show (0 + (k : Int) * 8) = ((8 * k : Nat) : Int) by omega, show ((8 * k : Nat) : Int) + 8 = ((8 * k + 8 : Nat) : Int) by omega]
    rw [slV_lst (hx.2 _ _ e), revList_ref (Heap.get_new _ _)]
    rw [cut_nat _ (by rw [List.length_map]; omega) (by rw [List.length_map]; omega)]
    refine ⟨fun i => if i = k then (h'.push (Obj.lst (List.take (8 * k + 8 - 8 * k) (List.drop (8 * k) (List.map bI bs))))).size else rs i, ?_, ?_, (hx.tpush _).tpush _⟩
    · rw [List.range_succ, List.map_append, ha]
      congr 1
      · apply List.map_congr_left
        intro i hi
        have : i < k := by simpa using hi
        simp only [show ¬ i = k by omega, if_false]
      · simp
    · intro i hi
      by_cases q : i = k
      · subst q
        simp only [if_true]
        rw [Heap.get_new, show 8 * i + 8 - 8 * i = 8 by omega, ← List.map_drop, ← List.map_take, List.map_reverse]
      · simp only [q, if_false]
        exact ((Ext.push h' _).tpush _).2 _ _ (hr i (by omega))
  rintro acc h1 ⟨rs, ha, hr, hx⟩
  rw [rangeL_length] at ha hr
  refine ⟨size_ok (by rw [ha, List.length_map, List.length_range]; omega), ?_⟩
  rw [wp_cons]
  simp only [wp_ok, wp_bad, wp_bind, wp_ite, wp_nx, wp_ret, wp_fbad, wp_st, retE_ret, retE_exc, opt_some, opt_none, tru_bl, slotQ_some, intV_int, blV_bl, refV_ref, tupV_tup, wp_loc, wp_cint, wp_cstr, wp_cbl, wp_cnon, wp_cval, wp_bin, wp_neg, wp_nt, wp_cmp, wp_chain, wp_is, wp_and, wp_or, wp_ife, wp_fld, wp_ix, wp_sl, wp_tup, wp_lst, wp_dnew, wp_call, wp_mk, wp_make, wp_meth, wp_methK, wp_blt, wp_bm, wp_comp, wp_comp2, wp_pno, wp_pyes, wp_ono, wp_oyes, wp_esnil, wp_escons, wp_over, wp_range1, wp_range2, wp_range3, wp_enum, wp_rev, wp_nil, wp_ex, wp_set, wp_setf, wp_seti, wp_setTF, wp_sret, wp_retn, wp_pass, wp_brk, wp_cnt, wp_if, wp_for, wp_while, wp_binI, binI_add, binI_sub, binI_mul, binI_fdiv, binI_mod, binI_shr, binI_band, binI_bxor, binI_pow, cmp_lt, cmp_le, cmp_gt, cmp_ge, cmp_eqI, cmp_neI, cmp_eqS, cmp_neS, opt_ite, ite_and, List.getElem?_cons_zero, List.getElem?_cons_succ, List.set_cons_zero, List.set_cons_succ, List.length_cons, List.length_nil, List.append_nil, List.map_cons, List.map_nil, assignT, setSlots, List.cons_append, List.nil_append, Nat.reduceSub, Nat.reduceAdd, decide_eq_true_eq, if_true, if_false, Bool.false_eq_true, Bool.not_true, Bool.not_false, beq_true, beq_false, decide_true, decide_false, List.replicate_zero, List.replicate_succ, true_and, and_true]
  rw [srcOf_lst (Heap.get_new _ _)]
  simp only [wipeT, wp_ok, wp_bad, wp_bind, wp_ite, wp_nx, wp_ret, wp_fbad, wp_st, retE_ret, retE_exc, opt_some, opt_none, tru_bl, slotQ_some, intV_int, blV_bl, refV_ref, tupV_tup, wp_loc, wp_cint, wp_cstr, wp_cbl, wp_cnon, wp_cval, wp_bin, wp_neg, wp_nt, wp_cmp, wp_chain, wp_is, wp_and, wp_or, wp_ife, wp_fld, wp_ix, wp_sl, wp_tup, wp_lst, wp_dnew, wp_call, wp_mk, wp_make, wp_meth, wp_methK, wp_blt, wp_bm, wp_comp, wp_comp2, wp_pno, wp_pyes, wp_ono, wp_oyes, wp_esnil, wp_escons, wp_over, wp_range1, wp_range2, wp_range3, wp_enum, wp_rev, wp_nil, wp_ex, wp_set, wp_setf, wp_seti, wp_setTF, wp_sret, wp_retn, wp_pass, wp_brk, wp_cnt, wp_if, wp_for, wp_while, wp_binI, binI_add, binI_sub, binI_mul, binI_fdiv, binI_mod, binI_shr, binI_band, binI_bxor, binI_pow, cmp_lt, cmp_le, cmp_gt, cmp_ge, cmp_eqI, cmp_neI, cmp_eqS, cmp_neS, opt_ite, ite_and, List.getElem?_cons_zero, List.getElem?_cons_succ, List.set_cons_zero, List.set_cons_succ, List.length_cons, List.length_nil, List.append_nil, List.map_cons, List.map_nil, assignT, setSlots, List.cons_append, List.nil_append, Nat.reduceSub, Nat.reduceAdd, decide_eq_true_eq, if_true, if_false, Bool.false_eq_true, Bool.not_true, Bool.not_false, beq_true, beq_false, decide_true, decide_false, List.replicate_zero, List.replicate_succ, true_and, and_true]
  have x1 := Ext.push h1 (.lst acc)
  refine comp_inv (fun k acc' h' => acc' = ((octs bs m).take k).map nI ∧ h' = h1.push (.lst acc)) (fun k acc' h' _ q => ?_) ?_ ?_ ⟨rfl, rfl⟩
  · rw [q.2]
    exact stands_some (Heap.get_new _ _)
  · rintro k hk acc' h' ⟨rfl, rfl⟩
    have hk2 : k < m := by
      rw [ha, List.length_map, List.length_range] at hk
      exact hk
    have hv : acc[k] = .ref (rs k) := by simp [ha]
    rw [hv]
    refine ⟨_, rfl, ?_⟩
    simp only [wp_ok, wp_bad, wp_bind, wp_ite, wp_nx, wp_ret, wp_fbad, wp_st, retE_ret, retE_exc, opt_some, opt_none, tru_bl, slotQ_some, intV_int, blV_bl, refV_ref, tupV_tup, wp_loc, wp_cint, wp_cstr, wp_cbl, wp_cnon, wp_cval, wp_bin, wp_neg, wp_nt, wp_cmp, wp_chain, wp_is, wp_and, wp_or, wp_ife, wp_fld, wp_ix, wp_sl, wp_tup, wp_lst, wp_dnew, wp_call, wp_mk, wp_make, wp_meth, wp_methK, wp_blt, wp_bm, wp_comp, wp_comp2, wp_pno, wp_pyes, wp_ono, wp_oyes, wp_esnil, wp_escons, wp_over, wp_range1, wp_range2, wp_range3, wp_enum, wp_rev, wp_nil, wp_ex, wp_set, wp_setf, wp_seti, wp_setTF, wp_sret, wp_retn, wp_pass, wp_brk, wp_cnt, wp_if, wp_for, wp_while, wp_binI, binI_add, binI_sub, binI_mul, binI_fdiv, binI_mod, binI_shr, binI_band, binI_bxor, binI_pow, cmp_lt, cmp_le, cmp_gt, cmp_ge, cmp_eqI, cmp_neI, cmp_eqS, cmp_neS, opt_ite, ite_and, List.getElem?_cons_zero, List.getElem?_cons_succ, List.set_cons_zero, List.set_cons_succ, List.length_cons, List.length_nil, List.append_nil, List.map_cons, List.map_nil, assignT, setSlots, List.cons_append, List.nil_append, Nat.reduceSub, Nat.reduceAdd, decide_eq_true_eq, if_true, if_false, Bool.false_eq_true, Bool.not_true, Bool.not_false, beq_true, beq_false, decide_true, decide_false, List.replicate_zero, List.replicate_succ, true_and, and_true]
    refine (bits_number_wp n _ (x1.2 _ _ (hr k hk2)) (X := nox)).mono ?_ (fun _ _ _ q => q)
    rintro v h' ⟨rfl, rfl⟩
    refine ⟨?_, rfl⟩
    have hk3 : k < (octs bs m).length := by unfold octs; rw [List.length_map, List.length_range]; exact hk2
    have hv2 : (octs bs m)[k] = numB ((bs.drop (8 * k)).take 8).reverse := by simp [octs]
    rw [List.take_succ_eq_append_getElem hk3, List.map_append, hv2]
    rfl
  · rintro acc' h' ⟨rfl, rfl⟩
    have hk3 : acc.length = (octs bs m).length := by rw [ha]; unfold octs; rw [List.length_map, List.length_range, List.length_map, List.length_range]
    rw [hk3, List.take_length]
    refine ⟨size_ok (by rw [List.length_map, ← hk3, ha, List.length_map, List.length_range]; omega), ?_⟩
    rw [tuple_ref (Heap.get_new _ _)]
    exact ⟨rfl, (hx.trans x1).tpush _⟩
end M
end

section
set_option linter.all false
set_option Elab.async false
set_option maxRecDepth 4000
set_option pp.maxSteps 700
/-! P6: remainders and parities. -/
namespace M
def gB (xs : List Bool) (k : Nat) : Bool := xs.getD k false
def xorAt (d : List Bool) (at_ : Nat) (r : List Bool) : Nat → List Bool
  | 0 => r
  | k + 1 => let s := xorAt d at_ r k; s.set (at_ + k) (gB s (at_ + k) ^^ gB d k)
def remRow (d : List Bool) (row : List Bool) : Nat → List Bool
  | 0 => row
  | k + 1 => let r := remRow d row k; if gB r k then xorAt d k r d.length else r
def remB (d row : List Bool) : List Bool :=
  let r := remRow d row (row.length - (d.length - 1))
  (List.replicate (d.length - 1 - row.length) false ++ r).drop ((d.length - 1 - row.length) + row.length - (d.length - 1))
theorem xorAt_length (d : List Bool) (a : Nat) (r : List Bool) (k : Nat) : (xorAt d a r k).length = r.length := by
  induction k with
  | zero => rfl
  | succ k ih => simp only [xorAt, List.length_set, ih]
theorem remRow_length (d row : List Bool) (k : Nat) : (remRow d row k).length = row.length := by
  induction k with
  | zero => rfl
  | succ k ih =>
    simp only [remRow]
    split
    · rw [xorAt_length, ih]
    · exact ih
theorem remB_length (d row : List Bool) : (remB d row).length = d.length - 1 := by
  unfold remB
  simp only [List.length_drop, List.length_append, List.length_replicate, remRow_length]
  omega
theorem gB_eq {xs : List Bool} {k : Nat} (hk : k < xs.length) : xs[k] = gB xs k := by
  unfold gB; rw [List.getD_eq_getElem?_getD, List.getElem?_eq_getElem hk]; rfl
theorem in62_of {i : Int} (a : -100000 < i) (b : i < 100000) : in62 i = true := by
  unfold in62
  rw [Bool.and_eq_true, decide_eq_true_eq, decide_eq_true_eq]
  omega
theorem bI_xor (a b : Bool) : ((xB a b : Nat) : Int) = if (a ^^ b) = true then 1 else 0 := by
  cases a <;> cases b <;> rfl
theorem bI_one (a : Bool) : ((if a = true then 1 else 0 : Int) = 1) = (a = true) := by cases a <;> simp
theorem fn_remainder : TT.fn 247 = some c_remainder := rfl
theorem remainder_wp (n : Nat) (h : Heap) {ra : Nat} {row d : List Bool} (e : h.get ra = some (.lst (row.map bI))) (hl : row.length < 10000) (hd : 1 ≤ d.length) (hd2 : d.length < 1000) {X : Nat → List Val → Heap → Prop} :
    (callAt TT (n + 1) 247 [.ref ra, .tup (d.map bI)] h).wp (fun v h' => ∃ r, v = .ref r ∧ h.get r = none ∧ h'.get r = some (.lst ((remB d row).map bI)) ∧ Ext h h') X := by
  refine call_wp fn_remainder rfl ?_
  unfold c_remainder
  rw [wp_cons]
  try simp only [wp_ok, wp_bad, wp_bind, wp_ite, wp_nx, wp_ret, wp_fbad, wp_st, retE_ret, retE_exc, opt_some, opt_none, tru_bl, slotQ_some, intV_int, blV_bl, refV_ref, tupV_tup, wp_loc, wp_cint, wp_cstr, wp_cbl, wp_cnon, wp_cval, wp_bin, wp_neg, wp_nt, wp_cmp, wp_chain, wp_is, wp_and, wp_or, wp_ife, wp_fld, wp_ix, wp_sl, wp_tup, wp_lst, wp_dnew, wp_call, wp_mk, wp_make, wp_meth, wp_methK, wp_blt, wp_bm, wp_comp, wp_comp2, wp_pno, wp_pyes, wp_ono, wp_oyes, wp_esnil, wp_escons, wp_over, wp_range1, wp_range2, wp_range3, wp_enum, wp_rev, wp_nil, wp_ex, wp_set, wp_setf, wp_seti, wp_setTF, wp_sret, wp_retn, wp_pass, wp_brk, wp_cnt, wp_if, wp_for, wp_while, wp_binI, binI_add, binI_sub, binI_mul, binI_fdiv, binI_mod, binI_shr, binI_band, binI_bxor, binI_pow, cmp_lt, cmp_le, cmp_gt, cmp_ge, cmp_eqI, cmp_neI, cmp_eqS, cmp_neS, opt_ite, ite_and, List.getElem?_cons_zero, List.getElem?_cons_succ, List.set_cons_zero, List.set_cons_succ, List.length_cons, List.length_nil, List.append_nil, List.map_cons, List.map_nil, assignT, setSlots, List.cons_append, List.nil_append, Nat.reduceSub, Nat.reduceAdd, decide_eq_true_eq, if_true, if_false, Bool.false_eq_true, Bool.not_true, Bool.not_false, beq_true, beq_false, decide_true, decide_false, List.replicate_zero, List.replicate_succ, true_and, and_true]
  rw [len_tup, List.length_map]
  try simp only [wp_ok, wp_bad, wp_bind, wp_ite, wp_nx, wp_ret, wp_fbad, wp_st, retE_ret, retE_exc, opt_some, opt_none, tru_bl, slotQ_some, intV_int, blV_bl, refV_ref, tupV_tup, wp_loc, wp_cint, wp_cstr, wp_cbl, wp_cnon, wp_cval, wp_bin, wp_neg, wp_nt, wp_cmp, wp_chain, wp_is, wp_and, wp_or, wp_ife, wp_fld, wp_ix, wp_sl, wp_tup, wp_lst, wp_dnew, wp_call, wp_mk, wp_make, wp_meth, wp_methK, wp_blt, wp_bm, wp_comp, wp_comp2, wp_pno, wp_pyes, wp_ono, wp_oyes, wp_esnil, wp_escons, wp_over, wp_range1, wp_range2, wp_range3, wp_enum, wp_rev, wp_nil, wp_ex, wp_set, wp_setf, wp_seti, wp_setTF, wp_sret, wp_retn, wp_pass, wp_brk, wp_cnt, wp_if, wp_for, wp_while, wp_binI, binI_add, binI_sub, binI_mul, binI_fdiv, binI_mod, binI_shr, binI_band, binI_bxor, binI_pow, cmp_lt, cmp_le, cmp_gt, cmp_ge, cmp_eqI, cmp_neI, cmp_eqS, cmp_neS, opt_ite, ite_and, List.getElem?_cons_zero, List.getElem?_cons_succ, List.set_cons_zero, List.set_cons_succ, List.length_cons, List.length_nil, List.append_nil, List.map_cons, List.map_nil, assignT, setSlots, List.cons_append, List.nil_append, Nat.reduceSub, Nat.reduceAdd, decide_eq_true_eq, if_true, if_false, Bool.false_eq_true, Bool.not_true, Bool.not_false, beq_true, beq_false, decide_true, decide_false, List.replicate_zero, List.replicate_succ, true_and, and_true]
  rw [show ((d.length : Int) - 1) = ((d.length - 1 : Nat) : Int) by omega]
  generalize hsz : d.length - 1 = size
  rw [wp_cons]
  try simp only [wp_ok, wp_bad, wp_bind, wp_ite, wp_nx, wp_ret, wp_fbad, wp_st, retE_ret, retE_exc, opt_some, opt_none, tru_bl, slotQ_some, intV_int, blV_bl, refV_ref, tupV_tup, wp_loc, wp_cint, wp_cstr, wp_cbl, wp_cnon, wp_cval, wp_bin, wp_neg, wp_nt, wp_cmp, wp_chain, wp_is, wp_and, wp_or, wp_ife, wp_fld, wp_ix, wp_sl, wp_tup, wp_lst, wp_dnew, wp_call, wp_mk, wp_make, wp_meth, wp_methK, wp_blt, wp_bm, wp_comp, wp_comp2, wp_pno, wp_pyes, wp_ono, wp_oyes, wp_esnil, wp_escons, wp_over, wp_range1, wp_range2, wp_range3, wp_enum, wp_rev, wp_nil, wp_ex, wp_set, wp_setf, wp_seti, wp_setTF, wp_sret, wp_retn, wp_pass, wp_brk, wp_cnt, wp_if, wp_for, wp_while, wp_binI, binI_add, binI_sub, binI_mul, binI_fdiv, binI_mod, binI_shr, binI_band, binI_bxor, binI_pow, cmp_lt, cmp_le, cmp_gt, cmp_ge, cmp_eqI, cmp_neI, cmp_eqS, cmp_neS, opt_ite, ite_and, List.getElem?_cons_zero, List.getElem?_cons_succ, List.set_cons_zero, List.set_cons_succ, List.length_cons, List.length_nil, List.append_nil, List.map_cons, List.map_nil, assignT, setSlots, List.cons_append, List.nil_append, Nat.reduceSub, Nat.reduceAdd, decide_eq_true_eq, if_true, if_false, Bool.false_eq_true, Bool.not_true, Bool.not_false, beq_true, beq_false, decide_true, decide_false, List.replicate_zero, List.replicate_succ, true_and, and_true]
  rw [list_ref e]
  generalize hr0 : h.size = r
  have n0 : h.get r = none := by rw [← hr0]; exact Heap.get_ge (Nat.le_refl _)
  have x1 : Ext h (h.push (.lst (row.map bI))) := Ext.push _ _
  have g1 : (h.push (.lst (row.map bI))).get r = some (.lst (row.map bI)) := by rw [← hr0]; exact Heap.get_new _ _
  generalize h.push (.lst (row.map bI)) = h1 at x1 g1
  try simp only [wp_ok, wp_bad, wp_bind, wp_ite, wp_nx, wp_ret, wp_fbad, wp_st, retE_ret, retE_exc, opt_some, opt_none, tru_bl, slotQ_some, intV_int, blV_bl, refV_ref, tupV_tup, wp_loc, wp_cint, wp_cstr, wp_cbl, wp_cnon, wp_cval, wp_bin, wp_neg, wp_nt, wp_cmp, wp_chain, wp_is, wp_and, wp_or, wp_ife, wp_fld, wp_ix, wp_sl, wp_tup, wp_lst, wp_dnew, wp_call, wp_mk, wp_make, wp_meth, wp_methK, wp_blt, wp_bm, wp_comp, wp_comp2, wp_pno, wp_pyes, wp_ono, wp_oyes, wp_esnil, wp_escons, wp_over, wp_range1, wp_range2, wp_range3, wp_enum, wp_rev, wp_nil, wp_ex, wp_set, wp_setf, wp_seti, wp_setTF, wp_sret, wp_retn, wp_pass, wp_brk, wp_cnt, wp_if, wp_for, wp_while, wp_binI, binI_add, binI_sub, binI_mul, binI_fdiv, binI_mod, binI_shr, binI_band, binI_bxor, binI_pow, cmp_lt, cmp_le, cmp_gt, cmp_ge, cmp_eqI, cmp_neI, cmp_eqS, cmp_neS, opt_ite, ite_and, List.getElem?_cons_zero, List.getElem?_cons_succ, List.set_cons_zero, List.set_cons_succ, List.length_cons, List.length_nil, List.append_nil, List.map_cons, List.map_nil, assignT, setSlots, List.cons_append, List.nil_append, Nat.reduceSub, Nat.reduceAdd, decide_eq_true_eq, if_true, if_false, Bool.false_eq_true, Bool.not_true, Bool.not_false, beq_true, beq_false, decide_true, decide_false, List.replicate_zero, List.replicate_succ, true_and, and_true]
  rw [wp_cons]
  try simp only [wp_ok, wp_bad, wp_bind, wp_ite, wp_nx, wp_ret, wp_fbad, wp_st, retE_ret, retE_exc, opt_some, opt_none, tru_bl, slotQ_some, intV_int, blV_bl, refV_ref, tupV_tup, wp_loc, wp_cint, wp_cstr, wp_cbl, wp_cnon, wp_cval, wp_bin, wp_neg, wp_nt, wp_cmp, wp_chain, wp_is, wp_and, wp_or, wp_ife, wp_fld, wp_ix, wp_sl, wp_tup, wp_lst, wp_dnew, wp_call, wp_mk, wp_make, wp_meth, wp_methK, wp_blt, wp_bm, wp_comp, wp_comp2, wp_pno, wp_pyes, wp_ono, wp_oyes, wp_esnil, wp_escons, wp_over, wp_range1, wp_range2, wp_range3, wp_enum, wp_rev, wp_nil, wp_ex, wp_set, wp_setf, wp_seti, wp_setTF, wp_sret, wp_retn, wp_pass, wp_brk, wp_cnt, wp_if, wp_for, wp_while, wp_binI, binI_add, binI_sub, binI_mul, binI_fdiv, binI_mod, binI_shr, binI_band, binI_bxor, binI_pow, cmp_lt, cmp_le, cmp_gt, cmp_ge, cmp_eqI, cmp_neI, cmp_eqS, cmp_neS, opt_ite, ite_and, List.getElem?_cons_zero, List.getElem?_cons_succ, List.set_cons_zero, List.set_cons_succ, List.length_cons, List.length_nil, List.append_nil, List.map_cons, List.map_nil, assignT, setSlots, List.cons_append, List.nil_append, Nat.reduceSub, Nat.reduceAdd, decide_eq_true_eq, if_true, if_false, Bool.false_eq_true, Bool.not_true, Bool.not_false, beq_true, beq_false, decide_true, decide_false, List.replicate_zero, List.replicate_succ, true_and, and_true]
  rw [len_lst g1, List.length_map]
  try simp only [wp_ok, wp_bad, wp_bind, wp_ite, wp_nx, wp_ret, wp_fbad, wp_st, retE_ret, retE_exc, opt_some, opt_none, tru_bl, slotQ_some, intV_int, blV_bl, refV_ref, tupV_tup, wp_loc, wp_cint, wp_cstr, wp_cbl, wp_cnon, wp_cval, wp_bin, wp_neg, wp_nt, wp_cmp, wp_chain, wp_is, wp_and, wp_or, wp_ife, wp_fld, wp_ix, wp_sl, wp_tup, wp_lst, wp_dnew, wp_call, wp_mk, wp_make, wp_meth, wp_methK, wp_blt, wp_bm, wp_comp, wp_comp2, wp_pno, wp_pyes, wp_ono, wp_oyes, wp_esnil, wp_escons, wp_over, wp_range1, wp_range2, wp_range3, wp_enum, wp_rev, wp_nil, wp_ex, wp_set, wp_setf, wp_seti, wp_setTF, wp_sret, wp_retn, wp_pass, wp_brk, wp_cnt, wp_if, wp_for, wp_while, wp_binI, binI_add, binI_sub, binI_mul, binI_fdiv, binI_mod, binI_shr, binI_band, binI_bxor, binI_pow, cmp_lt, cmp_le, cmp_gt, cmp_ge, cmp_eqI, cmp_neI, cmp_eqS, cmp_neS, opt_ite, ite_and, List.getElem?_cons_zero, List.getElem?_cons_succ, List.set_cons_zero, List.set_cons_succ, List.length_cons, List.length_nil, List.append_nil, List.map_cons, List.map_nil, assignT, setSlots, List.cons_append, List.nil_append, Nat.reduceSub, Nat.reduceAdd, decide_eq_true_eq, if_true, if_false, Bool.false_eq_true, Bool.not_true, Bool.not_false, beq_true, beq_false, decide_true, decide_false, List.replicate_zero, List.replicate_succ, true_and, and_true]
  refine ⟨in62_of (by omega) (by omega), ?_⟩
  rw [show ((row.length : Int) - (size : Nat)).toNat = row.length - size by omega]
  refine for_range (fun k σ h' => ∃ a b, σ = [some (.ref ra), some (.tup (d.map bI)), some (.int size), some (.ref r), a, b] ∧ h'.get r = some (.lst ((remRow d row k).map bI)) ∧ Ext h h') ?_ ?_ ?_
  · rintro k hk σ h' ⟨a, b, rfl, hg, hx⟩
    have hlr := remRow_length d row k
    simp only [remRow]
    generalize remRow d row k = rr at hg hlr ⊢
    rw [wp_cons]
    try simp only [wp_ok, wp_bad, wp_bind, wp_ite, wp_nx, wp_ret, wp_fbad, wp_st, retE_ret, retE_exc, opt_some, opt_none, tru_bl, slotQ_some, intV_int, blV_bl, refV_ref, tupV_tup, wp_loc, wp_cint, wp_cstr, wp_cbl, wp_cnon, wp_cval, wp_bin, wp_neg, wp_nt, wp_cmp, wp_chain, wp_is, wp_and, wp_or, wp_ife, wp_fld, wp_ix, wp_sl, wp_tup, wp_lst, wp_dnew, wp_call, wp_mk, wp_make, wp_meth, wp_methK, wp_blt, wp_bm, wp_comp, wp_comp2, wp_pno, wp_pyes, wp_ono, wp_oyes, wp_esnil, wp_escons, wp_over, wp_range1, wp_range2, wp_range3, wp_enum, wp_rev, wp_nil, wp_ex, wp_set, wp_setf, wp_seti, wp_setTF, wp_sret, wp_retn, wp_pass, wp_brk, wp_cnt, wp_if, wp_for, wp_while, wp_binI, binI_add, binI_sub, binI_mul, binI_fdiv, binI_mod, binI_shr, binI_band, binI_bxor, binI_pow, cmp_lt, cmp_le, cmp_gt, cmp_ge, cmp_eqI, cmp_neI, cmp_eqS, cmp_neS, opt_ite, ite_and, List.getElem?_cons_zero, List.getElem?_cons_succ, List.set_cons_zero, List.set_cons_succ, List.length_cons, List.length_nil, List.append_nil, List.map_cons, List.map_nil, assignT, setSlots, List.cons_append, List.nil_append, Nat.reduceSub, Nat.reduceAdd, decide_eq_true_eq, if_true, if_false, Bool.false_eq_true, Bool.not_true, Bool.not_false, beq_true, beq_false, decide_true, decide_false, List.replicate_zero, List.replicate_succ, true_and, and_true]
    rw [ix_lst hg (by rw [List.length_map]; omega), List.getElem_map, gB_eq]
    simp only [bI, wp_ok, wp_bad, wp_bind, wp_ite, wp_nx, wp_ret, wp_fbad, wp_st, retE_ret, retE_exc, opt_some, opt_none, tru_bl, slotQ_some, intV_int, blV_bl, refV_ref, tupV_tup, wp_loc, wp_cint, wp_cstr, wp_cbl, wp_cnon, wp_cval, wp_bin, wp_neg, wp_nt, wp_cmp, wp_chain, wp_is, wp_and, wp_or, wp_ife, wp_fld, wp_ix, wp_sl, wp_tup, wp_lst, wp_dnew, wp_call, wp_mk, wp_make, wp_meth, wp_methK, wp_blt, wp_bm, wp_comp, wp_comp2, wp_pno, wp_pyes, wp_ono, wp_oyes, wp_esnil, wp_escons, wp_over, wp_range1, wp_range2, wp_range3, wp_enum, wp_rev, wp_nil, wp_ex, wp_set, wp_setf, wp_seti, wp_setTF, wp_sret, wp_retn, wp_pass, wp_brk, wp_cnt, wp_if, wp_for, wp_while, wp_binI, binI_add, binI_sub, binI_mul, binI_fdiv, binI_mod, binI_shr, binI_band, binI_bxor, binI_pow, cmp_lt, cmp_le, cmp_gt, cmp_ge, cmp_eqI, cmp_neI, cmp_eqS, cmp_neS, opt_ite, ite_and, List.getElem?_cons_zero, List.getElem?_cons_succ, List.set_cons_zero, List.set_cons_succ, List.length_cons, List.length_nil, List.append_nil, List.map_cons, List.map_nil, assignT, setSlots, List.cons_append, List.nil_append, Nat.reduceSub, Nat.reduceAdd, decide_eq_true_eq, if_true, if_false, Bool.false_eq_true, Bool.not_true, Bool.not_false, beq_true, beq_false, decide_true, decide_false, List.replicate_zero, List.replicate_succ, true_and, and_true, bI_one]
    by_cases q : gB rr k = true
    · rw [if_pos q, if_pos q, wp_cons]
      try simp only [wp_ok, wp_bad, wp_bind, wp_ite, wp_nx, wp_ret, wp_fbad, wp_st, retE_ret, retE_exc, opt_some, opt_none, tru_bl, slotQ_some, intV_int, blV_bl, refV_ref, tupV_tup, wp_loc, wp_cint, wp_cstr, wp_cbl, wp_cnon, wp_cval, wp_bin, wp_neg, wp_nt, wp_cmp, wp_chain, wp_is, wp_and, wp_or, wp_ife, wp_fld, wp_ix, wp_sl, wp_tup, wp_lst, wp_dnew, wp_call, wp_mk, wp_make, wp_meth, wp_methK, wp_blt, wp_bm, wp_comp, wp_comp2, wp_pno, wp_pyes, wp_ono, wp_oyes, wp_esnil, wp_escons, wp_over, wp_range1, wp_range2, wp_range3, wp_enum, wp_rev, wp_nil, wp_ex, wp_set, wp_setf, wp_seti, wp_setTF, wp_sret, wp_retn, wp_pass, wp_brk, wp_cnt, wp_if, wp_for, wp_while, wp_binI, binI_add, binI_sub, binI_mul, binI_fdiv, binI_mod, binI_shr, binI_band, binI_bxor, binI_pow, cmp_lt, cmp_le, cmp_gt, cmp_ge, cmp_eqI, cmp_neI, cmp_eqS, cmp_neS, opt_ite, ite_and, List.getElem?_cons_zero, List.getElem?_cons_succ, List.set_cons_zero, List.set_cons_succ, List.length_cons, List.length_nil, List.append_nil, List.map_cons, List.map_nil, assignT, setSlots, List.cons_append, List.nil_append, Nat.reduceSub, Nat.reduceAdd, decide_eq_true_eq, if_true, if_false, Bool.false_eq_true, Bool.not_true, Bool.not_false, beq_true, beq_false, decide_true, decide_false, List.replicate_zero, List.replicate_succ, true_and, and_true]
      refine ⟨in62_of (by omega) (by omega), ?_⟩
      rw [show ((size : Nat) + 1 : Int).toNat = d.length by omega]
      refine for_range (fun j σ h' => ∃ b, σ = [some (.ref ra), some (.tup (d.map bI)), some (.int size), some (.ref r), some (.int k), b] ∧ h'.get r = some (.lst ((xorAt d k rr j).map bI)) ∧ Ext h h') ?_ ?_ ?_
      · rintro j hj σ h' ⟨b, rfl, hg, hx⟩
        have hlx := xorAt_length d k rr j
        simp only [xorAt]
        generalize xorAt d k rr j = rx at hg hlx ⊢
        rw [wp_cons]
        try simp only [wp_ok, wp_bad, wp_bind, wp_ite, wp_nx, wp_ret, wp_fbad, wp_st, retE_ret, retE_exc, opt_some, opt_none, tru_bl, slotQ_some, intV_int, blV_bl, refV_ref, tupV_tup, wp_loc, wp_cint, wp_cstr, wp_cbl, wp_cnon, wp_cval, wp_bin, wp_neg, wp_nt, wp_cmp, wp_chain, wp_is, wp_and, wp_or, wp_ife, wp_fld, wp_ix, wp_sl, wp_tup, wp_lst, wp_dnew, wp_call, wp_mk, wp_make, wp_meth, wp_methK, wp_blt, wp_bm, wp_comp, wp_comp2, wp_pno, wp_pyes, wp_ono, wp_oyes, wp_esnil, wp_escons, wp_over, wp_range1, wp_range2, wp_range3, wp_enum, wp_rev, wp_nil, wp_ex, wp_set, wp_setf, wp_seti, wp_setTF, wp_sret, wp_retn, wp_pass, wp_brk, wp_cnt, wp_if, wp_for, wp_while, wp_binI, binI_add, binI_sub, binI_mul, binI_fdiv, binI_mod, binI_shr, binI_band, binI_bxor, binI_pow, cmp_lt, cmp_le, cmp_gt, cmp_ge, cmp_eqI, cmp_neI, cmp_eqS, cmp_neS, opt_ite, ite_and, List.getElem?_cons_zero, List.getElem?_cons_succ, List.set_cons_zero, List.set_cons_succ, List.length_cons, List.length_nil, List.append_nil, List.map_cons, List.map_nil, assignT, setSlots, List.cons_append, List.nil_append, Nat.reduceSub, Nat.reduceAdd, decide_eq_true_eq, if_true, if_false, Bool.false_eq_true, Bool.not_true, Bool.not_false, beq_true, beq_false, decide_true, decide_false, List.replicate_zero, List.replicate_succ, true_and, and_true]
        rw [show ((k : Int) + (j : Int)) = ((k + j : Nat) : Int) by omega]
        rw [ix_lst hg (by rw [List.length_map]; omega), ix_tup (by rw [List.length_map]; omega), List.getElem_map, List.getElem_map, gB_eq, gB_eq]
        simp only [bI, wp_ok, wp_bad, wp_bind, wp_ite, wp_nx, wp_ret, wp_fbad, wp_st, retE_ret, retE_exc, opt_some, opt_none, tru_bl, slotQ_some, intV_int, blV_bl, refV_ref, tupV_tup, wp_loc, wp_cint, wp_cstr, wp_cbl, wp_cnon, wp_cval, wp_bin, wp_neg, wp_nt, wp_cmp, wp_chain, wp_is, wp_and, wp_or, wp_ife, wp_fld, wp_ix, wp_sl, wp_tup, wp_lst, wp_dnew, wp_call, wp_mk, wp_make, wp_meth, wp_methK, wp_blt, wp_bm, wp_comp, wp_comp2, wp_pno, wp_pyes, wp_ono, wp_oyes, wp_esnil, wp_escons, wp_over, wp_range1, wp_range2, wp_range3, wp_enum, wp_rev, wp_nil, wp_ex, wp_set, wp_setf, wp_seti, wp_setTF, wp_sret, wp_retn, wp_pass, wp_brk, wp_cnt, wp_if, wp_for, wp_while, wp_binI, binI_add, binI_sub, binI_mul, binI_fdiv, binI_mod, binI_shr, binI_band, binI_bxor, binI_pow, cmp_lt, cmp_le, cmp_gt, cmp_ge, cmp_eqI, cmp_neI, cmp_eqS, cmp_neS, opt_ite, ite_and, List.getElem?_cons_zero, List.getElem?_cons_succ, List.set_cons_zero, List.set_cons_succ, List.length_cons, List.length_nil, List.append_nil, List.map_cons, List.map_nil, assignT, setSlots, List.cons_append, List.nil_append, Nat.reduceSub, Nat.reduceAdd, decide_eq_true_eq, if_true, if_false, Bool.false_eq_true, Bool.not_true, Bool.not_false, beq_true, beq_false, decide_true, decide_false, List.replicate_zero, List.replicate_succ, true_and, and_true]
        rw [set_lst hg (by rw [List.length_map]; omega)]
        try simp only [wp_ok, wp_bad, wp_bind, wp_ite, wp_nx, wp_ret, wp_fbad, wp_st, retE_ret, retE_exc, opt_some, opt_none, tru_bl, slotQ_some, intV_int, blV_bl, refV_ref, tupV_tup, wp_loc, wp_cint, wp_cstr, wp_cbl, wp_cnon, wp_cval, wp_bin, wp_neg, wp_nt, wp_cmp, wp_chain, wp_is, wp_and, wp_or, wp_ife, wp_fld, wp_ix, wp_sl, wp_tup, wp_lst, wp_dnew, wp_call, wp_mk, wp_make, wp_meth, wp_methK, wp_blt, wp_bm, wp_comp, wp_comp2, wp_pno, wp_pyes, wp_ono, wp_oyes, wp_esnil, wp_escons, wp_over, wp_range1, wp_range2, wp_range3, wp_enum, wp_rev, wp_nil, wp_ex, wp_set, wp_setf, wp_seti, wp_setTF, wp_sret, wp_retn, wp_pass, wp_brk, wp_cnt, wp_if, wp_for, wp_while, wp_binI, binI_add, binI_sub, binI_mul, binI_fdiv, binI_mod, binI_shr, binI_band, binI_bxor, binI_pow, cmp_lt, cmp_le, cmp_gt, cmp_ge, cmp_eqI, cmp_neI, cmp_eqS, cmp_neS, opt_ite, ite_and, List.getElem?_cons_zero, List.getElem?_cons_succ, List.set_cons_zero, List.set_cons_succ, List.length_cons, List.length_nil, List.append_nil, List.map_cons, List.map_nil, assignT, setSlots, List.cons_append, List.nil_append, Nat.reduceSub, Nat.reduceAdd, decide_eq_true_eq, if_true, if_false, Bool.false_eq_true, Bool.not_true, Bool.not_false, beq_true, beq_false, decide_true, decide_false, List.replicate_zero, List.replicate_succ, true_and, and_true]
        refine ⟨⟨bI_nn _, bI_nn _⟩, ?_⟩
        rw [xor_bI, bI_xor]
        have hs : (List.map bI rx).set (k + j) (.int (if (gB rx (k + j) ^^ gB d j) = true then 1 else 0)) = List.map bI (rx.set (k + j) (gB rx (k + j) ^^ gB d j)) := by
          rw [List.map_set]; rfl
        have hs2 : (rx.map fun b => Val.int (if b = true then 1 else 0)) = rx.map bI := rfl
        rw [hs]
        refine ⟨_, rfl, ?_, ?_⟩
        · exact Heap.get_set_eq _ hg
        · exact hx.set n0 (Heap.get_lt hg)
      · rintro σ h' ⟨b, rfl, hg, hx⟩
        exact ⟨_, _, rfl, hg, hx⟩
      · exact ⟨_, rfl, hg, hx⟩
    · rw [if_neg q, if_neg q]
      exact ⟨_, _, rfl, hg, hx⟩
  · rintro σ h' ⟨a, b, rfl, hg, hx⟩
    have hlr := remRow_length d row (row.length - size)
    rw [wp_cons]
    try simp only [wp_ok, wp_bad, wp_bind, wp_ite, wp_nx, wp_ret, wp_fbad, wp_st, retE_ret, retE_exc, opt_some, opt_none, tru_bl, slotQ_some, intV_int, blV_bl, refV_ref, tupV_tup, wp_loc, wp_cint, wp_cstr, wp_cbl, wp_cnon, wp_cval, wp_bin, wp_neg, wp_nt, wp_cmp, wp_chain, wp_is, wp_and, wp_or, wp_ife, wp_fld, wp_ix, wp_sl, wp_tup, wp_lst, wp_dnew, wp_call, wp_mk, wp_make, wp_meth, wp_methK, wp_blt, wp_bm, wp_comp, wp_comp2, wp_pno, wp_pyes, wp_ono, wp_oyes, wp_esnil, wp_escons, wp_over, wp_range1, wp_range2, wp_range3, wp_enum, wp_rev, wp_nil, wp_ex, wp_set, wp_setf, wp_seti, wp_setTF, wp_sret, wp_retn, wp_pass, wp_brk, wp_cnt, wp_if, wp_for, wp_while, wp_binI, binI_add, binI_sub, binI_mul, binI_fdiv, binI_mod, binI_shr, binI_band, binI_bxor, binI_pow, cmp_lt, cmp_le, cmp_gt, cmp_ge, cmp_eqI, cmp_neI, cmp_eqS, cmp_neS, opt_ite, ite_and, List.getElem?_cons_zero, List.getElem?_cons_succ, List.set_cons_zero, List.set_cons_succ, List.length_cons, List.length_nil, List.append_nil, List.map_cons, List.map_nil, assignT, setSlots, List.cons_append, List.nil_append, Nat.reduceSub, Nat.reduceAdd, decide_eq_true_eq, if_true, if_false, Bool.false_eq_true, Bool.not_true, Bool.not_false, beq_true, beq_false, decide_true, decide_false, List.replicate_zero, List.replicate_succ, true_and, and_true]
    refine ⟨one_le, ?_⟩
    have hg2 := (Ext.push h' (.lst [.int 0])).2 _ _ hg
    rw [len_lst hg2, List.length_map, hlr]
    try simp only [wp_ok, wp_bad, wp_bind, wp_ite, wp_nx, wp_ret, wp_fbad, wp_st, retE_ret, retE_exc, opt_some, opt_none, tru_bl, slotQ_some, intV_int, blV_bl, refV_ref, tupV_tup, wp_loc, wp_cint, wp_cstr, wp_cbl, wp_cnon, wp_cval, wp_bin, wp_neg, wp_nt, wp_cmp, wp_chain, wp_is, wp_and, wp_or, wp_ife, wp_fld, wp_ix, wp_sl, wp_tup, wp_lst, wp_dnew, wp_call, wp_mk, wp_make, wp_meth, wp_methK, wp_blt, wp_bm, wp_comp, wp_comp2, wp_pno, wp_pyes, wp_ono, wp_oyes, wp_esnil, wp_escons, wp_over, wp_range1, wp_range2, wp_range3, wp_enum, wp_rev, wp_nil, wp_ex, wp_set, wp_setf, wp_seti, wp_setTF, wp_sret, wp_retn, wp_pass, wp_brk, wp_cnt, wp_if, wp_for, wp_while, wp_binI, binI_add, binI_sub, binI_mul, binI_fdiv, binI_mod, binI_shr, binI_band, binI_bxor, binI_pow, cmp_lt, cmp_le, cmp_gt, cmp_ge, cmp_eqI, cmp_neI, cmp_eqS, cmp_neS, opt_ite, ite_and, List.getElem?_cons_zero, List.getElem?_cons_succ, List.set_cons_zero, List.set_cons_succ, List.length_cons, List.length_nil, List.append_nil, List.map_cons, List.map_nil, assignT, setSlots, List.cons_append, List.nil_append, Nat.reduceSub, Nat.reduceAdd, decide_eq_true_eq, if_true, if_false, Bool.false_eq_true, Bool.not_true, Bool.not_false, beq_true, beq_false, decide_true, decide_false, List.replicate_zero, List.replicate_succ, true_and, and_true]
    rw [mul_lst (Heap.get_new _ _), rep_one]
    have e2 : ((size : Nat) - (row.length : Nat) : Int).toNat = size - row.length := by omega
    rw [e2]
    refine ⟨⟨size_ok ?_, in62_of (by omega) (by omega)⟩, ?_⟩
    · simp only [List.length_cons, List.length_nil]
      omega
    try simp only [wp_ok, wp_bad, wp_bind, wp_ite, wp_nx, wp_ret, wp_fbad, wp_st, retE_ret, retE_exc, opt_some, opt_none, tru_bl, slotQ_some, intV_int, blV_bl, refV_ref, tupV_tup, wp_loc, wp_cint, wp_cstr, wp_cbl, wp_cnon, wp_cval, wp_bin, wp_neg, wp_nt, wp_cmp, wp_chain, wp_is, wp_and, wp_or, wp_ife, wp_fld, wp_ix, wp_sl, wp_tup, wp_lst, wp_dnew, wp_call, wp_mk, wp_make, wp_meth, wp_methK, wp_blt, wp_bm, wp_comp, wp_comp2, wp_pno, wp_pyes, wp_ono, wp_oyes, wp_esnil, wp_escons, wp_over, wp_range1, wp_range2, wp_range3, wp_enum, wp_rev, wp_nil, wp_ex, wp_set, wp_setf, wp_seti, wp_setTF, wp_sret, wp_retn, wp_pass, wp_brk, wp_cnt, wp_if, wp_for, wp_while, wp_binI, binI_add, binI_sub, binI_mul, binI_fdiv, binI_mod, binI_shr, binI_band, binI_bxor, binI_pow, cmp_lt, cmp_le, cmp_gt, cmp_ge, cmp_eqI, cmp_neI, cmp_eqS, cmp_neS, opt_ite, ite_and, List.getElem?_cons_zero, List.getElem?_cons_succ, List.set_cons_zero, List.set_cons_succ, List.length_cons, List.length_nil, List.append_nil, List.map_cons, List.map_nil, assignT, setSlots, List.cons_append, List.nil_append, Nat.reduceSub, Nat.reduceAdd, decide_eq_true_eq, if_true, if_false, Bool.false_eq_true, Bool.not_true, Bool.not_false, beq_true, beq_false, decide_true, decide_false, List.replicate_zero, List.replicate_succ, true_and, and_true]
    rw [add_lst (Heap.get_new _ _) ((Ext.push _ _).2 _ _ hg2)]
    refine ⟨size_ok ?_, ?_⟩
    · simp only [List.length_replicate, List.length_map, hlr]
      omega
    have hm : (List.replicate (size - row.length) (Val.int 0) ++ (remRow d row (row.length - size)).map bI) = (List.replicate (size - row.length) false ++ remRow d row (row.length - size)).map bI := by
      rw [List.map_append, List.map_replicate]; rfl
    rw [hm]
    try simp only [wp_ok, wp_bad, wp_bind, wp_ite, wp_nx, wp_ret, wp_fbad, wp_st, retE_ret, retE_exc, opt_some, opt_none, tru_bl, slotQ_some, intV_int, blV_bl, refV_ref, tupV_tup, wp_loc, wp_cint, wp_cstr, wp_cbl, wp_cnon, wp_cval, wp_bin, wp_neg, wp_nt, wp_cmp, wp_chain, wp_is, wp_and, wp_or, wp_ife, wp_fld, wp_ix, wp_sl, wp_tup, wp_lst, wp_dnew, wp_call, wp_mk, wp_make, wp_meth, wp_methK, wp_blt, wp_bm, wp_comp, wp_comp2, wp_pno, wp_pyes, wp_ono, wp_oyes, wp_esnil, wp_escons, wp_over, wp_range1, wp_range2, wp_range3, wp_enum, wp_rev, wp_nil, wp_ex, wp_set, wp_setf, wp_seti, wp_setTF, wp_sret, wp_retn, wp_pass, wp_brk, wp_cnt, wp_if, wp_for, wp_while, wp_binI, binI_add, binI_sub, binI_mul, binI_fdiv, binI_mod, binI_shr, binI_band, binI_bxor, binI_pow, cmp_lt, cmp_le, cmp_gt, cmp_ge, cmp_eqI, cmp_neI, cmp_eqS, cmp_neS, opt_ite, ite_and, List.getElem?_cons_zero, List.getElem?_cons_succ, List.set_cons_zero, List.set_cons_succ, List.length_cons, List.length_nil, List.append_nil, List.map_cons, List.map_nil, assignT, setSlots, List.cons_append, List.nil_append, Nat.reduceSub, Nat.reduceAdd, decide_eq_true_eq, if_true, if_false, Bool.false_eq_true, Bool.not_true, Bool.not_false, beq_true, beq_false, decide_true, decide_false, List.replicate_zero, List.replicate_succ, true_and, and_true]
    rw [wp_cons]
    try simp only [wp_ok, wp_bad, wp_bind, wp_ite, wp_nx, wp_ret, wp_fbad, wp_st, retE_ret, retE_exc, opt_some, opt_none, tru_bl, slotQ_some, intV_int, blV_bl, refV_ref, tupV_tup, wp_loc, wp_cint, wp_cstr, wp_cbl, wp_cnon, wp_cval, wp_bin, wp_neg, wp_nt, wp_cmp, wp_chain, wp_is, wp_and, wp_or, wp_ife, wp_fld, wp_ix, wp_sl, wp_tup, wp_lst, wp_dnew, wp_call, wp_mk, wp_make, wp_meth, wp_methK, wp_blt, wp_bm, wp_comp, wp_comp2, wp_pno, wp_pyes, wp_ono, wp_oyes, wp_esnil, wp_escons, wp_over, wp_range1, wp_range2, wp_range3, wp_enum, wp_rev, wp_nil, wp_ex, wp_set, wp_setf, wp_seti, wp_setTF, wp_sret, wp_retn, wp_pass, wp_brk, wp_cnt, wp_if, wp_for, wp_while, wp_binI, binI_add, binI_sub, binI_mul, binI_fdiv, binI_mod, binI_shr, binI_band, binI_bxor, binI_pow, cmp_lt, cmp_le, cmp_gt, cmp_ge, cmp_eqI, cmp_neI, cmp_eqS, cmp_neS, opt_ite, ite_and, List.getElem?_cons_zero, List.getElem?_cons_succ, List.set_cons_zero, List.set_cons_succ, List.length_cons, List.length_nil, List.append_nil, List.map_cons, List.map_nil, assignT, setSlots, List.cons_append, List.nil_append, Nat.reduceSub, Nat.reduceAdd, decide_eq_true_eq, if_true, if_false, Bool.false_eq_true, Bool.not_true, Bool.not_false, beq_true, beq_false, decide_true, decide_false, List.replicate_zero, List.replicate_succ, true_and, and_true]
    rw [len_lst (Heap.get_new _ _)]
    try simp only [wp_ok, wp_bad, wp_bind, wp_ite, wp_nx, wp_ret, wp_fbad, wp_st, retE_ret, retE_exc, opt_some, opt_none, tru_bl, slotQ_some, intV_int, blV_bl, refV_ref, tupV_tup, wp_loc, wp_cint, wp_cstr, wp_cbl, wp_cnon, wp_cval, wp_bin, wp_neg, wp_nt, wp_cmp, wp_chain, wp_is, wp_and, wp_or, wp_ife, wp_fld, wp_ix, wp_sl, wp_tup, wp_lst, wp_dnew, wp_call, wp_mk, wp_make, wp_meth, wp_methK, wp_blt, wp_bm, wp_comp, wp_comp2, wp_pno, wp_pyes, wp_ono, wp_oyes, wp_esnil, wp_escons, wp_over, wp_range1, wp_range2, wp_range3, wp_enum, wp_rev, wp_nil, wp_ex, wp_set, wp_setf, wp_seti, wp_setTF, wp_sret, wp_retn, wp_pass, wp_brk, wp_cnt, wp_if, wp_for, wp_while, wp_binI, binI_add, binI_sub, binI_mul, binI_fdiv, binI_mod, binI_shr, binI_band, binI_bxor, binI_pow, cmp_lt, cmp_le, cmp_gt, cmp_ge, cmp_eqI, cmp_neI, cmp_eqS, cmp_neS, opt_ite, ite_and, List.getElem?_cons_zero, List.getElem?_cons_succ, List.set_cons_zero, List.set_cons_succ, List.length_cons, List.length_nil, List.append_nil, List.map_cons, List.map_nil, assignT, setSlots, List.cons_append, List.nil_append, Nat.reduceSub, Nat.reduceAdd, decide_eq_true_eq, if_true, if_false, Bool.false_eq_true, Bool.not_true, Bool.not_false, beq_true, beq_false, decide_true, decide_false, List.replicate_zero, List.replicate_succ, true_and, and_true]
    rw [slV_lst (Heap.get_new _ _)]
    have e3 : (((List.replicate (size - row.length) false ++ remRow d row (row.length - size)).map bI).length : Int) - (size : Nat) = ((size - row.length + row.length - size : Nat) : Int) := by
      simp only [List.length_map, List.length_append, List.length_replicate, hlr]
      omega
    rw [e3, cut_from _ (by simp only [List.length_map, List.length_append, List.length_replicate, hlr]; omega)]
    refine ⟨_, rfl, ?_, ?_, (((hx.tpush _).tpush _).tpush _).tpush _⟩
    · exact (((hx.tpush _).tpush _).tpush _).size_none
    · rw [Heap.get_new, ← List.map_drop]
      unfold remB
      rw [hsz]
  · exact ⟨_, _, rfl, g1, x1⟩
def parB (d content : List Bool) : List Bool := (remB d (content ++ List.replicate (d.length - 1) false)).map (!·)
theorem parB_length (d c : List Bool) : (parB d c).length = d.length - 1 := by unfold parB; rw [List.length_map, remB_length]
theorem fn_parity : TT.fn 227 = some c_parity := rfl
theorem parity_wp (n : Nat) (h : Heap) {ra : Nat} {row d : List Bool} (e : h.get ra = some (.lst (row.map bI))) (hl : row.length < 8000) (hd : 1 ≤ d.length) (hd2 : d.length < 1000) {X : Nat → List Val → Heap → Prop} :
    (callAt TT (n + 2) 227 [.ref ra, .tup (d.map bI)] h).wp (fun v h' => ∃ r, v = .ref r ∧ h.get r = none ∧ h'.get r = some (.lst ((parB d row).map bI)) ∧ Ext h h') X := by
  refine call_wp fn_parity rfl ?_
  unfold c_parity
  rw [wp_cons]
  try simp only [wp_ok, wp_bad, wp_bind, wp_ite, wp_nx, wp_ret, wp_fbad, wp_st, retE_ret, retE_exc, opt_some, opt_none, tru_bl, slotQ_some, intV_int, blV_bl, refV_ref, tupV_tup, wp_loc, wp_cint, wp_cstr, wp_cbl, wp_cnon, wp_cval, wp_bin, wp_neg, wp_nt, wp_cmp, wp_chain, wp_is, wp_and, wp_or, wp_ife, wp_fld, wp_ix, wp_sl, wp_tup, wp_lst, wp_dnew, wp_call, wp_mk, wp_make, wp_meth, wp_methK, wp_blt, wp_bm, wp_comp, wp_comp2, wp_pno, wp_pyes, wp_ono, wp_oyes, wp_esnil, wp_escons, wp_over, wp_range1, wp_range2, wp_range3, wp_enum, wp_rev, wp_nil, wp_ex, wp_set, wp_setf, wp_seti, wp_setTF, wp_sret, wp_retn, wp_pass, wp_brk, wp_cnt, wp_if, wp_for, wp_while, wp_binI, binI_add, binI_sub, binI_mul, binI_fdiv, binI_mod, binI_shr, binI_band, binI_bxor, binI_pow, cmp_lt, cmp_le, cmp_gt, cmp_ge, cmp_eqI, cmp_neI, cmp_eqS, cmp_neS, opt_ite, ite_and, List.getElem?_cons_zero, List.getElem?_cons_succ, List.set_cons_zero, List.set_cons_succ, List.length_cons, List.length_nil, List.append_nil, List.map_cons, List.map_nil, assignT, setSlots, List.cons_append, List.nil_append, Nat.reduceSub, Nat.reduceAdd, decide_eq_true_eq, if_true, if_false, Bool.false_eq_true, Bool.not_true, Bool.not_false, beq_true, beq_false, decide_true, decide_false, List.replicate_zero, List.replicate_succ, true_and, and_true]
  rw [list_ref e]
  refine ⟨one_le, ?_⟩
  rw [len_tup, List.length_map]
  try simp only [wp_ok, wp_bad, wp_bind, wp_ite, wp_nx, wp_ret, wp_fbad, wp_st, retE_ret, retE_exc, opt_some, opt_none, tru_bl, slotQ_some, intV_int, blV_bl, refV_ref, tupV_tup, wp_loc, wp_cint, wp_cstr, wp_cbl, wp_cnon, wp_cval, wp_bin, wp_neg, wp_nt, wp_cmp, wp_chain, wp_is, wp_and, wp_or, wp_ife, wp_fld, wp_ix, wp_sl, wp_tup, wp_lst, wp_dnew, wp_call, wp_mk, wp_make, wp_meth, wp_methK, wp_blt, wp_bm, wp_comp, wp_comp2, wp_pno, wp_pyes, wp_ono, wp_oyes, wp_esnil, wp_escons, wp_over, wp_range1, wp_range2, wp_range3, wp_enum, wp_rev, wp_nil, wp_ex, wp_set, wp_setf, wp_seti, wp_setTF, wp_sret, wp_retn, wp_pass, wp_brk, wp_cnt, wp_if, wp_for, wp_while, wp_binI, binI_add, binI_sub, binI_mul, binI_fdiv, binI_mod, binI_shr, binI_band, binI_bxor, binI_pow, cmp_lt, cmp_le, cmp_gt, cmp_ge, cmp_eqI, cmp_neI, cmp_eqS, cmp_neS, opt_ite, ite_and, List.getElem?_cons_zero, List.getElem?_cons_succ, List.set_cons_zero, List.set_cons_succ, List.length_cons, List.length_nil, List.append_nil, List.map_cons, List.map_nil, assignT, setSlots, List.cons_append, List.nil_append, Nat.reduceSub, Nat.reduceAdd, decide_eq_true_eq, if_true, if_false, Bool.false_eq_true, Bool.not_true, Bool.not_false, beq_true, beq_false, decide_true, decide_false, List.replicate_zero, List.replicate_succ, true_and, and_true]
  rw [mul_lst (Heap.get_new _ _), rep_one]
  rw [show ((d.length : Int) - 1).toNat = d.length - 1 by omega]
  refine ⟨⟨size_ok ?_, in62_of (by omega) (by omega)⟩, ?_⟩
  · simp only [List.length_cons, List.length_nil]
    omega
  rw [add_lst ((Ext.tpush (Ext.push _ _) _).2 _ _ (Heap.get_new _ _)) (Heap.get_new _ _)]
  refine ⟨size_ok ?_, ?_⟩
  · simp only [List.length_replicate, List.length_map]
    omega
  have hm : (row.map bI ++ List.replicate (d.length - 1) (Val.int 0)) = (row ++ List.replicate (d.length - 1) false).map bI := by
    rw [List.map_append, List.map_replicate]; rfl
  rw [hm]
  have x1 : Ext h ((((h.push (Obj.lst (row.map bI))).push (Obj.lst [Val.int 0])).push (Obj.lst (List.replicate (d.length - 1) (Val.int 0)))).push (.lst ((row ++ List.replicate (d.length - 1) false).map bI))) := (((Ext.push _ _).tpush _).tpush _).tpush _
  refine (remainder_wp n _ (Heap.get_new _ _) (by rw [List.length_append, List.length_replicate]; omega) hd hd2 (X := nox)).mono ?_ (fun _ _ _ q => q.elim)
  rintro v h2 ⟨r2, rfl, n2, g2, x2⟩
  rw [wp_cons]
  try simp only [wp_ok, wp_bad, wp_bind, wp_ite, wp_nx, wp_ret, wp_fbad, wp_st, retE_ret, retE_exc, opt_some, opt_none, tru_bl, slotQ_some, intV_int, blV_bl, refV_ref, tupV_tup, wp_loc, wp_cint, wp_cstr, wp_cbl, wp_cnon, wp_cval, wp_bin, wp_neg, wp_nt, wp_cmp, wp_chain, wp_is, wp_and, wp_or, wp_ife, wp_fld, wp_ix, wp_sl, wp_tup, wp_lst, wp_dnew, wp_call, wp_mk, wp_make, wp_meth, wp_methK, wp_blt, wp_bm, wp_comp, wp_comp2, wp_pno, wp_pyes, wp_ono, wp_oyes, wp_esnil, wp_escons, wp_over, wp_range1, wp_range2, wp_range3, wp_enum, wp_rev, wp_nil, wp_ex, wp_set, wp_setf, wp_seti, wp_setTF, wp_sret, wp_retn, wp_pass, wp_brk, wp_cnt, wp_if, wp_for, wp_while, wp_binI, binI_add, binI_sub, binI_mul, binI_fdiv, binI_mod, binI_shr, binI_band, binI_bxor, binI_pow, cmp_lt, cmp_le, cmp_gt, cmp_ge, cmp_eqI, cmp_neI, cmp_eqS, cmp_neS, opt_ite, ite_and, List.getElem?_cons_zero, List.getElem?_cons_succ, List.set_cons_zero, List.set_cons_succ, List.length_cons, List.length_nil, List.append_nil, List.map_cons, List.map_nil, assignT, setSlots, List.cons_append, List.nil_append, Nat.reduceSub, Nat.reduceAdd, decide_eq_true_eq, if_true, if_false, Bool.false_eq_true, Bool.not_true, Bool.not_false, beq_true, beq_false, decide_true, decide_false, List.replicate_zero, List.replicate_succ, true_and, and_true]
  rw [srcOf_lst g2]
  simp only [wipeT, wp_ok, wp_bad, wp_bind, wp_ite, wp_nx, wp_ret, wp_fbad, wp_st, retE_ret, retE_exc, opt_some, opt_none, tru_bl, slotQ_some, intV_int, blV_bl, refV_ref, tupV_tup, wp_loc, wp_cint, wp_cstr, wp_cbl, wp_cnon, wp_cval, wp_bin, wp_neg, wp_nt, wp_cmp, wp_chain, wp_is, wp_and, wp_or, wp_ife, wp_fld, wp_ix, wp_sl, wp_tup, wp_lst, wp_dnew, wp_call, wp_mk, wp_make, wp_meth, wp_methK, wp_blt, wp_bm, wp_comp, wp_comp2, wp_pno, wp_pyes, wp_ono, wp_oyes, wp_esnil, wp_escons, wp_over, wp_range1, wp_range2, wp_range3, wp_enum, wp_rev, wp_nil, wp_ex, wp_set, wp_setf, wp_seti, wp_setTF, wp_sret, wp_retn, wp_pass, wp_brk, wp_cnt, wp_if, wp_for, wp_while, wp_binI, binI_add, binI_sub, binI_mul, binI_fdiv, binI_mod, binI_shr, binI_band, binI_bxor, binI_pow, cmp_lt, cmp_le, cmp_gt, cmp_ge, cmp_eqI, cmp_neI, cmp_eqS, cmp_neS, opt_ite, ite_and, List.getElem?_cons_zero, List.getElem?_cons_succ, List.set_cons_zero, List.set_cons_succ, List.length_cons, List.length_nil, List.append_nil, List.map_cons, List.map_nil, assignT, setSlots, List.cons_append, List.nil_append, Nat.reduceSub, Nat.reduceAdd, decide_eq_true_eq, if_true, if_false, Bool.false_eq_true, Bool.not_true, Bool.not_false, beq_true, beq_false, decide_true, decide_false, List.replicate_zero, List.replicate_succ, true_and, and_true]
  refine comp_inv (fun k acc h' => acc = ((remB d (row ++ List.replicate (d.length - 1) false)).take k).map (fun b => bI (!b)) ∧ h' = h2) (fun k acc h' _ q => by rw [q.2]; exact stands_some g2) ?_ ?_ ⟨rfl, rfl⟩
  · rintro k hk acc h' ⟨rfl, rfl⟩
    rw [List.length_map] at hk
    rw [List.getElem_map]
    refine ⟨_, rfl, ?_⟩
    simp only [bI, wp_ok, wp_bad, wp_bind, wp_ite, wp_nx, wp_ret, wp_fbad, wp_st, retE_ret, retE_exc, opt_some, opt_none, tru_bl, slotQ_some, intV_int, blV_bl, refV_ref, tupV_tup, wp_loc, wp_cint, wp_cstr, wp_cbl, wp_cnon, wp_cval, wp_bin, wp_neg, wp_nt, wp_cmp, wp_chain, wp_is, wp_and, wp_or, wp_ife, wp_fld, wp_ix, wp_sl, wp_tup, wp_lst, wp_dnew, wp_call, wp_mk, wp_make, wp_meth, wp_methK, wp_blt, wp_bm, wp_comp, wp_comp2, wp_pno, wp_pyes, wp_ono, wp_oyes, wp_esnil, wp_escons, wp_over, wp_range1, wp_range2, wp_range3, wp_enum, wp_rev, wp_nil, wp_ex, wp_set, wp_setf, wp_seti, wp_setTF, wp_sret, wp_retn, wp_pass, wp_brk, wp_cnt, wp_if, wp_for, wp_while, wp_binI, binI_add, binI_sub, binI_mul, binI_fdiv, binI_mod, binI_shr, binI_band, binI_bxor, binI_pow, cmp_lt, cmp_le, cmp_gt, cmp_ge, cmp_eqI, cmp_neI, cmp_eqS, cmp_neS, opt_ite, ite_and, List.getElem?_cons_zero, List.getElem?_cons_succ, List.set_cons_zero, List.set_cons_succ, List.length_cons, List.length_nil, List.append_nil, List.map_cons, List.map_nil, assignT, setSlots, List.cons_append, List.nil_append, Nat.reduceSub, Nat.reduceAdd, decide_eq_true_eq, if_true, if_false, Bool.false_eq_true, Bool.not_true, Bool.not_false, beq_true, beq_false, decide_true, decide_false, List.replicate_zero, List.replicate_succ, true_and, and_true]
    rw [List.take_succ_eq_append_getElem hk, List.map_append]
    congr 2
    cases (remB d (row ++ List.replicate (d.length - 1) false))[k] <;> rfl
  · rintro acc h' ⟨rfl, rfl⟩
    have tk : ∀ zs : List Bool, zs.take (zs.map bI).length = zs := fun zs => by rw [List.length_map, List.take_length]
    rw [tk]
    refine ⟨size_ok ?_, _, rfl, ?_, ?_, (x1.trans x2).tpush _⟩
    · rw [List.length_map, remB_length]; omega
    · exact (x1.trans x2).size_none
    · rw [Heap.get_new]
      unfold parB
      rw [List.map_map]
      rfl
/-! equal rows -/
def dI (i : Int) : D := .int i
theorem toDs_ints (h : Heap) (n : Nat) (xs : List Int) : toDs (toD h (n + 1)) (xs.map Val.int) = some (xs.map dI) := by
  induction xs with
  | nil => rfl
  | cons x xs ih => rw [List.map_cons, toDs, ih]; rfl
theorem eqvs_ints (xs ys : List Int) : D.eqvs (xs.map dI) (ys.map dI) = decide (xs = ys) := by
  induction xs generalizing ys with
  | nil => cases ys <;> simp [D.eqvs]
  | cons x xs ih =>
    cases ys with
    | nil => simp [D.eqvs]
    | cons y ys =>
      rw [List.map_cons, List.map_cons, D.eqvs, ih]
      simp only [dI, D.eqv]
      by_cases q : x = y
      · subst q; simp
      · simp [q]
theorem eq_rows {h : Heap} {a b : Nat} {xs ys : List Int} (e : h.get a = some (.lst (xs.map Val.int))) (e2 : h.get b = some (.lst (ys.map Val.int))) : eqV h eqDepth (.ref a) (.ref b) = some (decide (xs = ys)) := by
  unfold eqV
  rw [show scal (.ref a) (.ref b) = false from rfl]
  have t : ∀ (c : Nat) (zs : List Int), h.get c = some (.lst (zs.map Val.int)) → toD h eqDepth (.ref c) = some (.lst (zs.map dI)) := by
    intro c zs e
    unfold eqDepth toD
    simp only [lstOf_ref e]
    rw [toDs_ints]
    rfl
  rw [t _ _ e, t _ _ e2]
  simp only [D.eqv, eqvs_ints]
  rfl
def iB (b : Bool) : Int := if b then 1 else 0
theorem map_iB (bs : List Bool) : bs.map bI = (bs.map iB).map Val.int := by rw [List.map_map]; rfl
theorem iB_inj {xs ys : List Bool} (e : xs.map iB = ys.map iB) : xs = ys := by
  refine List.map_inj_right (f := iB) ?_ |>.mp e
  intro a b q
  cases a <;> cases b <;> first | rfl | cases q
theorem eq_bits {h : Heap} {a b : Nat} {xs ys : List Bool} (e : h.get a = some (.lst (xs.map bI))) (e2 : h.get b = some (.lst (ys.map bI))) : eqV h eqDepth (.ref a) (.ref b) = some (decide (xs = ys)) := by
  rw [map_iB] at e e2
  rw [eq_rows e e2]
  congr 1
  by_cases q : xs = ys
  · subst q; simp
  · have : ¬ (xs.map iB = ys.map iB) := fun z => q (iB_inj z)
    simp [q, this]
theorem fn_is_right : TT.fn 209 = some c_is_right := rfl
theorem is_right_wp (n : Nat) (h : Heap) {ra rb : Nat} {row found d : List Bool} (e : h.get ra = some (.lst (row.map bI))) (e2 : h.get rb = some (.lst (found.map bI))) (hl : row.length < 8000) (hd : 1 ≤ d.length) (hd2 : d.length < 1000) {X : Nat → List Val → Heap → Prop} :
    (callAt TT (n + 3) 209 [.ref ra, .ref rb, .tup (d.map bI)] h).wp (fun v h' => v = .bl (decide (found = parB d row)) ∧ Ext h h') X := by
  refine call_wp fn_is_right rfl ?_
  unfold c_is_right
  rw [wp_cons]
  try simp only [wp_ok, wp_bad, wp_bind, wp_ite, wp_nx, wp_ret, wp_fbad, wp_st, retE_ret, retE_exc, opt_some, opt_none, tru_bl, slotQ_some, intV_int, blV_bl, refV_ref, tupV_tup, wp_loc, wp_cint, wp_cstr, wp_cbl, wp_cnon, wp_cval, wp_bin, wp_neg, wp_nt, wp_cmp, wp_chain, wp_is, wp_and, wp_or, wp_ife, wp_fld, wp_ix, wp_sl, wp_tup, wp_lst, wp_dnew, wp_call, wp_mk, wp_make, wp_meth, wp_methK, wp_blt, wp_bm, wp_comp, wp_comp2, wp_pno, wp_pyes, wp_ono, wp_oyes, wp_esnil, wp_escons, wp_over, wp_range1, wp_range2, wp_range3, wp_enum, wp_rev, wp_nil, wp_ex, wp_set, wp_setf, wp_seti, wp_setTF, wp_sret, wp_retn, wp_pass, wp_brk, wp_cnt, wp_if, wp_for, wp_while, wp_binI, binI_add, binI_sub, binI_mul, binI_fdiv, binI_mod, binI_shr, binI_band, binI_bxor, binI_pow, cmp_lt, cmp_le, cmp_gt, cmp_ge, cmp_eqI, cmp_neI, cmp_eqS, cmp_neS, opt_ite, ite_and, List.getElem?_cons_zero, List.getElem?_cons_succ, List.set_cons_zero, List.set_cons_succ, List.length_cons, List.length_nil, List.append_nil, List.map_cons, List.map_nil, assignT, setSlots, List.cons_append, List.nil_append, Nat.reduceSub, Nat.reduceAdd, decide_eq_true_eq, if_true, if_false, Bool.false_eq_true, Bool.not_true, Bool.not_false, beq_true, beq_false, decide_true, decide_false, List.replicate_zero, List.replicate_succ, true_and, and_true]
  rw [list_ref e2]
  have x1 := Ext.push h (.lst (found.map bI))
  refine (parity_wp n _ (x1.2 _ _ e) hl hd hd2 (X := nox)).mono ?_ (fun _ _ _ q => q.elim)
  rintro v h2 ⟨r2, rfl, n2, g2, x2⟩
  have : cmpV .eq (.ref h.size) (.ref r2) h2 = some (decide (found = parB d row)) := eq_bits (x2.2 _ _ (Heap.get_new _ _)) g2
  rw [this]
  exact ⟨rfl, x1.trans x2⟩
end M
end

section
set_option linter.all false
set_option Elab.async false
set_option maxRecDepth 4000
set_option pp.maxSteps 700
/-! P7: blocks. -/
namespace M
def plc (k : Nat) : Nat := 2 * (49 * k % 57) + k % 8 / 4
theorem plc_lt (k : Nat) : plc k < 114 := by unfold plc; omega
theorem fn_place_of : TT.fn 228 = some c_place_of := rfl
theorem place_of_wp (n : Nat) (h : Heap) (k : Nat) {X : Nat → List Val → Heap → Prop} : (callAt TT (n + 1) 228 [.int (k : Nat)] h).wp (fun v h' => v = .int (plc k : Nat) ∧ h' = h) X := by
  refine call_wp fn_place_of rfl ?_
  unfold c_place_of
  rw [wp_cons]
  try simp only [wp_ok, wp_bad, wp_bind, wp_ite, wp_nx, wp_ret, wp_fbad, wp_st, retE_ret, retE_exc, opt_some, opt_none, tru_bl, slotQ_some, intV_int, blV_bl, refV_ref, tupV_tup, wp_loc, wp_cint, wp_cstr, wp_cbl, wp_cnon, wp_cval, wp_bin, wp_neg, wp_nt, wp_cmp, wp_chain, wp_is, wp_and, wp_or, wp_ife, wp_fld, wp_ix, wp_sl, wp_tup, wp_lst, wp_dnew, wp_call, wp_mk, wp_make, wp_meth, wp_methK, wp_blt, wp_bm, wp_comp, wp_comp2, wp_pno, wp_pyes, wp_ono, wp_oyes, wp_esnil, wp_escons, wp_over, wp_range1, wp_range2, wp_range3, wp_enum, wp_rev, wp_nil, wp_ex, wp_set, wp_setf, wp_seti, wp_setTF, wp_sret, wp_retn, wp_pass, wp_brk, wp_cnt, wp_if, wp_for, wp_while, wp_binI, binI_add, binI_sub, binI_mul, binI_fdiv, binI_mod, binI_shr, binI_band, binI_bxor, binI_pow, cmp_lt, cmp_le, cmp_gt, cmp_ge, cmp_eqI, cmp_neI, cmp_eqS, cmp_neS, opt_ite, ite_and, List.getElem?_cons_zero, List.getElem?_cons_succ, List.set_cons_zero, List.set_cons_succ, List.length_cons, List.length_nil, List.append_nil, List.map_cons, List.map_nil, assignT, setSlots, List.cons_append, List.nil_append, Nat.reduceSub, Nat.reduceAdd, decide_eq_true_eq, if_true, if_false, Bool.false_eq_true, Bool.not_true, Bool.not_false, beq_true, beq_false, decide_true, decide_false, List.replicate_zero, List.replicate_succ, true_and, and_true]
  refine ⟨small_ok rfl, by decide, small_ok rfl, by decide, by decide, ?_⟩
  congr 1
def bdiv : List Bool := [1, 0, 0, 0, 0, 0, 0, 0, 0, 0, 0, 0, 0, 0, 1, 0, 0, 1, 0, 0, 0, 0, 0, 1, 0, 0, 0, 0, 0, 0, 0, 0, 0, 0, 0, 0, 0, 1, 0, 0, 1].map (· == 1)
/-- four bursts -/
structure B4 (h : Heap) (rb : Nat) (rs : Nat → Nat) (Bs : Nat → List Bool) : Prop where
  out : h.get rb = some (.lst [.ref (rs 0), .ref (rs 1), .ref (rs 2), .ref (rs 3)])
  inj : ∀ i < 4, ∀ j < 4, rs i = rs j → i = j
  ne : ∀ i < 4, rs i ≠ rb
  row : ∀ i < 4, h.get (rs i) = some (.lst ((Bs i).map bI))
  len : ∀ i < 4, (Bs i).length = 114
theorem B4.ext {h h' : Heap} {rb : Nat} {rs : Nat → Nat} {Bs : Nat → List Bool} (b : B4 h rb rs Bs) (x : Ext h h') : B4 h' rb rs Bs :=
  ⟨x.2 _ _ b.out, b.inj, b.ne, fun i hi => x.2 _ _ (b.row i hi), b.len⟩
theorem B4.ix {h : Heap} {rb : Nat} {rs : Nat → Nat} {Bs : Nat → List Bool} (b : B4 h rb rs Bs) {i : Nat} (hi : i < 4) : ixV h (.ref rb) (.int (i : Nat)) = some (.ref (rs i)) := by
  rw [ix_lst b.out (by simpa using hi)]
  have : i = 0 ∨ i = 1 ∨ i = 2 ∨ i = 3 := by omega
  rcases this with rfl | rfl | rfl | rfl <;> rfl
def upB (Bs : Nat → List Bool) (i p : Nat) (b : Bool) : Nat → List Bool := fun j => if j = i then (Bs i).set p b else Bs j
theorem B4.set {h : Heap} {rb : Nat} {rs : Nat → Nat} {Bs : Nat → List Bool} (b : B4 h rb rs Bs) {i p : Nat} (hi : i < 4) (c : Bool) : B4 (h.set (rs i) (.lst (((Bs i).set p c).map bI))) rb rs (upB Bs i p c) := by
  refine ⟨?_, b.inj, b.ne, fun j hj => ?_, fun j hj => ?_⟩
  · rw [Heap.get_set_ne _ _ (b.ne i hi).symm]; exact b.out
  · unfold upB
    by_cases q : j = i
    · subst q
      simp only [if_true]
      exact Heap.get_set_eq _ (b.row j hj)
    · simp only [q, if_false]
      rw [Heap.get_set_ne _ _ (fun z => q (b.inj j hj i hi z))]
      exact b.row j hj
  · unfold upB
    by_cases q : j = i
    · simp only [q, if_true, List.length_set]; exact b.len i hi
    · simp only [q, if_false]; exact b.len j hj
def gat (Bs : Nat → List Bool) (k : Nat) : Bool := gB (Bs (k % 4)) (plc k)
theorem plc_inj : ∀ i < 456, ∀ j < 456, i % 4 = j % 4 → plc i = plc j → i = j := by
  intro i hi j hj h4 hp
  unfold plc at hp
  have h1 : 49 * i % 57 = 49 * j % 57 := by omega
  have h2 : i % 8 / 4 = j % 8 / 4 := by omega
  omega
theorem gB_set {xs : List Bool} {p q : Nat} {b : Bool} (hp : p < xs.length) : gB (xs.set p b) q = if q = p then b else gB xs q := by
  unfold gB
  rw [List.getD_eq_getElem?_getD, List.getD_eq_getElem?_getD, List.getElem?_set]
  by_cases e : p = q
  · subst e; simp [hp]
  · rw [if_neg e, if_neg (Ne.symm e)]
theorem gat_up {Bs : Nat → List Bool} (hl : ∀ i < 4, (Bs i).length = 114) {i j : Nat} (hi : i < 456) (hj : j < 456) (b : Bool) : gat (upB Bs (i % 4) (plc i) b) j = if j = i then b else gat Bs j := by
  unfold gat upB
  by_cases q : j % 4 = i % 4
  · rw [if_pos q, gB_set (by rw [hl _ (by omega)]; exact plc_lt i)]
    by_cases e : j = i
    · rw [if_pos e, if_pos (by rw [e])]
    · rw [if_neg e, if_neg (fun z => e (plc_inj j hj i hi q z)), q]
  · rw [if_neg q, if_neg (fun e => q (by rw [e]))]
/-- the bits of a block, ahead of the code -/
def ublk (os : List Nat) : List Bool := obits os ++ parB bdiv (obits os) ++ [false, false, false, false]
def cblk (os : List Nat) : List Bool := conv 0 (ublk os)
theorem ublk_length {os : List Nat} (h : os.length = 23) : (ublk os).length = 228 := by
  unfold ublk
  rw [List.length_append, List.length_append, parB_length, obits_length, h]
  rfl
theorem cblk_length {os : List Nat} (h : os.length = 23) : (cblk os).length = 456 := by
  unfold cblk
  rw [conv_length, ublk_length h]
def zrow : List Bool := List.replicate 114 false
theorem zrow_len : zrow.length = 114 := List.length_replicate
theorem fn_code_block : TT.fn 195 = some c_code_block := rfl
theorem bdiv_val : (Val.tup (bdiv.map bI)) = (.tup [(.int 1), (.int 0), (.int 0), (.int 0), (.int 0), (.int 0), (.int 0), (.int 0), (.int 0), (.int 0), (.int 0), (.int 0), (.int 0), (.int 0), (.int 1), (.int 0), (.int 0), (.int 1), (.int 0), (.int 0), (.int 0), (.int 0), (.int 0), (.int 1), (.int 0), (.int 0), (.int 0), (.int 0), (.int 0), (.int 0), (.int 0), (.int 0), (.int 0), (.int 0), (.int 0), (.int 0), (.int 0), (.int 1), (.int 0), (.int 0), (.int 1)]) := (rfl)
theorem code_block_wp (n : Nat) (h : Heap) {os : List Nat} (hl : os.length = 23) {X : Nat → List Val → Heap → Prop} :
    (callAt TT (n + 4) 195 [.tup (os.map nI)] h).wp (fun v h' => ∃ rb rs Bs, v = .ref rb ∧ h.get rb = none ∧ (∀ i < 4, h.get (rs i) = none) ∧ B4 h' rb rs Bs ∧ (∀ k < 456, gat Bs k = gB (cblk os) k) ∧ Ext h h') X := by
  refine call_wp fn_code_block rfl ?_
  unfold c_code_block
  rw [wp_cons]
  try simp only [wp_ok, wp_bad, wp_bind, wp_ite, wp_nx, wp_ret, wp_fbad, wp_st, retE_ret, retE_exc, opt_some, opt_none, tru_bl, slotQ_some, intV_int, blV_bl, refV_ref, tupV_tup, wp_loc, wp_cint, wp_cstr, wp_cbl, wp_cnon, wp_cval, wp_bin, wp_neg, wp_nt, wp_cmp, wp_chain, wp_is, wp_and, wp_or, wp_ife, wp_fld, wp_ix, wp_sl, wp_tup, wp_lst, wp_dnew, wp_call, wp_mk, wp_make, wp_meth, wp_methK, wp_blt, wp_bm, wp_comp, wp_comp2, wp_pno, wp_pyes, wp_ono, wp_oyes, wp_esnil, wp_escons, wp_over, wp_range1, wp_range2, wp_range3, wp_enum, wp_rev, wp_nil, wp_ex, wp_set, wp_setf, wp_seti, wp_setTF, wp_sret, wp_retn, wp_pass, wp_brk, wp_cnt, wp_if, wp_for, wp_while, wp_binI, binI_add, binI_sub, binI_mul, binI_fdiv, binI_mod, binI_shr, binI_band, binI_bxor, binI_pow, cmp_lt, cmp_le, cmp_gt, cmp_ge, cmp_eqI, cmp_neI, cmp_eqS, cmp_neS, opt_ite, ite_and, List.getElem?_cons_zero, List.getElem?_cons_succ, List.set_cons_zero, List.set_cons_succ, List.length_cons, List.length_nil, List.append_nil, List.map_cons, List.map_nil, assignT, setSlots, List.cons_append, List.nil_append, Nat.reduceSub, Nat.reduceAdd, decide_eq_true_eq, if_true, if_false, Bool.false_eq_true, Bool.not_true, Bool.not_false, beq_true, beq_false, decide_true, decide_false, List.replicate_zero, List.replicate_succ, true_and, and_true]
  refine (octet_bits_wp (n + 2) h (by omega) (X := nox)).mono ?_ (fun _ _ _ q => q.elim)
  rintro v h1 ⟨r1, rfl, n1, g1, x1⟩
  rw [wp_cons]
  simp only [← bdiv_val, wp_ok, wp_bad, wp_bind, wp_ite, wp_nx, wp_ret, wp_fbad, wp_st, retE_ret, retE_exc, opt_some, opt_none, tru_bl, slotQ_some, intV_int, blV_bl, refV_ref, tupV_tup, wp_loc, wp_cint, wp_cstr, wp_cbl, wp_cnon, wp_cval, wp_bin, wp_neg, wp_nt, wp_cmp, wp_chain, wp_is, wp_and, wp_or, wp_ife, wp_fld, wp_ix, wp_sl, wp_tup, wp_lst, wp_dnew, wp_call, wp_mk, wp_make, wp_meth, wp_methK, wp_blt, wp_bm, wp_comp, wp_comp2, wp_pno, wp_pyes, wp_ono, wp_oyes, wp_esnil, wp_escons, wp_over, wp_range1, wp_range2, wp_range3, wp_enum, wp_rev, wp_nil, wp_ex, wp_set, wp_setf, wp_seti, wp_setTF, wp_sret, wp_retn, wp_pass, wp_brk, wp_cnt, wp_if, wp_for, wp_while, wp_binI, binI_add, binI_sub, binI_mul, binI_fdiv, binI_mod, binI_shr, binI_band, binI_bxor, binI_pow, cmp_lt, cmp_le, cmp_gt, cmp_ge, cmp_eqI, cmp_neI, cmp_eqS, cmp_neS, opt_ite, ite_and, List.getElem?_cons_zero, List.getElem?_cons_succ, List.set_cons_zero, List.set_cons_succ, List.length_cons, List.length_nil, List.append_nil, List.map_cons, List.map_nil, assignT, setSlots, List.cons_append, List.nil_append, Nat.reduceSub, Nat.reduceAdd, decide_eq_true_eq, if_true, if_false, Bool.false_eq_true, Bool.not_true, Bool.not_false, beq_true, beq_false, decide_true, decide_false, List.replicate_zero, List.replicate_succ, true_and, and_true]
  refine (parity_wp (n + 1) h1 g1 (by rw [obits_length]; omega) (by decide) (by decide) (X := nox)).mono ?_ (fun _ _ _ q => q.elim)
  rintro v h2 ⟨r2, rfl, n2, g2, x2⟩
  rw [add_lst (x2.2 _ _ g1) g2]
  refine ⟨size_ok ?_, ?_⟩
  · rw [List.length_map, List.length_map, parB_length, obits_length]
    have : bdiv.length = 41 := by decide
    omega
  refine ⟨size_ok (by decide), ?_⟩
  rw [add_lst ((Ext.push _ _).2 _ _ (Heap.get_new _ _)) (Heap.get_new _ _)]
  refine ⟨size_ok ?_, ?_⟩
  · simp only [List.length_append, List.length_map, parB_length, obits_length, List.length_cons, List.length_nil]
    have : bdiv.length = 41 := by decide
    omega
  have hu : (obits os).map bI ++ (parB bdiv (obits os)).map bI ++ [Val.int 0, .int 0, .int 0, .int 0] = (ublk os).map bI := by
    unfold ublk
    rw [List.map_append, List.map_append]
    rfl
  rw [hu]
  refine (convolve_wp (n + 1) _ (Heap.get_new _ _) (by rw [ublk_length hl]; omega) (X := nox)).mono ?_ (fun _ _ _ q => q.elim)
  rintro v h3 ⟨r3, rfl, n3, g3, x3⟩
  have x03 : Ext h h3 := (((x1.trans x2).tpush _).tpush _).tpush _ |>.trans x3
  have g3 : h3.get r3 = some (.lst ((cblk os).map bI)) := g3
  rw [wp_cons]
  simp only [wipeT, wp_ok, wp_bad, wp_bind, wp_ite, wp_nx, wp_ret, wp_fbad, wp_st, retE_ret, retE_exc, opt_some, opt_none, tru_bl, slotQ_some, intV_int, blV_bl, refV_ref, tupV_tup, wp_loc, wp_cint, wp_cstr, wp_cbl, wp_cnon, wp_cval, wp_bin, wp_neg, wp_nt, wp_cmp, wp_chain, wp_is, wp_and, wp_or, wp_ife, wp_fld, wp_ix, wp_sl, wp_tup, wp_lst, wp_dnew, wp_call, wp_mk, wp_make, wp_meth, wp_methK, wp_blt, wp_bm, wp_comp, wp_comp2, wp_pno, wp_pyes, wp_ono, wp_oyes, wp_esnil, wp_escons, wp_over, wp_range1, wp_range2, wp_range3, wp_enum, wp_rev, wp_nil, wp_ex, wp_set, wp_setf, wp_seti, wp_setTF, wp_sret, wp_retn, wp_pass, wp_brk, wp_cnt, wp_if, wp_for, wp_while, wp_binI, binI_add, binI_sub, binI_mul, binI_fdiv, binI_mod, binI_shr, binI_band, binI_bxor, binI_pow, cmp_lt, cmp_le, cmp_gt, cmp_ge, cmp_eqI, cmp_neI, cmp_eqS, cmp_neS, opt_ite, ite_and, List.getElem?_cons_zero, List.getElem?_cons_succ, List.set_cons_zero, List.set_cons_succ, List.length_cons, List.length_nil, List.append_nil, List.map_cons, List.map_nil, assignT, setSlots, List.cons_append, List.nil_append, Nat.reduceSub, Nat.reduceAdd, decide_eq_true_eq, if_true, if_false, Bool.false_eq_true, Bool.not_true, Bool.not_false, beq_true, beq_false, decide_true, decide_false, List.replicate_zero, List.replicate_succ, true_and, and_true]
  rw [show in62 4 = true from rfl, show (4 : Int).toNat = 4 from rfl]
  refine ⟨rfl, ?_⟩
  refine comp_inv (fun k acc h' => acc = (List.range k).map (fun i => .ref (h3.size + 2 * i + 1)) ∧ (∀ i < k, h'.get (h3.size + 2 * i + 1) = some (.lst (zrow.map bI))) ∧ h'.size = h3.size + 2 * k ∧ Ext h3 h') (fun _ _ _ _ _ => rfl) ?_ ?_ ⟨rfl, fun i hi => absurd hi (by omega), rfl, Ext.refl _⟩
  · rintro k hk acc h' ⟨ha, hr, hs, hx⟩
    rw [rangeL_get]
    refine ⟨_, rfl, ?_⟩
    try simp only [wp_ok, wp_bad, wp_bind, wp_ite, wp_nx, wp_ret, wp_fbad, wp_st, retE_ret, retE_exc, opt_some, opt_none, tru_bl, slotQ_some, intV_int, blV_bl, refV_ref, tupV_tup, wp_loc, wp_cint, wp_cstr, wp_cbl, wp_cnon, wp_cval, wp_bin, wp_neg, wp_nt, wp_cmp, wp_chain, wp_is, wp_and, wp_or, wp_ife, wp_fld, wp_ix, wp_sl, wp_tup, wp_lst, wp_dnew, wp_call, wp_mk, wp_make, wp_meth, wp_methK, wp_blt, wp_bm, wp_comp, wp_comp2, wp_pno, wp_pyes, wp_ono, wp_oyes, wp_esnil, wp_escons, wp_over, wp_range1, wp_range2, wp_range3, wp_enum, wp_rev, wp_nil, wp_ex, wp_set, wp_setf, wp_seti, wp_setTF, wp_sret, wp_retn, wp_pass, wp_brk, wp_cnt, wp_if, wp_for, wp_while, wp_binI, binI_add, binI_sub, binI_mul, binI_fdiv, binI_mod, binI_shr, binI_band, binI_bxor, binI_pow, cmp_lt, cmp_le, cmp_gt, cmp_ge, cmp_eqI, cmp_neI, cmp_eqS, cmp_neS, opt_ite, ite_and, List.getElem?_cons_zero, List.getElem?_cons_succ, List.set_cons_zero, List.set_cons_succ, List.length_cons, List.length_nil, List.append_nil, List.map_cons, List.map_nil, assignT, setSlots, List.cons_append, List.nil_append, Nat.reduceSub, Nat.reduceAdd, decide_eq_true_eq, if_true, if_false, Bool.false_eq_true, Bool.not_true, Bool.not_false, beq_true, beq_false, decide_true, decide_false, List.replicate_zero, List.replicate_succ, true_and, and_true]
    refine ⟨one_le, ?_⟩
    rw [mul_lst (Heap.get_new _ _), rep_one]
    refine ⟨⟨size_ok (by decide), rfl⟩, ?_, ?_, ?_, (hx.tpush _).tpush _⟩
    · rw [List.range_succ, List.map_append, ha, Heap.size_push, hs]
      rfl
    · intro i hi
      by_cases q : i = k
      · subst q
        rw [show h3.size + 2 * i + 1 = (h'.push (.lst [.int 0])).size by rw [Heap.size_push, hs], Heap.get_new]
        rfl
      · exact ((Ext.push h' _).tpush _).2 _ _ (hr i (by omega))
    · rw [Heap.size_push, Heap.size_push, hs]; omega
  rintro acc h4 ⟨ha, hr, hs, hx⟩
  rw [rangeL_length] at ha hr hs
  refine ⟨size_ok (by rw [ha, List.length_map, List.length_range]; omega), ?_⟩
  have b0 : B4 (h4.push (.lst acc)) h4.size (fun i => h3.size + 2 * i + 1) (fun _ => zrow) := by
    refine ⟨?_, fun i hi j hj e => ?_, fun i hi e => ?_, fun i hi => (Ext.push _ _).2 _ _ (hr i hi), fun i hi => zrow_len⟩
    · rw [Heap.get_new, ha]; rfl
    · have e : h3.size + 2 * i + 1 = h3.size + 2 * j + 1 := e
      omega
    · have e : h3.size + 2 * i + 1 = h4.size := e
      omega
  have x4 : Ext h3 (h4.push (.lst acc)) := hx.tpush _
  rw [wp_cons]
  try simp only [wp_ok, wp_bad, wp_bind, wp_ite, wp_nx, wp_ret, wp_fbad, wp_st, retE_ret, retE_exc, opt_some, opt_none, tru_bl, slotQ_some, intV_int, blV_bl, refV_ref, tupV_tup, wp_loc, wp_cint, wp_cstr, wp_cbl, wp_cnon, wp_cval, wp_bin, wp_neg, wp_nt, wp_cmp, wp_chain, wp_is, wp_and, wp_or, wp_ife, wp_fld, wp_ix, wp_sl, wp_tup, wp_lst, wp_dnew, wp_call, wp_mk, wp_make, wp_meth, wp_methK, wp_blt, wp_bm, wp_comp, wp_comp2, wp_pno, wp_pyes, wp_ono, wp_oyes, wp_esnil, wp_escons, wp_over, wp_range1, wp_range2, wp_range3, wp_enum, wp_rev, wp_nil, wp_ex, wp_set, wp_setf, wp_seti, wp_setTF, wp_sret, wp_retn, wp_pass, wp_brk, wp_cnt, wp_if, wp_for, wp_while, wp_binI, binI_add, binI_sub, binI_mul, binI_fdiv, binI_mod, binI_shr, binI_band, binI_bxor, binI_pow, cmp_lt, cmp_le, cmp_gt, cmp_ge, cmp_eqI, cmp_neI, cmp_eqS, cmp_neS, opt_ite, ite_and, List.getElem?_cons_zero, List.getElem?_cons_succ, List.set_cons_zero, List.set_cons_succ, List.length_cons, List.length_nil, List.append_nil, List.map_cons, List.map_nil, assignT, setSlots, List.cons_append, List.nil_append, Nat.reduceSub, Nat.reduceAdd, decide_eq_true_eq, if_true, if_false, Bool.false_eq_true, Bool.not_true, Bool.not_false, beq_true, beq_false, decide_true, decide_false, List.replicate_zero, List.replicate_succ, true_and, and_true]
  rw [show in62 456 = true from rfl, show (456 : Int).toNat = 456 from rfl]
  refine ⟨rfl, ?_⟩
  generalize hrs : (fun i => h3.size + 2 * i + 1) = rs at b0
  have hnr : ∀ i < 4, h3.get (rs i) = none := fun i hi => by rw [← hrs]; exact Heap.get_ge (show h3.size ≤ h3.size + 2 * i + 1 by omega)
  have hnb : h3.get h4.size = none := Heap.get_ge (by omega)
  generalize h4.size = rb at b0 hnb
  refine for_range (fun k σ h' => ∃ Bs a b, σ = [some (.tup (os.map nI)), some (.ref r1), some (.ref r3), some (.ref rb), a, b, none] ∧ B4 h' rb rs Bs ∧ (∀ j < k, gat Bs j = gB (cblk os) j) ∧ Ext h3 h') ?_ ?_ ?_
  · rintro k hk σ h' ⟨Bs, a, b, rfl, hb, hg, hx⟩
    rw [wp_cons]
    try simp only [wp_ok, wp_bad, wp_bind, wp_ite, wp_nx, wp_ret, wp_fbad, wp_st, retE_ret, retE_exc, opt_some, opt_none, tru_bl, slotQ_some, intV_int, blV_bl, refV_ref, tupV_tup, wp_loc, wp_cint, wp_cstr, wp_cbl, wp_cnon, wp_cval, wp_bin, wp_neg, wp_nt, wp_cmp, wp_chain, wp_is, wp_and, wp_or, wp_ife, wp_fld, wp_ix, wp_sl, wp_tup, wp_lst, wp_dnew, wp_call, wp_mk, wp_make, wp_meth, wp_methK, wp_blt, wp_bm, wp_comp, wp_comp2, wp_pno, wp_pyes, wp_ono, wp_oyes, wp_esnil, wp_escons, wp_over, wp_range1, wp_range2, wp_range3, wp_enum, wp_rev, wp_nil, wp_ex, wp_set, wp_setf, wp_seti, wp_setTF, wp_sret, wp_retn, wp_pass, wp_brk, wp_cnt, wp_if, wp_for, wp_while, wp_binI, binI_add, binI_sub, binI_mul, binI_fdiv, binI_mod, binI_shr, binI_band, binI_bxor, binI_pow, cmp_lt, cmp_le, cmp_gt, cmp_ge, cmp_eqI, cmp_neI, cmp_eqS, cmp_neS, opt_ite, ite_and, List.getElem?_cons_zero, List.getElem?_cons_succ, List.set_cons_zero, List.set_cons_succ, List.length_cons, List.length_nil, List.append_nil, List.map_cons, List.map_nil, assignT, setSlots, List.cons_append, List.nil_append, Nat.reduceSub, Nat.reduceAdd, decide_eq_true_eq, if_true, if_false, Bool.false_eq_true, Bool.not_true, Bool.not_false, beq_true, beq_false, decide_true, decide_false, List.replicate_zero, List.replicate_succ, true_and, and_true]
    rw [show ((k : Int) % 4) = ((k % 4 : Nat) : Int) by omega, hb.ix (by omega)]
    try simp only [wp_ok, wp_bad, wp_bind, wp_ite, wp_nx, wp_ret, wp_fbad, wp_st, retE_ret, retE_exc, opt_some, opt_none, tru_bl, slotQ_some, intV_int, blV_bl, refV_ref, tupV_tup, wp_loc, wp_cint, wp_cstr, wp_cbl, wp_cnon, wp_cval, wp_bin, wp_neg, wp_nt, wp_cmp, wp_chain, wp_is, wp_and, wp_or, wp_ife, wp_fld, wp_ix, wp_sl, wp_tup, wp_lst, wp_dnew, wp_call, wp_mk, wp_make, wp_meth, wp_methK, wp_blt, wp_bm, wp_comp, wp_comp2, wp_pno, wp_pyes, wp_ono, wp_oyes, wp_esnil, wp_escons, wp_over, wp_range1, wp_range2, wp_range3, wp_enum, wp_rev, wp_nil, wp_ex, wp_set, wp_setf, wp_seti, wp_setTF, wp_sret, wp_retn, wp_pass, wp_brk, wp_cnt, wp_if, wp_for, wp_while, wp_binI, binI_add, binI_sub, binI_mul, binI_fdiv, binI_mod, binI_shr, binI_band, binI_bxor, binI_pow, cmp_lt, cmp_le, cmp_gt, cmp_ge, cmp_eqI, cmp_neI, cmp_eqS, cmp_neS, opt_ite, ite_and, List.getElem?_cons_zero, List.getElem?_cons_succ, List.set_cons_zero, List.set_cons_succ, List.length_cons, List.length_nil, List.append_nil, List.map_cons, List.map_nil, assignT, setSlots, List.cons_append, List.nil_append, Nat.reduceSub, Nat.reduceAdd, decide_eq_true_eq, if_true, if_false, Bool.false_eq_true, Bool.not_true, Bool.not_false, beq_true, beq_false, decide_true, decide_false, List.replicate_zero, List.replicate_succ, true_and, and_true]
    refine ⟨by decide, ?_⟩
    rw [wp_cons]
    try simp only [wp_ok, wp_bad, wp_bind, wp_ite, wp_nx, wp_ret, wp_fbad, wp_st, retE_ret, retE_exc, opt_some, opt_none, tru_bl, slotQ_some, intV_int, blV_bl, refV_ref, tupV_tup, wp_loc, wp_cint, wp_cstr, wp_cbl, wp_cnon, wp_cval, wp_bin, wp_neg, wp_nt, wp_cmp, wp_chain, wp_is, wp_and, wp_or, wp_ife, wp_fld, wp_ix, wp_sl, wp_tup, wp_lst, wp_dnew, wp_call, wp_mk, wp_make, wp_meth, wp_methK, wp_blt, wp_bm, wp_comp, wp_comp2, wp_pno, wp_pyes, wp_ono, wp_oyes, wp_esnil, wp_escons, wp_over, wp_range1, wp_range2, wp_range3, wp_enum, wp_rev, wp_nil, wp_ex, wp_set, wp_setf, wp_seti, wp_setTF, wp_sret, wp_retn, wp_pass, wp_brk, wp_cnt, wp_if, wp_for, wp_while, wp_binI, binI_add, binI_sub, binI_mul, binI_fdiv, binI_mod, binI_shr, binI_band, binI_bxor, binI_pow, cmp_lt, cmp_le, cmp_gt, cmp_ge, cmp_eqI, cmp_neI, cmp_eqS, cmp_neS, opt_ite, ite_and, List.getElem?_cons_zero, List.getElem?_cons_succ, List.set_cons_zero, List.set_cons_succ, List.length_cons, List.length_nil, List.append_nil, List.map_cons, List.map_nil, assignT, setSlots, List.cons_append, List.nil_append, Nat.reduceSub, Nat.reduceAdd, decide_eq_true_eq, if_true, if_false, Bool.false_eq_true, Bool.not_true, Bool.not_false, beq_true, beq_false, decide_true, decide_false, List.replicate_zero, List.replicate_succ, true_and, and_true]
    have hlk : k < (cblk os).length := by rw [cblk_length hl]; exact hk
    rw [ix_lst (hx.2 _ _ g3) (by rw [List.length_map]; exact hlk), List.getElem_map, gB_eq]
    try simp only [wp_ok, wp_bad, wp_bind, wp_ite, wp_nx, wp_ret, wp_fbad, wp_st, retE_ret, retE_exc, opt_some, opt_none, tru_bl, slotQ_some, intV_int, blV_bl, refV_ref, tupV_tup, wp_loc, wp_cint, wp_cstr, wp_cbl, wp_cnon, wp_cval, wp_bin, wp_neg, wp_nt, wp_cmp, wp_chain, wp_is, wp_and, wp_or, wp_ife, wp_fld, wp_ix, wp_sl, wp_tup, wp_lst, wp_dnew, wp_call, wp_mk, wp_make, wp_meth, wp_methK, wp_blt, wp_bm, wp_comp, wp_comp2, wp_pno, wp_pyes, wp_ono, wp_oyes, wp_esnil, wp_escons, wp_over, wp_range1, wp_range2, wp_range3, wp_enum, wp_rev, wp_nil, wp_ex, wp_set, wp_setf, wp_seti, wp_setTF, wp_sret, wp_retn, wp_pass, wp_brk, wp_cnt, wp_if, wp_for, wp_while, wp_binI, binI_add, binI_sub, binI_mul, binI_fdiv, binI_mod, binI_shr, binI_band, binI_bxor, binI_pow, cmp_lt, cmp_le, cmp_gt, cmp_ge, cmp_eqI, cmp_neI, cmp_eqS, cmp_neS, opt_ite, ite_and, List.getElem?_cons_zero, List.getElem?_cons_succ, List.set_cons_zero, List.set_cons_succ, List.length_cons, List.length_nil, List.append_nil, List.map_cons, List.map_nil, assignT, setSlots, List.cons_append, List.nil_append, Nat.reduceSub, Nat.reduceAdd, decide_eq_true_eq, if_true, if_false, Bool.false_eq_true, Bool.not_true, Bool.not_false, beq_true, beq_false, decide_true, decide_false, List.replicate_zero, List.replicate_succ, true_and, and_true]
    refine (place_of_wp (n + 2) h' k (X := nox)).mono ?_ (fun _ _ _ q => q.elim)
    rintro v h'' ⟨rfl, rfl⟩
    have hk4 : k % 4 < 4 := by omega
    rw [set_lst (hb.row _ hk4) (by rw [List.length_map, hb.len _ hk4]; exact plc_lt k)]
    have hs : ((Bs (k % 4)).map bI).set (plc k) (bI (gB (cblk os) k)) = ((Bs (k % 4)).set (plc k) (gB (cblk os) k)).map bI := by rw [List.map_set]
    rw [hs]
    refine ⟨_, _, _, rfl, hb.set hk4 _, ?_, hx.set (hnr _ hk4) (Heap.get_lt (hb.row _ hk4))⟩
    intro j hj
    rw [gat_up hb.len hk (by omega)]
    by_cases q : j = k
    · rw [if_pos q, q]
    · rw [if_neg q]; exact hg j (by omega)
  · rintro σ h' ⟨Bs, a, b, rfl, hb, hg, hx⟩
    rw [wp_cons]
    try simp only [wp_ok, wp_bad, wp_bind, wp_ite, wp_nx, wp_ret, wp_fbad, wp_st, retE_ret, retE_exc, opt_some, opt_none, tru_bl, slotQ_some, intV_int, blV_bl, refV_ref, tupV_tup, wp_loc, wp_cint, wp_cstr, wp_cbl, wp_cnon, wp_cval, wp_bin, wp_neg, wp_nt, wp_cmp, wp_chain, wp_is, wp_and, wp_or, wp_ife, wp_fld, wp_ix, wp_sl, wp_tup, wp_lst, wp_dnew, wp_call, wp_mk, wp_make, wp_meth, wp_methK, wp_blt, wp_bm, wp_comp, wp_comp2, wp_pno, wp_pyes, wp_ono, wp_oyes, wp_esnil, wp_escons, wp_over, wp_range1, wp_range2, wp_range3, wp_enum, wp_rev, wp_nil, wp_ex, wp_set, wp_setf, wp_seti, wp_setTF, wp_sret, wp_retn, wp_pass, wp_brk, wp_cnt, wp_if, wp_for, wp_while, wp_binI, binI_add, binI_sub, binI_mul, binI_fdiv, binI_mod, binI_shr, binI_band, binI_bxor, binI_pow, cmp_lt, cmp_le, cmp_gt, cmp_ge, cmp_eqI, cmp_neI, cmp_eqS, cmp_neS, opt_ite, ite_and, List.getElem?_cons_zero, List.getElem?_cons_succ, List.set_cons_zero, List.set_cons_succ, List.length_cons, List.length_nil, List.append_nil, List.map_cons, List.map_nil, assignT, setSlots, List.cons_append, List.nil_append, Nat.reduceSub, Nat.reduceAdd, decide_eq_true_eq, if_true, if_false, Bool.false_eq_true, Bool.not_true, Bool.not_false, beq_true, beq_false, decide_true, decide_false, List.replicate_zero, List.replicate_succ, true_and, and_true]
    exact ⟨rb, rs, Bs, rfl, x03.none hnb, fun i hi => x03.none (hnr i hi), hb, hg, x03.trans hx⟩
  · exact ⟨_, _, _, rfl, b0, fun j hj => absurd hj (by omega), x4⟩
end M
end

section
set_option linter.all false
set_option Elab.async false
set_option maxRecDepth 4000
set_option pp.maxSteps 700
/-! P8: the decoder finds a row with two flipped neighbours. -/
namespace M
/-! rows, the latest bit first -/
def stR : List Bool → Nat
  | [] => 0
  | b :: w => nxS (stR w) b
def numR : List Bool → Nat
  | [] => 0
  | b :: w => 2 * numR w + b.toNat
def cstR (cs : List Bool) : List Bool → Nat
  | [] => 0
  | b :: w => cstR cs w + xB (pairB (stR w) b).1 (gB cs (2 * w.length)) + xB (pairB (stR w) b).2 (gB cs (2 * w.length + 1))
def valR (count : Nat) : List Bool → Prop
  | [] => True
  | b :: w => valR count w ∧ (w.length + 4 < count ∨ b = false)
theorem stR_lt (w : List Bool) : stR w < 16 := by
  cases w with
  | nil => decide
  | cons b w => exact nxS_lt (stR_lt w)
def gO (F : List (Option (Nat × Nat))) (a : Nat) : Option (Nat × Nat) := (F[a]?).join
theorem gO_set {F : List (Option (Nat × Nat))} {a b : Nat} {v : Option (Nat × Nat)} (ha : a < F.length) : gO (F.set a v) b = if b = a then v else gO F b := by
  unfold gO
  rw [List.getElem?_set]
  by_cases e : a = b
  · subst e; simp [ha]
  · rw [if_neg e, if_neg (Ne.symm e)]
theorem gO_repl (a : Nat) : gO (List.replicate 16 none) a = none := by
  unfold gO
  rw [List.getElem?_replicate]
  split <;> rfl
def cj (paths : List (Option (Nat × Nat))) (p0 p1 : Bool) (j c : Nat) : Nat := c + xB (pairB (j / 2) (jb j)).1 p0 + xB (pairB (j / 2) (jb j)).2 p1
theorem advStep_eq {paths : List (Option (Nat × Nat))} {p0 p1 : Bool} {F : List (Option (Nat × Nat))} {j : Nat} : advStep paths p0 p1 F j = match gO paths (j / 2) with
    | some (c, p) => if better (cj paths p0 p1 j c) (2 * p + (jb j).toNat) (gO F (nxS (j / 2) (jb j))) then F.set (nxS (j / 2) (jb j)) (some (cj paths p0 p1 j c, 2 * p + (jb j).toNat)) else F
    | none => F := rfl
theorem step_sound {paths : List (Option (Nat × Nat))} {p0 p1 : Bool} {F : List (Option (Nat × Nat))} {j : Nat} (hj : j < 32) (hF : F.length = 16) {a c p : Nat} (h : gO (advStep paths p0 p1 F j) a = some (c, p)) :
    gO F a = some (c, p) ∨ ∃ c0 q, gO paths (j / 2) = some (c0, q) ∧ nxS (j / 2) (jb j) = a ∧ c = cj paths p0 p1 j c0 ∧ p = 2 * q + (jb j).toNat := by
  rw [advStep_eq] at h
  cases hp : gO paths (j / 2) with
  | none => rw [hp] at h; exact .inl h
  | some x =>
    obtain ⟨c0, q⟩ := x
    rw [hp] at h
    simp only at h
    split at h
    · rw [gO_set (by rw [hF]; exact nxS_lt (by omega))] at h
      split at h
      · rename_i e
        cases h
        exact .inr ⟨c0, q, rfl, e.symm, rfl, rfl⟩
      · exact .inl h
    · exact .inl h
theorem better_le {c p c' p' : Nat} (h : better c p (some (c', p')) = true) : c ≤ c' := by
  unfold better at h
  split at h
  · simp at *
  · rename_i e
    cases e
    split at h
    · omega
    · rename_i d b
      have := of_decide_eq_true h
      omega
theorem better_not {c p c' p' : Nat} (h : ¬ better c p (some (c', p')) = true) : c' ≤ c := by
  unfold better at h
  split at h
  · simp at *
  · rename_i e
    cases e
    split at h
    · omega
    · have : ¬ c < c' := fun z => h (decide_eq_true z)
      omega
theorem step_mono {paths : List (Option (Nat × Nat))} {p0 p1 : Bool} {F : List (Option (Nat × Nat))} {j : Nat} (hj : j < 32) (hF : F.length = 16) {a c p : Nat} (h : gO F a = some (c, p)) :
    ∃ c' p', gO (advStep paths p0 p1 F j) a = some (c', p') ∧ c' ≤ c := by
  rw [advStep_eq]
  cases hp : gO paths (j / 2) with
  | none => exact ⟨c, p, h, Nat.le_refl _⟩
  | some x =>
    obtain ⟨c0, q⟩ := x
    simp only
    split
    · rename_i hb
      rw [gO_set (by rw [hF]; exact nxS_lt (by omega))]
      split
      · rename_i e
        rw [← e, h] at hb
        exact ⟨_, _, rfl, better_le hb⟩
      · exact ⟨c, p, h, Nat.le_refl _⟩
    · exact ⟨c, p, h, Nat.le_refl _⟩
theorem step_new {paths : List (Option (Nat × Nat))} {p0 p1 : Bool} {F : List (Option (Nat × Nat))} {j : Nat} (hj : j < 32) (hF : F.length = 16) {c q : Nat} (h : gO paths (j / 2) = some (c, q)) :
    ∃ c' p', gO (advStep paths p0 p1 F j) (nxS (j / 2) (jb j)) = some (c', p') ∧ c' ≤ cj paths p0 p1 j c := by
  rw [advStep_eq, h]
  simp only
  split
  · rw [gO_set (by rw [hF]; exact nxS_lt (by omega)), if_pos rfl]
    exact ⟨_, _, rfl, Nat.le_refl _⟩
  · rename_i hb
    cases hg : gO F (nxS (j / 2) (jb j)) with
    | none => rw [hg] at hb; exact absurd rfl hb
    | some x =>
      obtain ⟨c', p'⟩ := x
      rw [hg] at hb
      exact ⟨c', p', rfl, better_not hb⟩
theorem fold_sound {paths : List (Option (Nat × Nat))} {p0 p1 : Bool} {js : List Nat} (hj : ∀ j ∈ js, j < 32) {F : List (Option (Nat × Nat))} (hF : F.length = 16) {a c p : Nat} (h : gO (js.foldl (advStep paths p0 p1) F) a = some (c, p)) :
    gO F a = some (c, p) ∨ ∃ j ∈ js, ∃ c0 q, gO paths (j / 2) = some (c0, q) ∧ nxS (j / 2) (jb j) = a ∧ c = cj paths p0 p1 j c0 ∧ p = 2 * q + (jb j).toNat := by
  induction js generalizing F with
  | nil => exact .inl h
  | cons j js ih =>
    rw [List.foldl_cons] at h
    rcases ih (fun i hi => hj i (List.mem_cons_of_mem _ hi)) (by rw [advStep_length, hF]) h with q | ⟨i, hi, q⟩
    · rcases step_sound (hj j List.mem_cons_self) hF q with q | q
      · exact .inl q
      · exact .inr ⟨j, List.mem_cons_self, q⟩
    · exact .inr ⟨i, List.mem_cons_of_mem _ hi, q⟩
theorem fold_mono {paths : List (Option (Nat × Nat))} {p0 p1 : Bool} {js : List Nat} (hj : ∀ j ∈ js, j < 32) {F : List (Option (Nat × Nat))} (hF : F.length = 16) {a c p : Nat} (h : gO F a = some (c, p)) :
    ∃ c' p', gO (js.foldl (advStep paths p0 p1) F) a = some (c', p') ∧ c' ≤ c := by
  induction js generalizing F c p with
  | nil => exact ⟨c, p, h, Nat.le_refl _⟩
  | cons j js ih =>
    obtain ⟨c1, p1', h1, l1⟩ := step_mono (paths := paths) (p0 := p0) (p1 := p1) (hj j List.mem_cons_self) hF h
    obtain ⟨c2, p2, h2, l2⟩ := ih (fun i hi => hj i (List.mem_cons_of_mem _ hi)) (by rw [advStep_length, hF]) h1
    exact ⟨c2, p2, h2, Nat.le_trans l2 l1⟩
theorem fold_new {paths : List (Option (Nat × Nat))} {p0 p1 : Bool} {js : List Nat} (hj : ∀ j ∈ js, j < 32) {F : List (Option (Nat × Nat))} (hF : F.length = 16) {j c q : Nat} (hm : j ∈ js) (h : gO paths (j / 2) = some (c, q)) :
    ∃ c' p', gO (js.foldl (advStep paths p0 p1) F) (nxS (j / 2) (jb j)) = some (c', p') ∧ c' ≤ cj paths p0 p1 j c := by
  induction js generalizing F with
  | nil => cases hm
  | cons i js ih =>
    rw [List.foldl_cons]
    rcases List.mem_cons.mp hm with e | e
    · subst e
      obtain ⟨c1, p1', h1, l1⟩ := step_new (p0 := p0) (p1 := p1) (hj j List.mem_cons_self) hF h
      obtain ⟨c2, p2, h2, l2⟩ := fold_mono (paths := paths) (p0 := p0) (p1 := p1) (fun i hi => hj i (List.mem_cons_of_mem _ hi)) (by rw [advStep_length, hF]) h1
      exact ⟨c2, p2, h2, Nat.le_trans l2 l1⟩
    · exact ih (fun i hi => hj i (List.mem_cons_of_mem _ hi)) (by rw [advStep_length, hF]) e
theorem rowsAt_lt {count k j : Nat} (h : j ∈ rowsAt count k) : j < 32 := by
  unfold rowsAt at h
  split at h
  · simpa using h
  · unfold zerosL at h
    rw [List.mem_filter] at h
    simpa using h.1
theorem rowsAt_mem {count k s : Nat} {b : Bool} (hs : s < 16) (h : k + 4 < count ∨ b = false) : 2 * s + b.toNat ∈ rowsAt count k := by
  unfold rowsAt
  split
  · have : b.toNat ≤ 1 := by cases b <;> decide
    rw [List.mem_range]; omega
  · rcases h with h | h
    · contradiction
    · subst h
      unfold zerosL
      rw [List.mem_filter, List.mem_range, decide_eq_true_eq]
      simp only [Bool.toNat_false]
      omega
theorem rowsAt_val {count k j : Nat} (h : j ∈ rowsAt count k) : k + 4 < count ∨ jb j = false := by
  unfold rowsAt at h
  split at h
  · exact .inl (by assumption)
  · unfold zerosL at h
    rw [List.mem_filter, decide_eq_true_eq] at h
    unfold jb
    exact .inr (decide_eq_false (by omega))
theorem jb_of {s : Nat} {b : Bool} : jb (2 * s + b.toNat) = b ∧ (2 * s + b.toNat) / 2 = s := by
  unfold jb
  cases b <;> simp <;> omega
/-- what stands at a state is a row's cost and number -/
theorem nearP_sound (cs : List Bool) (count : Nat) : ∀ k s c p, gO (nearP cs count k) s = some (c, p) → ∃ w : List Bool, w.length = k ∧ stR w = s ∧ numR w = p ∧ cstR cs w = c ∧ valR count w := by
  intro k
  induction k with
  | zero =>
    intro s c p h
    have e : nearP cs count 0 = (List.replicate 16 none).set 0 (some (0, 0)) := rfl
    rw [e, gO_set (by simp), gO_repl] at h
    split at h
    · rename_i q
      cases h
      exact ⟨[], rfl, q.symm, rfl, rfl, trivial⟩
    · cases h
  | succ k ih =>
    intro s c p h
    have e : nearP cs count (k + 1) = (rowsAt count k).foldl (advStep (nearP cs count k) (cs.getD (2 * k) false) (cs.getD (2 * k + 1) false)) (List.replicate 16 none) := rfl
    rw [e] at h
    rcases fold_sound (fun j hj => rowsAt_lt hj) (by simp) h with q | ⟨j, hj, c0, q, h1, h2, h3, h4⟩
    · rw [gO_repl] at q; cases q
    · obtain ⟨w, w1, w2, w3, w4, w5⟩ := ih _ _ _ h1
      refine ⟨jb j :: w, by rw [List.length_cons, w1], ?_, ?_, ?_, w5, ?_⟩
      · rw [stR, w2]; exact h2
      · rw [numR, w3, h4]
      · rw [cstR, w2, w4, w1, h3]; rfl
      · rw [w1]; exact rowsAt_val hj
/-- a row's cost bounds what stands at its state -/
theorem nearP_le (cs : List Bool) (count : Nat) : ∀ w : List Bool, valR count w → ∃ c p, gO (nearP cs count w.length) (stR w) = some (c, p) ∧ c ≤ cstR cs w := by
  intro w
  induction w with
  | nil => intro _; exact ⟨0, 0, rfl, Nat.le_refl _⟩
  | cons b w ih =>
    rintro ⟨v1, v2⟩
    obtain ⟨c, p, h1, h2⟩ := ih v1
    have e : nearP cs count (w.length + 1) = (rowsAt count w.length).foldl (advStep (nearP cs count w.length) (cs.getD (2 * w.length) false) (cs.getD (2 * w.length + 1) false)) (List.replicate 16 none) := rfl
    have h1' : gO (nearP cs count w.length) ((2 * stR w + b.toNat) / 2) = some (c, p) := by rw [jb_of.2]; exact h1
    obtain ⟨c', p', g1, g2⟩ := fold_new (p0 := cs.getD (2 * w.length) false) (p1 := cs.getD (2 * w.length + 1) false) (F := List.replicate 16 none) (fun j hj => rowsAt_lt hj) (by simp) (rowsAt_mem (stR_lt w) v2) h1'
    rw [jb_of.1, jb_of.2] at g1
    refine ⟨c', p', ?_, ?_⟩
    · rw [List.length_cons, e, stR]; exact g1
    · unfold cj at g2
      rw [jb_of.1, jb_of.2] at g2
      rw [cstR]
      have : ∀ k, gB cs k = cs.getD k false := fun _ => rfl
      rw [this, this]
      omega
/-! how far two rows are apart, a step m left out -/
def wtB (s : Nat) (b : Bool) : Nat := (pairB s b).1.toNat + (pairB s b).2.toNat
def accR (m : Nat) : List Bool → List Bool → Nat
  | b :: w, b' :: w' => accR m w w' + if w.length = m then 0 else xB (pairB (stR w) b).1 (pairB (stR w') b').1 + xB (pairB (stR w) b).2 (pairB (stR w') b').2
  | _, _ => 0
def g0L : List Nat := [7, 5, 3, 5, 3, 5, 4, 5, 2, 3, 5, 4, 3, 5, 4, 5]
def g1L : List Nat := [5, 3, 1, 3, 1, 3, 2, 3, 0, 1, 3, 2, 1, 3, 2, 3]
theorem lin : ∀ s < 16, ∀ t < 16, ∀ b c : Bool, xB (pairB s b).1 (pairB t c).1 + xB (pairB s b).2 (pairB t c).2 = wtB (s ^^^ t) (b ^^ c) ∧ nxS s b ^^^ nxS t c = nxS (s ^^^ t) (b ^^ c) := by decide +kernel
theorem xor16 : ∀ s < 16, ∀ t < 16, s ^^^ t < 16 := by decide +kernel
theorem g_step : ∀ s < 16, ∀ b : Bool, g0L.getD (nxS s b) 0 ≤ g0L.getD s 0 + wtB s b ∧ g1L.getD (nxS s b) 0 ≤ g1L.getD s 0 + wtB s b ∧ g1L.getD (nxS s b) 0 ≤ g0L.getD s 0 := by decide +kernel
theorem far (m : Nat) : ∀ w w' : List Bool, w.length = w'.length → (w = w' ∧ accR m w w' = 0) ∨ (w ≠ w' ∧ (if m < w.length then g1L.getD (stR w ^^^ stR w') 0 else g0L.getD (stR w ^^^ stR w') 0) ≤ accR m w w') := by
  intro w
  induction w with
  | nil =>
    intro w' h
    cases w' with
    | nil => exact .inl ⟨rfl, rfl⟩
    | cons _ _ => cases h
  | cons b w ih =>
    intro w' h
    cases w' with
    | nil => cases h
    | cons b' w' =>
      have h : w.length = w'.length := Nat.succ.inj h
      obtain ⟨l1, l2⟩ := lin (stR w) (stR_lt _) (stR w') (stR_lt _) b b'
      have hx := xor16 (stR w) (stR_lt _) (stR w') (stR_lt _)
      have hg := g_step (stR w ^^^ stR w') hx (b ^^ b')
      simp only [accR, stR, l1, l2, List.length_cons]
      rcases ih w' h with ⟨e, a⟩ | ⟨e, a⟩
      · subst e
        rw [Nat.xor_self, a]
        by_cases hb : b = b'
        · subst hb
          refine .inl ⟨rfl, ?_⟩
          rw [Bool.xor_self]
          split <;> rfl
        · refine .inr ⟨fun z => hb (List.cons.inj z).1, ?_⟩
          have : (b ^^ b') = true := by cases b <;> cases b' <;> first | rfl | exact absurd rfl hb
          rw [this]
          by_cases q : w.length = m
          · rw [if_pos q, if_pos (by omega)]; decide
          · rw [if_neg q]
            split <;> decide
      · refine .inr ⟨fun z => e (List.cons.inj z).2, ?_⟩
        by_cases q : w.length = m
        · rw [if_pos q, if_pos (by omega)]
          rw [if_neg (by omega)] at a
          omega
        · rw [if_neg q]
          by_cases q2 : m < w.length
          · rw [if_pos q2] at a
            rw [if_pos (by omega)]
            omega
          · rw [if_neg q2] at a
            rw [if_neg (by omega)]
            omega
/-- the coded bits of a row, those of step m flipped -/
def Near (cs : List Bool) (m : Nat) : List Bool → Prop
  | [] => True
  | b :: w => Near cs m w ∧ gB cs (2 * w.length) = ((pairB (stR w) b).1 ^^ decide (w.length = m)) ∧ gB cs (2 * w.length + 1) = ((pairB (stR w) b).2 ^^ decide (w.length = m))
theorem cost_true {cs : List Bool} {m : Nat} : ∀ w : List Bool, Near cs m w → cstR cs w = if m < w.length then 2 else 0 := by
  intro w
  induction w with
  | nil => intro _; rfl
  | cons b w ih =>
    rintro ⟨h1, h2, h3⟩
    rw [cstR, ih h1, h2, h3, List.length_cons]
    have x0 : ∀ a : Bool, xB a (a ^^ false) = 0 := by decide
    have x1 : ∀ a : Bool, xB a (a ^^ true) = 1 := by decide
    by_cases q : w.length = m
    · rw [decide_eq_true q, x1, x1, if_neg (by omega), if_pos (by omega)]
    · rw [decide_eq_false q, x0, x0]
      by_cases q2 : m < w.length
      · rw [if_pos q2, if_pos (by omega)]
      · rw [if_neg q2, if_neg (by omega)]
theorem cost_other {cs : List Bool} {m : Nat} : ∀ w w' : List Bool, w.length = w'.length → Near cs m w → accR m w w' ≤ cstR cs w' := by
  intro w
  induction w with
  | nil => intro w' _ _; rw [show accR m [] w' = 0 by cases w' <;> rfl]; exact Nat.zero_le _
  | cons b w ih =>
    rintro w' h ⟨h1, h2, h3⟩
    cases w' with
    | nil => cases h
    | cons b' w' =>
      have h : w.length = w'.length := Nat.succ.inj h
      have := ih w' h h1
      rw [accR, cstR, ← h, h2, h3]
      by_cases q : w.length = m
      · rw [if_pos q]; omega
      · rw [if_neg q, decide_eq_false q, Bool.xor_false, Bool.xor_false]
        have c : ∀ a b : Bool, xB a b = xB b a := by decide
        rw [c (pairB (stR w) b).1, c (pairB (stR w) b).2]
        omega
theorem near_ok {cs : List Bool} {m : Nat} {w : List Bool} (hn : Near cs m w) (hv : valR w.length w) (hs : stR w = 0) : ∃ c, gO (nearP cs w.length w.length) 0 = some (c, numR w) := by
  obtain ⟨c, p, h1, h2⟩ := nearP_le cs w.length w hv
  rw [hs] at h1
  obtain ⟨w', w1, w2, w3, w4, w5⟩ := nearP_sound cs w.length _ _ _ _ h1
  have hc : c ≤ 2 := by
    rw [cost_true w hn] at h2
    split at h2 <;> omega
  have ho := cost_other w w' w1.symm hn
  rcases far m w w' w1.symm with ⟨e, _⟩ | ⟨e, a⟩
  · subst e
    exact ⟨c, by rw [h1, w3]⟩
  · rw [hs, w2] at a
    exfalso
    have : (5 : Nat) ≤ (if m < w.length then g1L.getD (0 ^^^ 0) 0 else g0L.getD (0 ^^^ 0) 0) := by split <;> decide
    omega
/-! from a row in order -/
theorem testBit_numR : ∀ (w : List Bool) (i : Nat), (numR w).testBit i = w.getD i false := by
  intro w
  induction w with
  | nil => intro i; simp [numR]
  | cons b w ih =>
    intro i
    cases i with
    | zero => rw [numR]; cases b <;> simp [Nat.testBit_zero] <;> omega
    | succ i =>
      rw [numR, Nat.testBit_succ]
      have : (2 * numR w + b.toNat) / 2 = numR w := by cases b <;> simp <;> omega
      rw [this, ih]
      simp
theorem row_numR (u : List Bool) : ((List.range u.length).map fun k => (numR u.reverse).testBit (u.length - 1 - k)) = u := by
  apply List.ext_getElem
  · simp
  · intro i h1 h2
    rw [List.getElem_map, List.getElem_range, testBit_numR, List.getD_eq_getElem?_getD, List.getElem?_reverse (by omega)]
    rw [show u.length - 1 - (u.length - 1 - i) = i by omega, List.getElem?_eq_getElem h2]
    rfl
theorem stR_rev (u : List Bool) : stR u.reverse = stN 0 u := by
  have : ∀ w : List Bool, stR w = stN 0 w.reverse := by
    intro w
    induction w with
    | nil => rfl
    | cons b w ih => rw [List.reverse_cons, stN_snoc, stR, ih]
  rw [this, List.reverse_reverse]
theorem Near_rev {cs : List Bool} {m : Nat} {u : List Bool} (h : ∀ j < 2 * u.length, gB cs j = (gB (conv 0 u) j ^^ decide (j / 2 = m))) : Near cs m u.reverse := by
  have key : ∀ w : List Bool, (∀ j < 2 * w.length, gB cs j = (gB (conv 0 w.reverse) j ^^ decide (j / 2 = m))) → Near cs m w := by
    intro w
    induction w with
    | nil => intro _; trivial
    | cons b w ih =>
      intro hw
      rw [List.reverse_cons, conv_snoc] at hw
      have hl : (conv 0 w.reverse).length = 2 * w.length := by rw [conv_length, List.length_reverse]
      have ga : ∀ (xs ys : List Bool) k, k < xs.length → gB (xs ++ ys) k = gB xs k := by
        intro xs ys k hk
        unfold gB
        rw [List.getD_eq_getElem?_getD, List.getD_eq_getElem?_getD, List.getElem?_append_left hk]
      have gb : ∀ (xs ys : List Bool) k, gB (xs ++ ys) (xs.length + k) = gB ys k := by
        intro xs ys k
        unfold gB
        rw [List.getD_eq_getElem?_getD, List.getD_eq_getElem?_getD, List.getElem?_append_right (by omega)]
        simp
      refine ⟨ih fun j hj => ?_, ?_, ?_⟩
      · rw [hw j (by rw [List.length_cons]; omega), ga _ _ _ (by omega)]
      · have := hw (2 * w.length) (by rw [List.length_cons]; omega)
        rw [this, ← hl, show (conv 0 w.reverse).length = (conv 0 w.reverse).length + 0 from rfl, gb, ← stR_rev, List.reverse_reverse, Nat.add_zero, hl]
        congr 2
        rw [Nat.mul_div_cancel_left _ (by decide)]
      · have := hw (2 * w.length + 1) (by rw [List.length_cons]; omega)
        rw [this, ← hl, gb, ← stR_rev, List.reverse_reverse, hl]
        congr 2
        rw [show (2 * w.length + 1) / 2 = w.length by omega]
  exact key _ (by rw [List.length_reverse, List.reverse_reverse]; exact h)
theorem valR_rev (u : List Bool) : valR (u.length + 4) ([false, false, false, false] ++ u.reverse) := by
  have a : ∀ w : List Bool, ∀ n, w.length ≤ n → valR (n + 4) w := by
    intro w
    induction w with
    | nil => intro n _; trivial
    | cons b w ih =>
      intro n h
      rw [List.length_cons] at h
      exact ⟨ih n (by omega), .inl (by omega)⟩
  exact ⟨⟨⟨⟨a _ _ (show u.reverse.length ≤ u.length by rw [List.length_reverse]; exact Nat.le_refl _), .inr rfl⟩, .inr rfl⟩, .inr rfl⟩, .inr rfl⟩
theorem st0 : ∀ s < 16, nxS (nxS (nxS (nxS s false) false) false) false = 0 := by decide
end M
end

section
set_option linter.all false
set_option Elab.async false
set_option maxRecDepth 4000
set_option pp.maxSteps 700
/-! P9: a block through the air. -/
namespace M
theorem fn_read_block : TT.fn 230 = some c_read_block := rfl
theorem read_block_wp (n : Nat) (h : Heap) {rb : Nat} {rs : Nat → Nat} {Bs : Nat → List Bool} (hb : B4 h rb rs Bs) {cs row : List Bool} (hl : cs.length = 456) (hg : ∀ k < 456, gat Bs k = gB cs k) {c p : Nat} (hf : (nearP cs 228 228)[0]? = some (some (c, p))) (hr : ((List.range 228).map fun k => p.testBit (228 - 1 - k)) = row) {X : Nat → List Val → Heap → Prop} :
    (callAt TT (n + 4) 230 [.ref rb] h).wp (fun v h' => v = .tup [.tup ((octs (row.take 184) 23).map nI), .int (c : Nat), .bl (decide ((row.drop 184).take 40 = parB bdiv (row.take 184)))] ∧ Ext h h') X := by
  refine call_wp fn_read_block rfl ?_
  unfold c_read_block
  have hrl : row.length = 228 := by rw [← hr]; simp
  rw [wp_cons]
  simp only [wipeT, wp_ok, wp_bad, wp_bind, wp_ite, wp_nx, wp_ret, wp_fbad, wp_st, retE_ret, retE_exc, opt_some, opt_none, tru_bl, slotQ_some, intV_int, blV_bl, refV_ref, tupV_tup, wp_loc, wp_cint, wp_cstr, wp_cbl, wp_cnon, wp_cval, wp_bin, wp_neg, wp_nt, wp_cmp, wp_chain, wp_is, wp_and, wp_or, wp_ife, wp_fld, wp_ix, wp_sl, wp_tup, wp_lst, wp_dnew, wp_call, wp_mk, wp_make, wp_meth, wp_methK, wp_blt, wp_bm, wp_comp, wp_comp2, wp_pno, wp_pyes, wp_ono, wp_oyes, wp_esnil, wp_escons, wp_over, wp_range1, wp_range2, wp_range3, wp_enum, wp_rev, wp_nil, wp_ex, wp_set, wp_setf, wp_seti, wp_setTF, wp_sret, wp_retn, wp_pass, wp_brk, wp_cnt, wp_if, wp_for, wp_while, wp_binI, binI_add, binI_sub, binI_mul, binI_fdiv, binI_mod, binI_shr, binI_band, binI_bxor, binI_pow, cmp_lt, cmp_le, cmp_gt, cmp_ge, cmp_eqI, cmp_neI, cmp_eqS, cmp_neS, opt_ite, ite_and, List.getElem?_cons_zero, List.getElem?_cons_succ, List.set_cons_zero, List.set_cons_succ, List.length_cons, List.length_nil, List.append_nil, List.map_cons, List.map_nil, assignT, setSlots, List.cons_append, List.nil_append, Nat.reduceSub, Nat.reduceAdd, decide_eq_true_eq, if_true, if_false, Bool.false_eq_true, Bool.not_true, Bool.not_false, beq_true, beq_false, decide_true, decide_false, List.replicate_zero, List.replicate_succ, true_and, and_true]
  rw [show in62 456 = true from rfl, show (456 : Int).toNat = 456 from rfl]
  refine ⟨rfl, ?_⟩
  refine comp_inv (fun k acc h' => acc = (cs.take k).map bI ∧ h' = h) (fun _ _ _ _ _ => rfl) ?_ ?_ ⟨rfl, rfl⟩
  · rintro k hk acc h' ⟨rfl, rfl⟩
    rw [rangeL_length] at hk
    rw [rangeL_get, show (0 + (k : Int) * 1) = (k : Int) by omega]
    refine ⟨_, rfl, ?_⟩
    try simp only [wp_ok, wp_bad, wp_bind, wp_ite, wp_nx, wp_ret, wp_fbad, wp_st, retE_ret, retE_exc, opt_some, opt_none, tru_bl, slotQ_some, intV_int, blV_bl, refV_ref, tupV_tup, wp_loc, wp_cint, wp_cstr, wp_cbl, wp_cnon, wp_cval, wp_bin, wp_neg, wp_nt, wp_cmp, wp_chain, wp_is, wp_and, wp_or, wp_ife, wp_fld, wp_ix, wp_sl, wp_tup, wp_lst, wp_dnew, wp_call, wp_mk, wp_make, wp_meth, wp_methK, wp_blt, wp_bm, wp_comp, wp_comp2, wp_pno, wp_pyes, wp_ono, wp_oyes, wp_esnil, wp_escons, wp_over, wp_range1, wp_range2, wp_range3, wp_enum, wp_rev, wp_nil, wp_ex, wp_set, wp_setf, wp_seti, wp_setTF, wp_sret, wp_retn, wp_pass, wp_brk, wp_cnt, wp_if, wp_for, wp_while, wp_binI, binI_add, binI_sub, binI_mul, binI_fdiv, binI_mod, binI_shr, binI_band, binI_bxor, binI_pow, cmp_lt, cmp_le, cmp_gt, cmp_ge, cmp_eqI, cmp_neI, cmp_eqS, cmp_neS, opt_ite, ite_and, List.getElem?_cons_zero, List.getElem?_cons_succ, List.set_cons_zero, List.set_cons_succ, List.length_cons, List.length_nil, List.append_nil, List.map_cons, List.map_nil, assignT, setSlots, List.cons_append, List.nil_append, Nat.reduceSub, Nat.reduceAdd, decide_eq_true_eq, if_true, if_false, Bool.false_eq_true, Bool.not_true, Bool.not_false, beq_true, beq_false, decide_true, decide_false, List.replicate_zero, List.replicate_succ, true_and, and_true]
    have hk4 : k % 4 < 4 := by omega
    rw [show ((k : Int) % 4) = ((k % 4 : Nat) : Int) by omega, hb.ix hk4]
    try simp only [wp_ok, wp_bad, wp_bind, wp_ite, wp_nx, wp_ret, wp_fbad, wp_st, retE_ret, retE_exc, opt_some, opt_none, tru_bl, slotQ_some, intV_int, blV_bl, refV_ref, tupV_tup, wp_loc, wp_cint, wp_cstr, wp_cbl, wp_cnon, wp_cval, wp_bin, wp_neg, wp_nt, wp_cmp, wp_chain, wp_is, wp_and, wp_or, wp_ife, wp_fld, wp_ix, wp_sl, wp_tup, wp_lst, wp_dnew, wp_call, wp_mk, wp_make, wp_meth, wp_methK, wp_blt, wp_bm, wp_comp, wp_comp2, wp_pno, wp_pyes, wp_ono, wp_oyes, wp_esnil, wp_escons, wp_over, wp_range1, wp_range2, wp_range3, wp_enum, wp_rev, wp_nil, wp_ex, wp_set, wp_setf, wp_seti, wp_setTF, wp_sret, wp_retn, wp_pass, wp_brk, wp_cnt, wp_if, wp_for, wp_while, wp_binI, binI_add, binI_sub, binI_mul, binI_fdiv, binI_mod, binI_shr, binI_band, binI_bxor, binI_pow, cmp_lt, cmp_le, cmp_gt, cmp_ge, cmp_eqI, cmp_neI, cmp_eqS, cmp_neS, opt_ite, ite_and, List.getElem?_cons_zero, List.getElem?_cons_succ, List.set_cons_zero, List.set_cons_succ, List.length_cons, List.length_nil, List.append_nil, List.map_cons, List.map_nil, assignT, setSlots, List.cons_append, List.nil_append, Nat.reduceSub, Nat.reduceAdd, decide_eq_true_eq, if_true, if_false, Bool.false_eq_true, Bool.not_true, Bool.not_false, beq_true, beq_false, decide_true, decide_false, List.replicate_zero, List.replicate_succ, true_and, and_true]
    refine ⟨by decide, ?_⟩
    refine (place_of_wp (n + 2) _ k (X := nox)).mono ?_ (fun _ _ _ q => q)
    rintro v h'' ⟨rfl, rfl⟩
    have hpl : plc k < ((Bs (k % 4)).map bI).length := by rw [List.length_map, hb.len _ hk4]; exact plc_lt k
    rw [ix_lst (hb.row _ hk4) hpl, List.getElem_map, gB_eq]
    refine ⟨?_, rfl⟩
    rw [List.take_succ_eq_append_getElem (by omega : k < cs.length), List.map_append, gB_eq, ← hg k hk]
    rfl
  rintro acc h' ⟨rfl, rfl⟩
  rw [rangeL_length, show cs.take 456 = cs by rw [← hl, List.take_length]]
  refine ⟨size_ok (by rw [List.length_map]; omega), ?_⟩
  refine (nearest_wp n _ (count := 228) (Heap.get_new _ _) (by omega) (by decide) (by decide) hf (X := nox)).mono ?_ (fun _ _ _ q => q.elim)
  rintro v h1 ⟨r1, rfl, n1, g1, x1⟩
  have g1 : h1.get r1 = some (.lst (row.map bI)) := by
    rw [g1, ← hr, List.map_map]
    rfl
  have x01 : Ext h' h1 := (Ext.push _ _).trans x1
  try simp only [wp_ok, wp_bad, wp_bind, wp_ite, wp_nx, wp_ret, wp_fbad, wp_st, retE_ret, retE_exc, opt_some, opt_none, tru_bl, slotQ_some, intV_int, blV_bl, refV_ref, tupV_tup, wp_loc, wp_cint, wp_cstr, wp_cbl, wp_cnon, wp_cval, wp_bin, wp_neg, wp_nt, wp_cmp, wp_chain, wp_is, wp_and, wp_or, wp_ife, wp_fld, wp_ix, wp_sl, wp_tup, wp_lst, wp_dnew, wp_call, wp_mk, wp_make, wp_meth, wp_methK, wp_blt, wp_bm, wp_comp, wp_comp2, wp_pno, wp_pyes, wp_ono, wp_oyes, wp_esnil, wp_escons, wp_over, wp_range1, wp_range2, wp_range3, wp_enum, wp_rev, wp_nil, wp_ex, wp_set, wp_setf, wp_seti, wp_setTF, wp_sret, wp_retn, wp_pass, wp_brk, wp_cnt, wp_if, wp_for, wp_while, wp_binI, binI_add, binI_sub, binI_mul, binI_fdiv, binI_mod, binI_shr, binI_band, binI_bxor, binI_pow, cmp_lt, cmp_le, cmp_gt, cmp_ge, cmp_eqI, cmp_neI, cmp_eqS, cmp_neS, opt_ite, ite_and, List.getElem?_cons_zero, List.getElem?_cons_succ, List.set_cons_zero, List.set_cons_succ, List.length_cons, List.length_nil, List.append_nil, List.map_cons, List.map_nil, assignT, setSlots, List.cons_append, List.nil_append, Nat.reduceSub, Nat.reduceAdd, decide_eq_true_eq, if_true, if_false, Bool.false_eq_true, Bool.not_true, Bool.not_false, beq_true, beq_false, decide_true, decide_false, List.replicate_zero, List.replicate_succ, true_and, and_true]
  rw [wp_cons]
  try simp only [wp_ok, wp_bad, wp_bind, wp_ite, wp_nx, wp_ret, wp_fbad, wp_st, retE_ret, retE_exc, opt_some, opt_none, tru_bl, slotQ_some, intV_int, blV_bl, refV_ref, tupV_tup, wp_loc, wp_cint, wp_cstr, wp_cbl, wp_cnon, wp_cval, wp_bin, wp_neg, wp_nt, wp_cmp, wp_chain, wp_is, wp_and, wp_or, wp_ife, wp_fld, wp_ix, wp_sl, wp_tup, wp_lst, wp_dnew, wp_call, wp_mk, wp_make, wp_meth, wp_methK, wp_blt, wp_bm, wp_comp, wp_comp2, wp_pno, wp_pyes, wp_ono, wp_oyes, wp_esnil, wp_escons, wp_over, wp_range1, wp_range2, wp_range3, wp_enum, wp_rev, wp_nil, wp_ex, wp_set, wp_setf, wp_seti, wp_setTF, wp_sret, wp_retn, wp_pass, wp_brk, wp_cnt, wp_if, wp_for, wp_while, wp_binI, binI_add, binI_sub, binI_mul, binI_fdiv, binI_mod, binI_shr, binI_band, binI_bxor, binI_pow, cmp_lt, cmp_le, cmp_gt, cmp_ge, cmp_eqI, cmp_neI, cmp_eqS, cmp_neS, opt_ite, ite_and, List.getElem?_cons_zero, List.getElem?_cons_succ, List.set_cons_zero, List.set_cons_succ, List.length_cons, List.length_nil, List.append_nil, List.map_cons, List.map_nil, assignT, setSlots, List.cons_append, List.nil_append, Nat.reduceSub, Nat.reduceAdd, decide_eq_true_eq, if_true, if_false, Bool.false_eq_true, Bool.not_true, Bool.not_false, beq_true, beq_false, decide_true, decide_false, List.replicate_zero, List.replicate_succ, true_and, and_true]
  rw [slV_lst g1]
  try simp only [wp_ok, wp_bad, wp_bind, wp_ite, wp_nx, wp_ret, wp_fbad, wp_st, retE_ret, retE_exc, opt_some, opt_none, tru_bl, slotQ_some, intV_int, blV_bl, refV_ref, tupV_tup, wp_loc, wp_cint, wp_cstr, wp_cbl, wp_cnon, wp_cval, wp_bin, wp_neg, wp_nt, wp_cmp, wp_chain, wp_is, wp_and, wp_or, wp_ife, wp_fld, wp_ix, wp_sl, wp_tup, wp_lst, wp_dnew, wp_call, wp_mk, wp_make, wp_meth, wp_methK, wp_blt, wp_bm, wp_comp, wp_comp2, wp_pno, wp_pyes, wp_ono, wp_oyes, wp_esnil, wp_escons, wp_over, wp_range1, wp_range2, wp_range3, wp_enum, wp_rev, wp_nil, wp_ex, wp_set, wp_setf, wp_seti, wp_setTF, wp_sret, wp_retn, wp_pass, wp_brk, wp_cnt, wp_if, wp_for, wp_while, wp_binI, binI_add, binI_sub, binI_mul, binI_fdiv, binI_mod, binI_shr, binI_band, binI_bxor, binI_pow, cmp_lt, cmp_le, cmp_gt, cmp_ge, cmp_eqI, cmp_neI, cmp_eqS, cmp_neS, opt_ite, ite_and, List.getElem?_cons_zero, List.getElem?_cons_succ, List.set_cons_zero, List.set_cons_succ, List.length_cons, List.length_nil, List.append_nil, List.map_cons, List.map_nil, assignT, setSlots, List.cons_append, List.nil_append, Nat.reduceSub, Nat.reduceAdd, decide_eq_true_eq, if_true, if_false, Bool.false_eq_true, Bool.not_true, Bool.not_false, beq_true, beq_false, decide_true, decide_false, List.replicate_zero, List.replicate_succ, true_and, and_true]
  have c1 : cutL (row.map bI) none (some 184) = (row.take 184).map bI := (cut_to (b := 184) _ (by rw [List.length_map]; omega)).trans List.map_take.symm
  have c2 : cutL (row.map bI) (some 184) (some 224) = ((row.drop 184).take 40).map bI := by
    refine (cut_nat (a := 184) (b := 224) _ (by rw [List.length_map]; omega) (by rw [List.length_map]; omega)).trans ?_
    rw [← List.map_drop, ← List.map_take]
  rw [c1]
  have g2 : (h1.push (.lst ((row.take 184).map bI))).get h1.size = some (.lst ((row.take 184).map bI)) := Heap.get_new _ _
  have x2 : Ext h1 (h1.push (.lst ((row.take 184).map bI))) := Ext.push _ _
  generalize h1.push (.lst ((row.take 184).map bI)) = h2 at g2 x2
  generalize h1.size = r2 at g2
  rw [wp_cons]
  simp only [← bdiv_val, wp_ok, wp_bad, wp_bind, wp_ite, wp_nx, wp_ret, wp_fbad, wp_st, retE_ret, retE_exc, opt_some, opt_none, tru_bl, slotQ_some, intV_int, blV_bl, refV_ref, tupV_tup, wp_loc, wp_cint, wp_cstr, wp_cbl, wp_cnon, wp_cval, wp_bin, wp_neg, wp_nt, wp_cmp, wp_chain, wp_is, wp_and, wp_or, wp_ife, wp_fld, wp_ix, wp_sl, wp_tup, wp_lst, wp_dnew, wp_call, wp_mk, wp_make, wp_meth, wp_methK, wp_blt, wp_bm, wp_comp, wp_comp2, wp_pno, wp_pyes, wp_ono, wp_oyes, wp_esnil, wp_escons, wp_over, wp_range1, wp_range2, wp_range3, wp_enum, wp_rev, wp_nil, wp_ex, wp_set, wp_setf, wp_seti, wp_setTF, wp_sret, wp_retn, wp_pass, wp_brk, wp_cnt, wp_if, wp_for, wp_while, wp_binI, binI_add, binI_sub, binI_mul, binI_fdiv, binI_mod, binI_shr, binI_band, binI_bxor, binI_pow, cmp_lt, cmp_le, cmp_gt, cmp_ge, cmp_eqI, cmp_neI, cmp_eqS, cmp_neS, opt_ite, ite_and, List.getElem?_cons_zero, List.getElem?_cons_succ, List.set_cons_zero, List.set_cons_succ, List.length_cons, List.length_nil, List.append_nil, List.map_cons, List.map_nil, assignT, setSlots, List.cons_append, List.nil_append, Nat.reduceSub, Nat.reduceAdd, decide_eq_true_eq, if_true, if_false, Bool.false_eq_true, Bool.not_true, Bool.not_false, beq_true, beq_false, decide_true, decide_false, List.replicate_zero, List.replicate_succ, true_and, and_true]
  have l184 : (row.take 184).length = 184 := by rw [List.length_take]; omega
  refine (bits_octets_wp (n + 1) h2 (m := 23) g2 (by omega) (by decide) (X := nox)).mono ?_ (fun _ _ _ q => q.elim)
  rintro v h3 ⟨rfl, x3⟩
  rw [slV_lst (x3.2 _ _ (x2.2 _ _ g1))]
  rw [c2]
  refine (is_right_wp n _ ((x3.tpush _).2 _ _ g2) (Heap.get_new _ _) (by omega) (by decide) (by decide) (X := nox)).mono ?_ (fun _ _ _ q => q.elim)
  rintro v h4 ⟨rfl, x4⟩
  refine ⟨size_ok (by decide), rfl, ((x01.trans x2).trans (x3.tpush _)).trans x4⟩
def lp (k : Nat) : Nat := 114 * (k % 4) + plc k
def fl (g : Nat → Bool) (ks : List Nat) : Nat → Bool := ks.foldl (fun g k => fun j => if j = k then !g k else g j) g
theorem nI_bit (b : Bool) : (1 : Int) - (if b = true then 1 else 0) = if (!b) = true then 1 else 0 := by cases b <;> rfl
/-- the octets of a row are the ones that were written -/
theorem numB_octet : ∀ o < 256, numB ((List.range 8).map fun k => Nat.testBit o k).reverse = o := by decide +kernel
theorem octs_obits (os : List Nat) (h : ∀ o ∈ os, o < 256) : octs (obits os) os.length = os := by
  have key : ∀ (os : List Nat) (pre : List Bool) (m : Nat), (∀ o ∈ os, o < 256) → pre.length = 8 * m → ((List.range os.length).map fun j => numB (((pre ++ obits os).drop (8 * (m + j))).take 8).reverse) = os := by
    intro os
    induction os with
    | nil => intro _ _ _ _; rfl
    | cons o os ih =>
      intro pre m ho hp
      have e : obits (o :: os) = ((List.range 8).map fun k => o.testBit k) ++ obits os := by simp [obits]
      rw [List.length_cons, List.range_succ_eq_map, List.map_cons, List.map_map]
      congr 1
      · rw [e, Nat.add_zero, ← hp, List.drop_left, List.take_append_of_le_length (by simp)]
        rw [List.take_of_length_le (by simp)]
        exact numB_octet o (ho o List.mem_cons_self)
      · have := ih (pre ++ (List.range 8).map fun k => o.testBit k) (m + 1) (fun x hx => ho x (List.mem_cons_of_mem _ hx)) (by rw [List.length_append, hp]; simp; omega)
        rw [List.append_assoc, ← e] at this
        refine Eq.trans ?_ this
        apply List.map_congr_left
        intro j hj
        show numB (((pre ++ obits (o :: os)).drop (8 * (m + (j + 1)))).take 8).reverse = _
        rw [show m + (j + 1) = m + 1 + j by omega]
  have := key os [] 0 h rfl
  simpa [octs] using this
theorem gO_out {F : List (Option (Nat × Nat))} {a : Nat} {x : Nat × Nat} (h : gO F a = some x) : F[a]? = some (some x) := by
  unfold gO at h
  cases e : F[a]? with
  | none => rw [e] at h; cases h
  | some o => rw [e] at h; cases o with
    | none => cases h
    | some y => cases h; rfl
theorem near_blk {os : List Nat} (hl : os.length = 23) {cs : List Bool} {m : Nat} (h : ∀ j < 456, gB cs j = (gB (cblk os) j ^^ decide (j / 2 = m))) : ∃ c, (nearP cs 228 228)[0]? = some (some (c, numR (ublk os).reverse)) := by
  have hu := ublk_length hl
  have hn : Near cs m (ublk os).reverse := Near_rev (by rw [hu]; exact h)
  have hw : (ublk os).reverse.length = 228 := by rw [List.length_reverse, hu]
  have e : (ublk os).reverse = [false, false, false, false] ++ (obits os ++ parB bdiv (obits os)).reverse := by
    unfold ublk
    rw [List.reverse_append]
    rfl
  have hv : valR (ublk os).reverse.length (ublk os).reverse := by
    have l4 : (obits os ++ parB bdiv (obits os)).length + 4 = 228 := by
      have := ublk_length hl
      unfold ublk at this
      rw [List.length_append] at this
      exact this
    have := valR_rev (obits os ++ parB bdiv (obits os))
    rw [l4, ← e] at this
    rw [hw]
    exact this
  have hs : stR (ublk os).reverse = 0 := by
    rw [e]
    exact st0 _ (stR_lt _)
  obtain ⟨c, q⟩ := near_ok hn hv hs
  rw [hw] at q
  exact ⟨c, gO_out q⟩
theorem fn_received : TT.fn 245 = some c_received := rfl
theorem received_wp (n : Nat) (h : Heap) {os : List Nat} (hl : os.length = 23) (ho : ∀ o ∈ os, o < 256) {m rp : Nat} (hm : m < 228) (hp : h.get rp = some (.lst [nI (lp (2 * m)), nI (lp (2 * m + 1))])) {X : Nat → List Val → Heap → Prop} :
    (callAt TT (n + 5) 245 [.tup (os.map nI), .ref rp] h).wp (fun v h' => v = .tup (os.map nI) ∧ Ext h h') X := by
  refine call_wp fn_received rfl ?_
  unfold c_received
  rw [wp_cons]
  try simp only [wp_ok, wp_bad, wp_bind, wp_ite, wp_nx, wp_ret, wp_fbad, wp_st, retE_ret, retE_exc, opt_some, opt_none, tru_bl, slotQ_some, intV_int, blV_bl, refV_ref, tupV_tup, wp_loc, wp_cint, wp_cstr, wp_cbl, wp_cnon, wp_cval, wp_bin, wp_neg, wp_nt, wp_cmp, wp_chain, wp_is, wp_and, wp_or, wp_ife, wp_fld, wp_ix, wp_sl, wp_tup, wp_lst, wp_dnew, wp_call, wp_mk, wp_make, wp_meth, wp_methK, wp_blt, wp_bm, wp_comp, wp_comp2, wp_pno, wp_pyes, wp_ono, wp_oyes, wp_esnil, wp_escons, wp_over, wp_range1, wp_range2, wp_range3, wp_enum, wp_rev, wp_nil, wp_ex, wp_set, wp_setf, wp_seti, wp_setTF, wp_sret, wp_retn, wp_pass, wp_brk, wp_cnt, wp_if, wp_for, wp_while, wp_binI, binI_add, binI_sub, binI_mul, binI_fdiv, binI_mod, binI_shr, binI_band, binI_bxor, binI_pow, cmp_lt, cmp_le, cmp_gt, cmp_ge, cmp_eqI, cmp_neI, cmp_eqS, cmp_neS, opt_ite, ite_and, List.getElem?_cons_zero, List.getElem?_cons_succ, List.set_cons_zero, List.set_cons_succ, List.length_cons, List.length_nil, List.append_nil, List.map_cons, List.map_nil, assignT, setSlots, List.cons_append, List.nil_append, Nat.reduceSub, Nat.reduceAdd, decide_eq_true_eq, if_true, if_false, Bool.false_eq_true, Bool.not_true, Bool.not_false, beq_true, beq_false, decide_true, decide_false, List.replicate_zero, List.replicate_succ, true_and, and_true]
  refine (code_block_wp n h hl (X := nox)).mono ?_ (fun _ _ _ q => q.elim)
  rintro v h1 ⟨rb, rs, Bs, rfl, nb, nr, b1, gg, x1⟩
  rw [wp_cons]
  try simp only [wp_ok, wp_bad, wp_bind, wp_ite, wp_nx, wp_ret, wp_fbad, wp_st, retE_ret, retE_exc, opt_some, opt_none, tru_bl, slotQ_some, intV_int, blV_bl, refV_ref, tupV_tup, wp_loc, wp_cint, wp_cstr, wp_cbl, wp_cnon, wp_cval, wp_bin, wp_neg, wp_nt, wp_cmp, wp_chain, wp_is, wp_and, wp_or, wp_ife, wp_fld, wp_ix, wp_sl, wp_tup, wp_lst, wp_dnew, wp_call, wp_mk, wp_make, wp_meth, wp_methK, wp_blt, wp_bm, wp_comp, wp_comp2, wp_pno, wp_pyes, wp_ono, wp_oyes, wp_esnil, wp_escons, wp_over, wp_range1, wp_range2, wp_range3, wp_enum, wp_rev, wp_nil, wp_ex, wp_set, wp_setf, wp_seti, wp_setTF, wp_sret, wp_retn, wp_pass, wp_brk, wp_cnt, wp_if, wp_for, wp_while, wp_binI, binI_add, binI_sub, binI_mul, binI_fdiv, binI_mod, binI_shr, binI_band, binI_bxor, binI_pow, cmp_lt, cmp_le, cmp_gt, cmp_ge, cmp_eqI, cmp_neI, cmp_eqS, cmp_neS, opt_ite, ite_and, List.getElem?_cons_zero, List.getElem?_cons_succ, List.set_cons_zero, List.set_cons_succ, List.length_cons, List.length_nil, List.append_nil, List.map_cons, List.map_nil, assignT, setSlots, List.cons_append, List.nil_append, Nat.reduceSub, Nat.reduceAdd, decide_eq_true_eq, if_true, if_false, Bool.false_eq_true, Bool.not_true, Bool.not_false, beq_true, beq_false, decide_true, decide_false, List.replicate_zero, List.replicate_succ, true_and, and_true]
  have hp1 := x1.2 _ _ hp
  have hpl : h1.get rp = some (.lst ([2 * m, 2 * m + 1].map fun k => nI (lp k))) := hp1
  rw [srcOf_lst hpl]
  simp only [opt_some]
  have hks : ∀ k ∈ [2 * m, 2 * m + 1], k < 456 := by
    intro k hk
    simp only [List.mem_cons, List.not_mem_nil, or_false] at hk
    omega
  generalize hksd : [2 * m, 2 * m + 1] = ks at hpl hks
  refine for_inv (fun k σ h' => ∃ Bs a b, σ = [some (.tup (os.map nI)), some (.ref rp), some (.ref rb), a, b, none, none, none] ∧ B4 h' rb rs Bs ∧ (∀ j < 456, gat Bs j = fl (gB (cblk os)) (ks.take k) j) ∧ Ext h h' ∧ h'.get rp = some (.lst (ks.map fun k => nI (lp k)))) ?_ ?_ ?_ ?_
  · rintro k σ h' hk ⟨Bs, a, b, rfl, hb, hg, hx, hr⟩
    exact stands_some hr
  · rintro k hk σ h' ⟨Bs, a, b, rfl, hb, hg, hx, hr⟩
    rw [List.length_map] at hk
    rw [List.getElem_map]
    have hi : ks[k] < 456 := hks _ (List.getElem_mem hk)
    have htk : ks.take (k + 1) = ks.take k ++ [ks[k]] := List.take_succ_eq_append_getElem hk
    generalize ks[k] = i at hi htk ⊢
    refine ⟨_, rfl, ?_⟩
    rw [wp_cons]
    simp only [nI, wp_ok, wp_bad, wp_bind, wp_ite, wp_nx, wp_ret, wp_fbad, wp_st, retE_ret, retE_exc, opt_some, opt_none, tru_bl, slotQ_some, intV_int, blV_bl, refV_ref, tupV_tup, wp_loc, wp_cint, wp_cstr, wp_cbl, wp_cnon, wp_cval, wp_bin, wp_neg, wp_nt, wp_cmp, wp_chain, wp_is, wp_and, wp_or, wp_ife, wp_fld, wp_ix, wp_sl, wp_tup, wp_lst, wp_dnew, wp_call, wp_mk, wp_make, wp_meth, wp_methK, wp_blt, wp_bm, wp_comp, wp_comp2, wp_pno, wp_pyes, wp_ono, wp_oyes, wp_esnil, wp_escons, wp_over, wp_range1, wp_range2, wp_range3, wp_enum, wp_rev, wp_nil, wp_ex, wp_set, wp_setf, wp_seti, wp_setTF, wp_sret, wp_retn, wp_pass, wp_brk, wp_cnt, wp_if, wp_for, wp_while, wp_binI, binI_add, binI_sub, binI_mul, binI_fdiv, binI_mod, binI_shr, binI_band, binI_bxor, binI_pow, cmp_lt, cmp_le, cmp_gt, cmp_ge, cmp_eqI, cmp_neI, cmp_eqS, cmp_neS, opt_ite, ite_and, List.getElem?_cons_zero, List.getElem?_cons_succ, List.set_cons_zero, List.set_cons_succ, List.length_cons, List.length_nil, List.append_nil, List.map_cons, List.map_nil, assignT, setSlots, List.cons_append, List.nil_append, Nat.reduceSub, Nat.reduceAdd, decide_eq_true_eq, if_true, if_false, Bool.false_eq_true, Bool.not_true, Bool.not_false, beq_true, beq_false, decide_true, decide_false, List.replicate_zero, List.replicate_succ, true_and, and_true]
    have i4 : i % 4 < 4 := by omega
    have e1 : ((lp i : Nat) : Int) / 114 = ((i % 4 : Nat) : Int) := by
      have := plc_lt i
      unfold lp
      omega
    have e2 : ((lp i : Nat) : Int) % 114 = ((plc i : Nat) : Int) := by
      have := plc_lt i
      unfold lp
      omega
    rw [e1, hb.ix i4]
    try simp only [wp_ok, wp_bad, wp_bind, wp_ite, wp_nx, wp_ret, wp_fbad, wp_st, retE_ret, retE_exc, opt_some, opt_none, tru_bl, slotQ_some, intV_int, blV_bl, refV_ref, tupV_tup, wp_loc, wp_cint, wp_cstr, wp_cbl, wp_cnon, wp_cval, wp_bin, wp_neg, wp_nt, wp_cmp, wp_chain, wp_is, wp_and, wp_or, wp_ife, wp_fld, wp_ix, wp_sl, wp_tup, wp_lst, wp_dnew, wp_call, wp_mk, wp_make, wp_meth, wp_methK, wp_blt, wp_bm, wp_comp, wp_comp2, wp_pno, wp_pyes, wp_ono, wp_oyes, wp_esnil, wp_escons, wp_over, wp_range1, wp_range2, wp_range3, wp_enum, wp_rev, wp_nil, wp_ex, wp_set, wp_setf, wp_seti, wp_setTF, wp_sret, wp_retn, wp_pass, wp_brk, wp_cnt, wp_if, wp_for, wp_while, wp_binI, binI_add, binI_sub, binI_mul, binI_fdiv, binI_mod, binI_shr, binI_band, binI_bxor, binI_pow, cmp_lt, cmp_le, cmp_gt, cmp_ge, cmp_eqI, cmp_neI, cmp_eqS, cmp_neS, opt_ite, ite_and, List.getElem?_cons_zero, List.getElem?_cons_succ, List.set_cons_zero, List.set_cons_succ, List.length_cons, List.length_nil, List.append_nil, List.map_cons, List.map_nil, assignT, setSlots, List.cons_append, List.nil_append, Nat.reduceSub, Nat.reduceAdd, decide_eq_true_eq, if_true, if_false, Bool.false_eq_true, Bool.not_true, Bool.not_false, beq_true, beq_false, decide_true, decide_false, List.replicate_zero, List.replicate_succ, true_and, and_true]
    refine ⟨by decide, ?_⟩
    rw [wp_cons]
    try simp only [wp_ok, wp_bad, wp_bind, wp_ite, wp_nx, wp_ret, wp_fbad, wp_st, retE_ret, retE_exc, opt_some, opt_none, tru_bl, slotQ_some, intV_int, blV_bl, refV_ref, tupV_tup, wp_loc, wp_cint, wp_cstr, wp_cbl, wp_cnon, wp_cval, wp_bin, wp_neg, wp_nt, wp_cmp, wp_chain, wp_is, wp_and, wp_or, wp_ife, wp_fld, wp_ix, wp_sl, wp_tup, wp_lst, wp_dnew, wp_call, wp_mk, wp_make, wp_meth, wp_methK, wp_blt, wp_bm, wp_comp, wp_comp2, wp_pno, wp_pyes, wp_ono, wp_oyes, wp_esnil, wp_escons, wp_over, wp_range1, wp_range2, wp_range3, wp_enum, wp_rev, wp_nil, wp_ex, wp_set, wp_setf, wp_seti, wp_setTF, wp_sret, wp_retn, wp_pass, wp_brk, wp_cnt, wp_if, wp_for, wp_while, wp_binI, binI_add, binI_sub, binI_mul, binI_fdiv, binI_mod, binI_shr, binI_band, binI_bxor, binI_pow, cmp_lt, cmp_le, cmp_gt, cmp_ge, cmp_eqI, cmp_neI, cmp_eqS, cmp_neS, opt_ite, ite_and, List.getElem?_cons_zero, List.getElem?_cons_succ, List.set_cons_zero, List.set_cons_succ, List.length_cons, List.length_nil, List.append_nil, List.map_cons, List.map_nil, assignT, setSlots, List.cons_append, List.nil_append, Nat.reduceSub, Nat.reduceAdd, decide_eq_true_eq, if_true, if_false, Bool.false_eq_true, Bool.not_true, Bool.not_false, beq_true, beq_false, decide_true, decide_false, List.replicate_zero, List.replicate_succ, true_and, and_true]
    have hpl : plc i < ((Bs (i % 4)).map bI).length := by rw [List.length_map, hb.len _ i4]; exact plc_lt i
    rw [e2, ix_lst (hb.row _ i4) hpl, List.getElem_map, gB_eq]
    simp only [bI, nI_bit, wp_ok, wp_bad, wp_bind, wp_ite, wp_nx, wp_ret, wp_fbad, wp_st, retE_ret, retE_exc, opt_some, opt_none, tru_bl, slotQ_some, intV_int, blV_bl, refV_ref, tupV_tup, wp_loc, wp_cint, wp_cstr, wp_cbl, wp_cnon, wp_cval, wp_bin, wp_neg, wp_nt, wp_cmp, wp_chain, wp_is, wp_and, wp_or, wp_ife, wp_fld, wp_ix, wp_sl, wp_tup, wp_lst, wp_dnew, wp_call, wp_mk, wp_make, wp_meth, wp_methK, wp_blt, wp_bm, wp_comp, wp_comp2, wp_pno, wp_pyes, wp_ono, wp_oyes, wp_esnil, wp_escons, wp_over, wp_range1, wp_range2, wp_range3, wp_enum, wp_rev, wp_nil, wp_ex, wp_set, wp_setf, wp_seti, wp_setTF, wp_sret, wp_retn, wp_pass, wp_brk, wp_cnt, wp_if, wp_for, wp_while, wp_binI, binI_add, binI_sub, binI_mul, binI_fdiv, binI_mod, binI_shr, binI_band, binI_bxor, binI_pow, cmp_lt, cmp_le, cmp_gt, cmp_ge, cmp_eqI, cmp_neI, cmp_eqS, cmp_neS, opt_ite, ite_and, List.getElem?_cons_zero, List.getElem?_cons_succ, List.set_cons_zero, List.set_cons_succ, List.length_cons, List.length_nil, List.append_nil, List.map_cons, List.map_nil, assignT, setSlots, List.cons_append, List.nil_append, Nat.reduceSub, Nat.reduceAdd, decide_eq_true_eq, if_true, if_false, Bool.false_eq_true, Bool.not_true, Bool.not_false, beq_true, beq_false, decide_true, decide_false, List.replicate_zero, List.replicate_succ, true_and, and_true]
    refine ⟨by decide, by decide, ?_⟩
    rw [set_lst (hb.row _ i4) hpl]
    have hs : ((Bs (i % 4)).map bI).set (plc i) (.int (if (!gB (Bs (i % 4)) (plc i)) = true then 1 else 0)) = ((Bs (i % 4)).set (plc i) (!gB (Bs (i % 4)) (plc i))).map bI := by rw [List.map_set]; rfl
    rw [hs]
    refine ⟨_, _, _, rfl, hb.set i4 _, ?_, hx.set (nr _ i4) (Heap.get_lt (hb.row _ i4)), ?_⟩
    · intro j hj
      rw [gat_up hb.len hi hj, htk]
      unfold fl
      rw [List.foldl_append]
      show _ = (if j = i then !(fl (gB (cblk os)) (ks.take k) i) else fl (gB (cblk os)) (ks.take k) j)
      by_cases q : j = i
      · rw [if_pos q, if_pos q, ← hg i hi]; rfl
      · rw [if_neg q, if_neg q, ← hg j hj]
    · rw [Heap.get_set_ne _ _ ?_]
      · exact hr
      · intro q
        have := nr _ i4
        rw [← q, hp] at this
        cases this
  · rintro σ h2 ⟨Bs, a, b, rfl, hb, hg, hx, hr⟩
    rw [List.length_map, List.take_length] at hg
    have hg2 : ∀ j < 456, gat Bs j = (gB (cblk os) j ^^ decide (j / 2 = m)) := by
      intro j hj
      rw [hg j hj, ← hksd]
      show (if j = 2 * m + 1 then !(if 2 * m + 1 = 2 * m then _ else gB (cblk os) (2 * m + 1)) else if j = 2 * m then !gB (cblk os) (2 * m) else gB (cblk os) j) = _
      by_cases q1 : j = 2 * m + 1
      · rw [if_pos q1, if_neg (by omega), q1, decide_eq_true (by omega), Bool.xor_true]
      · rw [if_neg q1]
        by_cases q2 : j = 2 * m
        · rw [if_pos q2, q2, decide_eq_true (by omega), Bool.xor_true]
        · rw [if_neg q2, decide_eq_false (by omega), Bool.xor_false]
    have hcl : ((List.range 456).map (gat Bs)).length = 456 := by simp
    have hcg : ∀ k < 456, gat Bs k = gB ((List.range 456).map (gat Bs)) k := by
      intro k hk
      rw [← gB_eq (by rw [hcl]; exact hk), List.getElem_map, List.getElem_range]
    obtain ⟨c, hf⟩ := near_blk hl (cs := (List.range 456).map (gat Bs)) (m := m) (fun j hj => by rw [← hcg j hj]; exact hg2 j hj)
    have hrow := row_numR (ublk os)
    rw [ublk_length hl] at hrow
    rw [wp_cons]
    try simp only [wp_ok, wp_bad, wp_bind, wp_ite, wp_nx, wp_ret, wp_fbad, wp_st, retE_ret, retE_exc, opt_some, opt_none, tru_bl, slotQ_some, intV_int, blV_bl, refV_ref, tupV_tup, wp_loc, wp_cint, wp_cstr, wp_cbl, wp_cnon, wp_cval, wp_bin, wp_neg, wp_nt, wp_cmp, wp_chain, wp_is, wp_and, wp_or, wp_ife, wp_fld, wp_ix, wp_sl, wp_tup, wp_lst, wp_dnew, wp_call, wp_mk, wp_make, wp_meth, wp_methK, wp_blt, wp_bm, wp_comp, wp_comp2, wp_pno, wp_pyes, wp_ono, wp_oyes, wp_esnil, wp_escons, wp_over, wp_range1, wp_range2, wp_range3, wp_enum, wp_rev, wp_nil, wp_ex, wp_set, wp_setf, wp_seti, wp_setTF, wp_sret, wp_retn, wp_pass, wp_brk, wp_cnt, wp_if, wp_for, wp_while, wp_binI, binI_add, binI_sub, binI_mul, binI_fdiv, binI_mod, binI_shr, binI_band, binI_bxor, binI_pow, cmp_lt, cmp_le, cmp_gt, cmp_ge, cmp_eqI, cmp_neI, cmp_eqS, cmp_neS, opt_ite, ite_and, List.getElem?_cons_zero, List.getElem?_cons_succ, List.set_cons_zero, List.set_cons_succ, List.length_cons, List.length_nil, List.append_nil, List.map_cons, List.map_nil, assignT, setSlots, List.cons_append, List.nil_append, Nat.reduceSub, Nat.reduceAdd, decide_eq_true_eq, if_true, if_false, Bool.false_eq_true, Bool.not_true, Bool.not_false, beq_true, beq_false, decide_true, decide_false, List.replicate_zero, List.replicate_succ, true_and, and_true]
    refine (read_block_wp n h2 hb hcl hcg hf hrow (X := nox)).mono ?_ (fun _ _ _ q => q.elim)
    rintro v h3 ⟨rfl, x3⟩
    have t1 : (ublk os).take 184 = obits os := by
      unfold ublk
      rw [List.append_assoc, List.take_append_of_le_length (by rw [obits_length, hl]; decide), List.take_of_length_le (by rw [obits_length, hl]; decide)]
    have t2 : ((ublk os).drop 184).take 40 = parB bdiv (obits os) := by
      have l1 : (obits os).length = 184 := by rw [obits_length, hl]
      have l2 : (parB bdiv (obits os)).length = 40 := by rw [parB_length]; rfl
      unfold ublk
      rw [List.append_assoc, ← l1, List.drop_left, ← l2, List.take_left]
    rw [t1, t2, decide_eq_true rfl]
    rw [show (octs (obits os) 23) = os by rw [← hl]; exact octs_obits os ho]
    try simp only [wp_ok, wp_bad, wp_bind, wp_ite, wp_nx, wp_ret, wp_fbad, wp_st, retE_ret, retE_exc, opt_some, opt_none, tru_bl, slotQ_some, intV_int, blV_bl, refV_ref, tupV_tup, wp_loc, wp_cint, wp_cstr, wp_cbl, wp_cnon, wp_cval, wp_bin, wp_neg, wp_nt, wp_cmp, wp_chain, wp_is, wp_and, wp_or, wp_ife, wp_fld, wp_ix, wp_sl, wp_tup, wp_lst, wp_dnew, wp_call, wp_mk, wp_make, wp_meth, wp_methK, wp_blt, wp_bm, wp_comp, wp_comp2, wp_pno, wp_pyes, wp_ono, wp_oyes, wp_esnil, wp_escons, wp_over, wp_range1, wp_range2, wp_range3, wp_enum, wp_rev, wp_nil, wp_ex, wp_set, wp_setf, wp_seti, wp_setTF, wp_sret, wp_retn, wp_pass, wp_brk, wp_cnt, wp_if, wp_for, wp_while, wp_binI, binI_add, binI_sub, binI_mul, binI_fdiv, binI_mod, binI_shr, binI_band, binI_bxor, binI_pow, cmp_lt, cmp_le, cmp_gt, cmp_ge, cmp_eqI, cmp_neI, cmp_eqS, cmp_neS, opt_ite, ite_and, List.getElem?_cons_zero, List.getElem?_cons_succ, List.set_cons_zero, List.set_cons_succ, List.length_cons, List.length_nil, List.append_nil, List.map_cons, List.map_nil, assignT, setSlots, List.cons_append, List.nil_append, Nat.reduceSub, Nat.reduceAdd, decide_eq_true_eq, if_true, if_false, Bool.false_eq_true, Bool.not_true, Bool.not_false, beq_true, beq_false, decide_true, decide_false, List.replicate_zero, List.replicate_succ, true_and, and_true]
    rw [wp_cons]
    try simp only [wp_ok, wp_bad, wp_bind, wp_ite, wp_nx, wp_ret, wp_fbad, wp_st, retE_ret, retE_exc, opt_some, opt_none, tru_bl, slotQ_some, intV_int, blV_bl, refV_ref, tupV_tup, wp_loc, wp_cint, wp_cstr, wp_cbl, wp_cnon, wp_cval, wp_bin, wp_neg, wp_nt, wp_cmp, wp_chain, wp_is, wp_and, wp_or, wp_ife, wp_fld, wp_ix, wp_sl, wp_tup, wp_lst, wp_dnew, wp_call, wp_mk, wp_make, wp_meth, wp_methK, wp_blt, wp_bm, wp_comp, wp_comp2, wp_pno, wp_pyes, wp_ono, wp_oyes, wp_esnil, wp_escons, wp_over, wp_range1, wp_range2, wp_range3, wp_enum, wp_rev, wp_nil, wp_ex, wp_set, wp_setf, wp_seti, wp_setTF, wp_sret, wp_retn, wp_pass, wp_brk, wp_cnt, wp_if, wp_for, wp_while, wp_binI, binI_add, binI_sub, binI_mul, binI_fdiv, binI_mod, binI_shr, binI_band, binI_bxor, binI_pow, cmp_lt, cmp_le, cmp_gt, cmp_ge, cmp_eqI, cmp_neI, cmp_eqS, cmp_neS, opt_ite, ite_and, List.getElem?_cons_zero, List.getElem?_cons_succ, List.set_cons_zero, List.set_cons_succ, List.length_cons, List.length_nil, List.append_nil, List.map_cons, List.map_nil, assignT, setSlots, List.cons_append, List.nil_append, Nat.reduceSub, Nat.reduceAdd, decide_eq_true_eq, if_true, if_false, Bool.false_eq_true, Bool.not_true, Bool.not_false, beq_true, beq_false, decide_true, decide_false, List.replicate_zero, List.replicate_succ, true_and, and_true]
    rw [wp_cons]
    try simp only [wp_ok, wp_bad, wp_bind, wp_ite, wp_nx, wp_ret, wp_fbad, wp_st, retE_ret, retE_exc, opt_some, opt_none, tru_bl, slotQ_some, intV_int, blV_bl, refV_ref, tupV_tup, wp_loc, wp_cint, wp_cstr, wp_cbl, wp_cnon, wp_cval, wp_bin, wp_neg, wp_nt, wp_cmp, wp_chain, wp_is, wp_and, wp_or, wp_ife, wp_fld, wp_ix, wp_sl, wp_tup, wp_lst, wp_dnew, wp_call, wp_mk, wp_make, wp_meth, wp_methK, wp_blt, wp_bm, wp_comp, wp_comp2, wp_pno, wp_pyes, wp_ono, wp_oyes, wp_esnil, wp_escons, wp_over, wp_range1, wp_range2, wp_range3, wp_enum, wp_rev, wp_nil, wp_ex, wp_set, wp_setf, wp_seti, wp_setTF, wp_sret, wp_retn, wp_pass, wp_brk, wp_cnt, wp_if, wp_for, wp_while, wp_binI, binI_add, binI_sub, binI_mul, binI_fdiv, binI_mod, binI_shr, binI_band, binI_bxor, binI_pow, cmp_lt, cmp_le, cmp_gt, cmp_ge, cmp_eqI, cmp_neI, cmp_eqS, cmp_neS, opt_ite, ite_and, List.getElem?_cons_zero, List.getElem?_cons_succ, List.set_cons_zero, List.set_cons_succ, List.length_cons, List.length_nil, List.append_nil, List.map_cons, List.map_nil, assignT, setSlots, List.cons_append, List.nil_append, Nat.reduceSub, Nat.reduceAdd, decide_eq_true_eq, if_true, if_false, Bool.false_eq_true, Bool.not_true, Bool.not_false, beq_true, beq_false, decide_true, decide_false, List.replicate_zero, List.replicate_succ, true_and, and_true]
    exact hx.trans x3
  · exact ⟨Bs, _, _, rfl, b1, gg, x1, hpl⟩
end M
end

section
set_option linter.all false
set_option Elab.async false
set_option maxRecDepth 4000
set_option pp.maxSteps 700
/-! P10: the air's methods. -/
namespace M
theorem lookK_putK {κ : Type} [DecidableEq κ] (k k' : κ) (v : Val) (kvs : List (κ × Val)) : lookK k (putK k' v kvs) = if k = k' then some v else lookK k kvs := by
  have l1 : ∀ xs : List (κ × Val), (∀ p ∈ xs, p.1 ≠ k') → lookK k (xs ++ [(k', v)]) = if k = k' then some v else lookK k xs := by
    intro xs
    induction xs with
    | nil => intro _; rfl
    | cons x xs ih =>
      intro h
      obtain ⟨a, b⟩ := x
      simp only [List.cons_append, lookK]
      have ha : a ≠ k' := h _ List.mem_cons_self
      by_cases e : k = a
      · rw [if_pos e, if_pos e, if_neg (by rw [e]; exact ha)]
      · rw [if_neg e, if_neg e, ih fun p hp => h p (List.mem_cons_of_mem _ hp)]
  have l2 : ∀ xs : List (κ × Val), (xs.any fun p => decide (p.1 = k')) = true → lookK k (xs.map fun p => if p.1 = k' then (p.1, v) else p) = if k = k' then some v else lookK k xs := by
    intro xs
    induction xs with
    | nil => intro h; cases h
    | cons x xs ih =>
      intro h
      obtain ⟨a, b⟩ := x
      simp only [List.any_cons, Bool.or_eq_true, decide_eq_true_eq] at h
      simp only [List.map_cons]
      by_cases ea : a = k'
      · subst ea
        simp only [if_true, lookK]
        by_cases e : k = a
        · rw [if_pos e, if_pos e]
        · rw [if_neg e, if_neg e, if_neg e]
          by_cases q : (xs.any fun p => decide (p.1 = a)) = true
          · rw [ih q, if_neg e]
          · have : xs.map (fun p => if p.1 = a then (p.1, v) else p) = xs := by
              rw [List.map_congr_left (g := id)]
              · simp
              · intro p hp
                have : ¬ p.1 = a := by
                  intro z
                  apply q
                  rw [List.any_eq_true]
                  exact ⟨p, hp, decide_eq_true z⟩
                rw [if_neg this]; rfl
            rw [this]
      · rcases h with h | h
        · exact absurd h ea
        · simp only [ea, if_false, lookK]
          by_cases e : k = a
          · rw [if_pos e, if_pos e, if_neg (by rw [e]; exact ea)]
          · rw [if_neg e, if_neg e, ih h]
  unfold putK
  split
  · exact l2 kvs (by assumption)
  · rename_i h
    refine l1 kvs fun p hp e => h ?_
    rw [List.any_eq_true]
    exact ⟨p, hp, decide_eq_true e⟩
theorem putK_length {κ : Type} [DecidableEq κ] (k : κ) (v : Val) (kvs : List (κ × Val)) : (putK k v kvs).length ≤ kvs.length + 1 := by
  unfold putK
  split
  · rw [List.length_map]; omega
  · rw [List.length_append]; exact Nat.le_refl _
def wayS (w : Bool) : Sg := if w then [100, 111, 119, 110] else [117, 112]
def key (p : Nat) (w : Bool) : List K := [.i (p : Nat), .s (wayS w)]
def keyV (p : Nat) (w : Bool) : List Val := [.int (p : Nat), .str (wayS w)]
theorem key_stat {p : Nat} (w : Bool) (hp : p < 2) : isStat (keyV p w) = false := by
  have : p = 0 ∨ p = 1 := by omega
  rcases this with rfl | rfl <;> cases w <;> rfl
theorem key_atoms (p : Nat) (w : Bool) : atomsOf (keyV p w) = some (key p w) := rfl
theorem dGet_key {p : Nat} {w : Bool} (hp : p < 2) (kvs : List (List K × Val)) : dGet (.dcT kvs) (.tup (keyV p w)) = some (lookK (key p w) kvs) := by
  unfold dGet
  simp only [key_stat w hp, key_atoms]
  rfl
theorem dPut_key {p : Nat} {w : Bool} (hp : p < 2) {kvs : List (List K × Val)} (hl : kvs.length < 1000) (v : Val) : dPut (.dcT kvs) (.tup (keyV p w)) v = some (.dcT (putK (key p w) v kvs)) := by
  unfold dPut
  simp only [key_stat w hp, key_atoms]
  rw [if_pos ⟨trivial, by unfold sizeLine; omega⟩]
  rfl
theorem get_key {h : Heap} {a p : Nat} {w : Bool} {kvs : List (List K × Val)} (e : h.get a = some (.dcT kvs)) (hp : p < 2) (y : Val) {Q : Val → Heap → Prop} {X : Nat → List Val → Heap → Prop} :
    (blt .get [.ref a, .tup (keyV p w), y] h).wp Q X = Q ((lookK (key p w) kvs).getD y) h := by
  unfold blt bGet dictOf
  simp only [e, Option.bind, dGet_key hp]
  cases lookK (key p w) kvs <;> rfl
theorem set_key {h : Heap} {a p : Nat} {w : Bool} {kvs : List (List K × Val)} (e : h.get a = some (.dcT kvs)) (hp : p < 2) (hl : kvs.length < 1000) (v : Val) : setV h (.ref a) (.tup (keyV p w)) v = some (h.set a (.dcT (putK (key p w) v kvs))) := by
  unfold setV
  simp only [e, dPut_key hp hl]
  rfl
theorem ix_key {h : Heap} {a p : Nat} {w : Bool} {kvs : List (List K × Val)} (e : h.get a = some (.dcT kvs)) (hp : p < 2) : ixV h (.ref a) (.tup (keyV p w)) = lookK (key p w) kvs := by
  unfold ixV
  simp only [e, dGet_key hp]
  rfl
theorem recv_get {h : Heap} {a : Nat} {kvs : List (List K × Val)} (e : h.get a = some (.dcT kvs)) : recv .get (.ref a) h = true := by
  unfold recv dictOf; simp only [e]
/-- a dict of counts -/
def DI (kvs : List (List K × Val)) (L : List K → Int) : Prop := ∀ k, (lookK k kvs).getD (.int 0) = .int (L k)
def upL (L : List K → Int) (k : List K) (v : Int) : List K → Int := fun j => if j = k then v else L j
theorem DI.put {kvs : List (List K × Val)} {L : List K → Int} (d : DI kvs L) (k : List K) (v : Int) : DI (putK k (.int v) kvs) (upL L k v) := by
  intro j
  rw [lookK_putK]
  unfold upL
  by_cases e : j = k
  · rw [if_pos e, if_pos e]; rfl
  · rw [if_neg e, if_neg e]; exact d j
/-- a list of places: none, or those of two neighbours -/
def Pl (h : Heap) (v : Val) : Prop := ∃ r, v = .ref r ∧ 13 < r ∧ (h.get r = some (.lst []) ∨ ∃ m < 228, h.get r = some (.lst [nI (lp (2 * m)), nI (lp (2 * m + 1))]))
theorem Pl.ext {h h' : Heap} {v : Val} (p : Pl h v) (x : Ext h h') : Pl h' v := by
  obtain ⟨r, e, hr, q⟩ := p
  refine ⟨r, e, hr, ?_⟩
  rcases q with q | ⟨m, hm, q⟩
  · exact .inl (x.2 _ _ q)
  · exact .inr ⟨m, hm, x.2 _ _ q⟩
theorem Pl.set {h : Heap} {v : Val} (p : Pl h v) {a : Nat} {o : Obj} (ha : v ≠ .ref a) : Pl (h.set a o) v := by
  obtain ⟨r, e, hr, q⟩ := p
  refine ⟨r, e, hr, ?_⟩
  have : r ≠ a := fun z => ha (by rw [e, z])
  rw [Heap.get_set_ne _ _ this]
  exact q
theorem Pl.set13 {h : Heap} {v : Val} (p : Pl h v) {a : Nat} {o : Obj} (ha : a ≤ 13) : Pl (h.set a o) v := by
  refine p.set ?_
  obtain ⟨r, e, hr, _⟩ := p
  intro z
  rw [e] at z
  cases z
  omega
def FI (h : Heap) (fs : List (List K × Val)) : Prop := ∀ k v, lookK k fs = some v → Pl h v
structure S (h : Heap) (vs : List Val) (lv lvf : Nat → Nat → Int) (ls lf fs : List (List K × Val)) (L Lf : List K → Int) (m : Nat) : Prop where
  s0 : h.get 0 = some (.ins 22 [(138, .ref 5)])
  s5 : h.get 5 = some (.lst [.ref 2, .ref 4])
  s2 : h.get 2 = some (.lst [.int (lv 0 0), .int (lv 0 1)])
  s4 : h.get 4 = some (.lst [.int (lv 1 0), .int (lv 1 1)])
  s6 : h.get 6 = some (.ins 0 [(153, .ref 0), (97, .ref 7), (62, .ref 8)])
  s7 : h.get 7 = some (.dcT ls)
  s8 : h.get 8 = some (.dcT fs)
  s9 : h.get 9 = some (.lst [.int (lvf 0 0), .int (lvf 0 1)])
  s10 : h.get 10 = some (.lst [.int (lvf 1 0), .int (lvf 1 1)])
  s11 : h.get 11 = some (.lst [.ref 9, .ref 10])
  s12 : h.get 12 = some (.dcT lf)
  s13 : h.get 13 = some (.lst vs)
  dl : DI ls L
  df : DI lf Lf
  fi : FI h fs
  nl : ls.length ≤ m
  nf : lf.length ≤ m
  ns : fs.length ≤ m
theorem S.ext {h h' : Heap} {vs : List Val} {lv lvf : Nat → Nat → Int} {ls lf fs : List (List K × Val)} {L Lf : List K → Int} {m : Nat} (s : S h vs lv lvf ls lf fs L Lf m) (x : Ext h h') : S h' vs lv lvf ls lf fs L Lf m :=
  ⟨x.2 _ _ s.s0, x.2 _ _ s.s5, x.2 _ _ s.s2, x.2 _ _ s.s4, x.2 _ _ s.s6, x.2 _ _ s.s7, x.2 _ _ s.s8, x.2 _ _ s.s9, x.2 _ _ s.s10, x.2 _ _ s.s11, x.2 _ _ s.s12, x.2 _ _ s.s13, s.dl, s.df, fun k v e => (s.fi k v e).ext x, s.nl, s.nf, s.ns⟩
theorem S.size {h : Heap} {vs : List Val} {lv lvf : Nat → Nat → Int} {ls lf fs : List (List K × Val)} {L Lf : List K → Int} {m : Nat} (s : S h vs lv lvf ls lf fs L Lf m) : 13 < h.size := Heap.get_lt s.s13
section
variable {h : Heap} {vs : List Val} {lv lvf : Nat → Nat → Int} {ls lf fs : List (List K × Val)} {L Lf : List K → Int} {m : Nat} {X : Nat → List Val → Heap → Prop}
theorem ix2 {a : Nat} {v w : Val} (e : h.get a = some (.lst [v, w])) {p : Nat} (hp : p < 2) : ixV h (.ref a) (.int (p : Nat)) = some (if p = 0 then v else w) := by
  rw [ix_lst e (by simpa using hp)]
  have : p = 0 ∨ p = 1 := by omega
  rcases this with rfl | rfl <;> rfl
theorem S.rowp (s : S h vs lv lvf ls lf fs L Lf m) {p : Nat} (hp : p < 2) : h.get (if p = 0 then 2 else 4) = some (.lst [.int (lv p 0), .int (lv p 1)]) := by
  have : p = 0 ∨ p = 1 := by omega
  rcases this with rfl | rfl
  · exact s.s2
  · exact s.s4
theorem S.rowq (s : S h vs lv lvf ls lf fs L Lf m) {p : Nat} (hp : p < 2) : h.get (if p = 0 then 9 else 10) = some (.lst [.int (lvf p 0), .int (lvf p 1)]) := by
  have : p = 0 ∨ p = 1 := by omega
  rcases this with rfl | rfl
  · exact s.s9
  · exact s.s10
theorem ref_if {p a b : Nat} : (if p = 0 then Val.ref a else .ref b) = .ref (if p = 0 then a else b) := by split <;> rfl
theorem int_if {q : Nat} {f : Nat → Int} (hq : q < 2) : (if q = 0 then Val.int (f 0) else .int (f 1)) = .int (f q) := by
  have : q = 0 ∨ q = 1 := by omega
  rcases this with rfl | rfl <;> rfl
theorem fn_find : TT.fn 143 = some c_Signals_find := rfl
theorem find_wp (n : Nat) (s : S h vs lv lvf ls lf fs L Lf m) {p q : Nat} (hp : p < 2) (hq : q < 2) : (callAt TT (n + 1) 143 [.ref 0, .int (p : Nat), .int (q : Nat)] h).wp (fun v h' => v = .non ∧ h' = h) X := by
  refine call_wp fn_find rfl ?_
  unfold c_Signals_find
  rw [wp_cons]
  try simp only [wp_ok, wp_bad, wp_bind, wp_ite, wp_nx, wp_ret, wp_fbad, wp_st, retE_ret, retE_exc, opt_some, opt_none, tru_bl, slotQ_some, intV_int, blV_bl, refV_ref, tupV_tup, wp_loc, wp_cint, wp_cstr, wp_cbl, wp_cnon, wp_cval, wp_bin, wp_neg, wp_nt, wp_cmp, wp_chain, wp_is, wp_and, wp_or, wp_ife, wp_fld, wp_ix, wp_sl, wp_tup, wp_lst, wp_dnew, wp_call, wp_mk, wp_make, wp_meth, wp_methK, wp_blt, wp_bm, wp_comp, wp_comp2, wp_pno, wp_pyes, wp_ono, wp_oyes, wp_esnil, wp_escons, wp_over, wp_range1, wp_range2, wp_range3, wp_enum, wp_rev, wp_nil, wp_ex, wp_set, wp_setf, wp_seti, wp_setTF, wp_sret, wp_retn, wp_pass, wp_brk, wp_cnt, wp_if, wp_for, wp_while, wp_binI, binI_add, binI_sub, binI_mul, binI_fdiv, binI_mod, binI_shr, binI_band, binI_bxor, binI_pow, cmp_lt, cmp_le, cmp_gt, cmp_ge, cmp_eqI, cmp_neI, cmp_eqS, cmp_neS, opt_ite, ite_and, List.getElem?_cons_zero, List.getElem?_cons_succ, List.set_cons_zero, List.set_cons_succ, List.length_cons, List.length_nil, List.append_nil, List.map_cons, List.map_nil, assignT, setSlots, List.cons_append, List.nil_append, Nat.reduceSub, Nat.reduceAdd, decide_eq_true_eq, if_true, if_false, Bool.false_eq_true, Bool.not_true, Bool.not_false, beq_true, beq_false, decide_true, decide_false, List.replicate_zero, List.replicate_succ, true_and, and_true]
  rw [eqn_get s.s0 rfl, len_lst s.s5]
  try simp only [wp_ok, wp_bad, wp_bind, wp_ite, wp_nx, wp_ret, wp_fbad, wp_st, retE_ret, retE_exc, opt_some, opt_none, tru_bl, slotQ_some, intV_int, blV_bl, refV_ref, tupV_tup, wp_loc, wp_cint, wp_cstr, wp_cbl, wp_cnon, wp_cval, wp_bin, wp_neg, wp_nt, wp_cmp, wp_chain, wp_is, wp_and, wp_or, wp_ife, wp_fld, wp_ix, wp_sl, wp_tup, wp_lst, wp_dnew, wp_call, wp_mk, wp_make, wp_meth, wp_methK, wp_blt, wp_bm, wp_comp, wp_comp2, wp_pno, wp_pyes, wp_ono, wp_oyes, wp_esnil, wp_escons, wp_over, wp_range1, wp_range2, wp_range3, wp_enum, wp_rev, wp_nil, wp_ex, wp_set, wp_setf, wp_seti, wp_setTF, wp_sret, wp_retn, wp_pass, wp_brk, wp_cnt, wp_if, wp_for, wp_while, wp_binI, binI_add, binI_sub, binI_mul, binI_fdiv, binI_mod, binI_shr, binI_band, binI_bxor, binI_pow, cmp_lt, cmp_le, cmp_gt, cmp_ge, cmp_eqI, cmp_neI, cmp_eqS, cmp_neS, opt_ite, ite_and, List.getElem?_cons_zero, List.getElem?_cons_succ, List.set_cons_zero, List.set_cons_succ, List.length_cons, List.length_nil, List.append_nil, List.map_cons, List.map_nil, assignT, setSlots, List.cons_append, List.nil_append, Nat.reduceSub, Nat.reduceAdd, decide_eq_true_eq, if_true, if_false, Bool.false_eq_true, Bool.not_true, Bool.not_false, beq_true, beq_false, decide_true, decide_false, List.replicate_zero, List.replicate_succ, true_and, and_true]
  rw [if_neg (by omega), if_neg (by omega)]
  rw [wp_cons]
  try simp only [wp_ok, wp_bad, wp_bind, wp_ite, wp_nx, wp_ret, wp_fbad, wp_st, retE_ret, retE_exc, opt_some, opt_none, tru_bl, slotQ_some, intV_int, blV_bl, refV_ref, tupV_tup, wp_loc, wp_cint, wp_cstr, wp_cbl, wp_cnon, wp_cval, wp_bin, wp_neg, wp_nt, wp_cmp, wp_chain, wp_is, wp_and, wp_or, wp_ife, wp_fld, wp_ix, wp_sl, wp_tup, wp_lst, wp_dnew, wp_call, wp_mk, wp_make, wp_meth, wp_methK, wp_blt, wp_bm, wp_comp, wp_comp2, wp_pno, wp_pyes, wp_ono, wp_oyes, wp_esnil, wp_escons, wp_over, wp_range1, wp_range2, wp_range3, wp_enum, wp_rev, wp_nil, wp_ex, wp_set, wp_setf, wp_seti, wp_setTF, wp_sret, wp_retn, wp_pass, wp_brk, wp_cnt, wp_if, wp_for, wp_while, wp_binI, binI_add, binI_sub, binI_mul, binI_fdiv, binI_mod, binI_shr, binI_band, binI_bxor, binI_pow, cmp_lt, cmp_le, cmp_gt, cmp_ge, cmp_eqI, cmp_neI, cmp_eqS, cmp_neS, opt_ite, ite_and, List.getElem?_cons_zero, List.getElem?_cons_succ, List.set_cons_zero, List.set_cons_succ, List.length_cons, List.length_nil, List.append_nil, List.map_cons, List.map_nil, assignT, setSlots, List.cons_append, List.nil_append, Nat.reduceSub, Nat.reduceAdd, decide_eq_true_eq, if_true, if_false, Bool.false_eq_true, Bool.not_true, Bool.not_false, beq_true, beq_false, decide_true, decide_false, List.replicate_zero, List.replicate_succ, true_and, and_true]
  rw [eqn_get s.s0 rfl, ix2 s.s5 hp, opt_some, ref_if, len_lst (s.rowp hp)]
  try simp only [wp_ok, wp_bad, wp_bind, wp_ite, wp_nx, wp_ret, wp_fbad, wp_st, retE_ret, retE_exc, opt_some, opt_none, tru_bl, slotQ_some, intV_int, blV_bl, refV_ref, tupV_tup, wp_loc, wp_cint, wp_cstr, wp_cbl, wp_cnon, wp_cval, wp_bin, wp_neg, wp_nt, wp_cmp, wp_chain, wp_is, wp_and, wp_or, wp_ife, wp_fld, wp_ix, wp_sl, wp_tup, wp_lst, wp_dnew, wp_call, wp_mk, wp_make, wp_meth, wp_methK, wp_blt, wp_bm, wp_comp, wp_comp2, wp_pno, wp_pyes, wp_ono, wp_oyes, wp_esnil, wp_escons, wp_over, wp_range1, wp_range2, wp_range3, wp_enum, wp_rev, wp_nil, wp_ex, wp_set, wp_setf, wp_seti, wp_setTF, wp_sret, wp_retn, wp_pass, wp_brk, wp_cnt, wp_if, wp_for, wp_while, wp_binI, binI_add, binI_sub, binI_mul, binI_fdiv, binI_mod, binI_shr, binI_band, binI_bxor, binI_pow, cmp_lt, cmp_le, cmp_gt, cmp_ge, cmp_eqI, cmp_neI, cmp_eqS, cmp_neS, opt_ite, ite_and, List.getElem?_cons_zero, List.getElem?_cons_succ, List.set_cons_zero, List.set_cons_succ, List.length_cons, List.length_nil, List.append_nil, List.map_cons, List.map_nil, assignT, setSlots, List.cons_append, List.nil_append, Nat.reduceSub, Nat.reduceAdd, decide_eq_true_eq, if_true, if_false, Bool.false_eq_true, Bool.not_true, Bool.not_false, beq_true, beq_false, decide_true, decide_false, List.replicate_zero, List.replicate_succ, true_and, and_true]
  rw [if_neg (by omega), if_neg (by omega)]
  trivial
theorem fn_level : TT.fn 145 = some c_Signals_level := rfl
theorem m59 : TT.meth 22 59 = some 143 := rfl
theorem m89 : TT.meth 22 89 = some 145 := rfl
theorem m150 : TT.meth 22 150 = some 146 := rfl
theorem m71 : TT.meth 22 71 = some 144 := rfl
theorem m96 : TT.meth 0 96 = some 3 := rfl
theorem m69 : TT.meth 0 69 = some 2 := rfl
theorem m32 : TT.meth 0 32 = some 1 := rfl
theorem level_wp (n : Nat) (s : S h vs lv lvf ls lf fs L Lf m) {p q : Nat} (hp : p < 2) (hq : q < 2) : (callAt TT (n + 2) 145 [.ref 0, .int (p : Nat), .int (q : Nat)] h).wp (fun v h' => v = .int (lv p q) ∧ h' = h) X := by
  refine call_wp fn_level rfl ?_
  unfold c_Signals_level
  rw [wp_cons]
  try simp only [wp_ok, wp_bad, wp_bind, wp_ite, wp_nx, wp_ret, wp_fbad, wp_st, retE_ret, retE_exc, opt_some, opt_none, tru_bl, slotQ_some, intV_int, blV_bl, refV_ref, tupV_tup, wp_loc, wp_cint, wp_cstr, wp_cbl, wp_cnon, wp_cval, wp_bin, wp_neg, wp_nt, wp_cmp, wp_chain, wp_is, wp_and, wp_or, wp_ife, wp_fld, wp_ix, wp_sl, wp_tup, wp_lst, wp_dnew, wp_call, wp_mk, wp_make, wp_meth, wp_methK, wp_blt, wp_bm, wp_comp, wp_comp2, wp_pno, wp_pyes, wp_ono, wp_oyes, wp_esnil, wp_escons, wp_over, wp_range1, wp_range2, wp_range3, wp_enum, wp_rev, wp_nil, wp_ex, wp_set, wp_setf, wp_seti, wp_setTF, wp_sret, wp_retn, wp_pass, wp_brk, wp_cnt, wp_if, wp_for, wp_while, wp_binI, binI_add, binI_sub, binI_mul, binI_fdiv, binI_mod, binI_shr, binI_band, binI_bxor, binI_pow, cmp_lt, cmp_le, cmp_gt, cmp_ge, cmp_eqI, cmp_neI, cmp_eqS, cmp_neS, opt_ite, ite_and, List.getElem?_cons_zero, List.getElem?_cons_succ, List.set_cons_zero, List.set_cons_succ, List.length_cons, List.length_nil, List.append_nil, List.map_cons, List.map_nil, assignT, setSlots, List.cons_append, List.nil_append, Nat.reduceSub, Nat.reduceAdd, decide_eq_true_eq, if_true, if_false, Bool.false_eq_true, Bool.not_true, Bool.not_false, beq_true, beq_false, decide_true, decide_false, List.replicate_zero, List.replicate_succ, true_and, and_true]
  rw [meth_ref s.s0 rfl, m59]
  try simp only [wp_ok, wp_bad, wp_bind, wp_ite, wp_nx, wp_ret, wp_fbad, wp_st, retE_ret, retE_exc, opt_some, opt_none, tru_bl, slotQ_some, intV_int, blV_bl, refV_ref, tupV_tup, wp_loc, wp_cint, wp_cstr, wp_cbl, wp_cnon, wp_cval, wp_bin, wp_neg, wp_nt, wp_cmp, wp_chain, wp_is, wp_and, wp_or, wp_ife, wp_fld, wp_ix, wp_sl, wp_tup, wp_lst, wp_dnew, wp_call, wp_mk, wp_make, wp_meth, wp_methK, wp_blt, wp_bm, wp_comp, wp_comp2, wp_pno, wp_pyes, wp_ono, wp_oyes, wp_esnil, wp_escons, wp_over, wp_range1, wp_range2, wp_range3, wp_enum, wp_rev, wp_nil, wp_ex, wp_set, wp_setf, wp_seti, wp_setTF, wp_sret, wp_retn, wp_pass, wp_brk, wp_cnt, wp_if, wp_for, wp_while, wp_binI, binI_add, binI_sub, binI_mul, binI_fdiv, binI_mod, binI_shr, binI_band, binI_bxor, binI_pow, cmp_lt, cmp_le, cmp_gt, cmp_ge, cmp_eqI, cmp_neI, cmp_eqS, cmp_neS, opt_ite, ite_and, List.getElem?_cons_zero, List.getElem?_cons_succ, List.set_cons_zero, List.set_cons_succ, List.length_cons, List.length_nil, List.append_nil, List.map_cons, List.map_nil, assignT, setSlots, List.cons_append, List.nil_append, Nat.reduceSub, Nat.reduceAdd, decide_eq_true_eq, if_true, if_false, Bool.false_eq_true, Bool.not_true, Bool.not_false, beq_true, beq_false, decide_true, decide_false, List.replicate_zero, List.replicate_succ, true_and, and_true]
  refine (find_wp n s hp hq (X := nox)).mono ?_ (fun _ _ _ q => q.elim)
  rintro v h' ⟨rfl, rfl⟩
  rw [wp_cons]
  try simp only [wp_ok, wp_bad, wp_bind, wp_ite, wp_nx, wp_ret, wp_fbad, wp_st, retE_ret, retE_exc, opt_some, opt_none, tru_bl, slotQ_some, intV_int, blV_bl, refV_ref, tupV_tup, wp_loc, wp_cint, wp_cstr, wp_cbl, wp_cnon, wp_cval, wp_bin, wp_neg, wp_nt, wp_cmp, wp_chain, wp_is, wp_and, wp_or, wp_ife, wp_fld, wp_ix, wp_sl, wp_tup, wp_lst, wp_dnew, wp_call, wp_mk, wp_make, wp_meth, wp_methK, wp_blt, wp_bm, wp_comp, wp_comp2, wp_pno, wp_pyes, wp_ono, wp_oyes, wp_esnil, wp_escons, wp_over, wp_range1, wp_range2, wp_range3, wp_enum, wp_rev, wp_nil, wp_ex, wp_set, wp_setf, wp_seti, wp_setTF, wp_sret, wp_retn, wp_pass, wp_brk, wp_cnt, wp_if, wp_for, wp_while, wp_binI, binI_add, binI_sub, binI_mul, binI_fdiv, binI_mod, binI_shr, binI_band, binI_bxor, binI_pow, cmp_lt, cmp_le, cmp_gt, cmp_ge, cmp_eqI, cmp_neI, cmp_eqS, cmp_neS, opt_ite, ite_and, List.getElem?_cons_zero, List.getElem?_cons_succ, List.set_cons_zero, List.set_cons_succ, List.length_cons, List.length_nil, List.append_nil, List.map_cons, List.map_nil, assignT, setSlots, List.cons_append, List.nil_append, Nat.reduceSub, Nat.reduceAdd, decide_eq_true_eq, if_true, if_false, Bool.false_eq_true, Bool.not_true, Bool.not_false, beq_true, beq_false, decide_true, decide_false, List.replicate_zero, List.replicate_succ, true_and, and_true]
  rw [eqn_get s.s0 rfl, ix2 s.s5 hp, opt_some, ref_if, ix2 (s.rowp hp) hq, int_if hq]
  exact ⟨rfl, rfl⟩
theorem fn_hears : TT.fn 144 = some c_Signals_hears := rfl
theorem hears_wp (n : Nat) (s : S h vs lv lvf ls lf fs L Lf m) {p q : Nat} (hp : p < 2) (hq : q < 2) : (callAt TT (n + 3) 144 [.ref 0, .int (p : Nat), .int (q : Nat)] h).wp (fun v h' => v = .bl (decide (5 ≤ lv p q)) ∧ h' = h) X := by
  refine call_wp fn_hears rfl ?_
  unfold c_Signals_hears
  rw [wp_cons]
  try simp only [wp_ok, wp_bad, wp_bind, wp_ite, wp_nx, wp_ret, wp_fbad, wp_st, retE_ret, retE_exc, opt_some, opt_none, tru_bl, slotQ_some, intV_int, blV_bl, refV_ref, tupV_tup, wp_loc, wp_cint, wp_cstr, wp_cbl, wp_cnon, wp_cval, wp_bin, wp_neg, wp_nt, wp_cmp, wp_chain, wp_is, wp_and, wp_or, wp_ife, wp_fld, wp_ix, wp_sl, wp_tup, wp_lst, wp_dnew, wp_call, wp_mk, wp_make, wp_meth, wp_methK, wp_blt, wp_bm, wp_comp, wp_comp2, wp_pno, wp_pyes, wp_ono, wp_oyes, wp_esnil, wp_escons, wp_over, wp_range1, wp_range2, wp_range3, wp_enum, wp_rev, wp_nil, wp_ex, wp_set, wp_setf, wp_seti, wp_setTF, wp_sret, wp_retn, wp_pass, wp_brk, wp_cnt, wp_if, wp_for, wp_while, wp_binI, binI_add, binI_sub, binI_mul, binI_fdiv, binI_mod, binI_shr, binI_band, binI_bxor, binI_pow, cmp_lt, cmp_le, cmp_gt, cmp_ge, cmp_eqI, cmp_neI, cmp_eqS, cmp_neS, opt_ite, ite_and, List.getElem?_cons_zero, List.getElem?_cons_succ, List.set_cons_zero, List.set_cons_succ, List.length_cons, List.length_nil, List.append_nil, List.map_cons, List.map_nil, assignT, setSlots, List.cons_append, List.nil_append, Nat.reduceSub, Nat.reduceAdd, decide_eq_true_eq, if_true, if_false, Bool.false_eq_true, Bool.not_true, Bool.not_false, beq_true, beq_false, decide_true, decide_false, List.replicate_zero, List.replicate_succ, true_and, and_true]
  rw [meth_ref s.s0 rfl, m89]
  try simp only [wp_ok, wp_bad, wp_bind, wp_ite, wp_nx, wp_ret, wp_fbad, wp_st, retE_ret, retE_exc, opt_some, opt_none, tru_bl, slotQ_some, intV_int, blV_bl, refV_ref, tupV_tup, wp_loc, wp_cint, wp_cstr, wp_cbl, wp_cnon, wp_cval, wp_bin, wp_neg, wp_nt, wp_cmp, wp_chain, wp_is, wp_and, wp_or, wp_ife, wp_fld, wp_ix, wp_sl, wp_tup, wp_lst, wp_dnew, wp_call, wp_mk, wp_make, wp_meth, wp_methK, wp_blt, wp_bm, wp_comp, wp_comp2, wp_pno, wp_pyes, wp_ono, wp_oyes, wp_esnil, wp_escons, wp_over, wp_range1, wp_range2, wp_range3, wp_enum, wp_rev, wp_nil, wp_ex, wp_set, wp_setf, wp_seti, wp_setTF, wp_sret, wp_retn, wp_pass, wp_brk, wp_cnt, wp_if, wp_for, wp_while, wp_binI, binI_add, binI_sub, binI_mul, binI_fdiv, binI_mod, binI_shr, binI_band, binI_bxor, binI_pow, cmp_lt, cmp_le, cmp_gt, cmp_ge, cmp_eqI, cmp_neI, cmp_eqS, cmp_neS, opt_ite, ite_and, List.getElem?_cons_zero, List.getElem?_cons_succ, List.set_cons_zero, List.set_cons_succ, List.length_cons, List.length_nil, List.append_nil, List.map_cons, List.map_nil, assignT, setSlots, List.cons_append, List.nil_append, Nat.reduceSub, Nat.reduceAdd, decide_eq_true_eq, if_true, if_false, Bool.false_eq_true, Bool.not_true, Bool.not_false, beq_true, beq_false, decide_true, decide_false, List.replicate_zero, List.replicate_succ, true_and, and_true]
  refine (level_wp n s hp hq (X := nox)).mono ?_ (fun _ _ _ q => q.elim)
  rintro v h' ⟨rfl, rfl⟩
  try simp only [wp_ok, wp_bad, wp_bind, wp_ite, wp_nx, wp_ret, wp_fbad, wp_st, retE_ret, retE_exc, opt_some, opt_none, tru_bl, slotQ_some, intV_int, blV_bl, refV_ref, tupV_tup, wp_loc, wp_cint, wp_cstr, wp_cbl, wp_cnon, wp_cval, wp_bin, wp_neg, wp_nt, wp_cmp, wp_chain, wp_is, wp_and, wp_or, wp_ife, wp_fld, wp_ix, wp_sl, wp_tup, wp_lst, wp_dnew, wp_call, wp_mk, wp_make, wp_meth, wp_methK, wp_blt, wp_bm, wp_comp, wp_comp2, wp_pno, wp_pyes, wp_ono, wp_oyes, wp_esnil, wp_escons, wp_over, wp_range1, wp_range2, wp_range3, wp_enum, wp_rev, wp_nil, wp_ex, wp_set, wp_setf, wp_seti, wp_setTF, wp_sret, wp_retn, wp_pass, wp_brk, wp_cnt, wp_if, wp_for, wp_while, wp_binI, binI_add, binI_sub, binI_mul, binI_fdiv, binI_mod, binI_shr, binI_band, binI_bxor, binI_pow, cmp_lt, cmp_le, cmp_gt, cmp_ge, cmp_eqI, cmp_neI, cmp_eqS, cmp_neS, opt_ite, ite_and, List.getElem?_cons_zero, List.getElem?_cons_succ, List.set_cons_zero, List.set_cons_succ, List.length_cons, List.length_nil, List.append_nil, List.map_cons, List.map_nil, assignT, setSlots, List.cons_append, List.nil_append, Nat.reduceSub, Nat.reduceAdd, decide_eq_true_eq, if_true, if_false, Bool.false_eq_true, Bool.not_true, Bool.not_false, beq_true, beq_false, decide_true, decide_false, List.replicate_zero, List.replicate_succ, true_and, and_true]
def upLv (lv : Nat → Nat → Int) (p q : Nat) (x : Int) : Nat → Nat → Int := fun i j => if i = p ∧ j = q then x else lv i j
/-- the state behind a level of the signals -/
theorem fn_set_level : TT.fn 146 = some c_Signals_set_level := rfl
theorem set2 {a : Nat} {v w : Val} (e : h.get a = some (.lst [v, w])) {q : Nat} (hq : q < 2) (x : Val) : setV h (.ref a) (.int (q : Nat)) x = some (h.set a (.lst [if q = 0 then x else v, if q = 0 then w else x])) := by
  rw [set_lst e (by simpa using hq)]
  have : q = 0 ∨ q = 1 := by omega
  rcases this with rfl | rfl <;> rfl
theorem set_level_wp (n : Nat) {a : Int} (s0 : h.get 0 = some (.ins 22 [(138, .ref 5)])) (s5 : h.get 5 = some (.lst [.ref 2, .ref 4])) {p q : Nat} (hp : p < 2) (hq : q < 2) {v0 v1 : Val} (hr : h.get (if p = 0 then 2 else 4) = some (.lst [v0, v1])) (ha : 0 ≤ a) (ha2 : a ≤ 63) : (callAt TT (n + 2) 146 [.ref 0, .int (p : Nat), .int (q : Nat), .int a] h).wp (fun v h' => h' = h.set (if p = 0 then 2 else 4) (.lst [if q = 0 then .int a else v0, if q = 0 then v1 else .int a])) X := by
  refine call_wp fn_set_level rfl ?_
  unfold c_Signals_set_level
  rw [wp_cons]
  try simp only [wp_ok, wp_bad, wp_bind, wp_ite, wp_nx, wp_ret, wp_fbad, wp_st, retE_ret, retE_exc, opt_some, opt_none, tru_bl, slotQ_some, intV_int, blV_bl, refV_ref, tupV_tup, wp_loc, wp_cint, wp_cstr, wp_cbl, wp_cnon, wp_cval, wp_bin, wp_neg, wp_nt, wp_cmp, wp_chain, wp_is, wp_and, wp_or, wp_ife, wp_fld, wp_ix, wp_sl, wp_tup, wp_lst, wp_dnew, wp_call, wp_mk, wp_make, wp_meth, wp_methK, wp_blt, wp_bm, wp_comp, wp_comp2, wp_pno, wp_pyes, wp_ono, wp_oyes, wp_esnil, wp_escons, wp_over, wp_range1, wp_range2, wp_range3, wp_enum, wp_rev, wp_nil, wp_ex, wp_set, wp_setf, wp_seti, wp_setTF, wp_sret, wp_retn, wp_pass, wp_brk, wp_cnt, wp_if, wp_for, wp_while, wp_binI, binI_add, binI_sub, binI_mul, binI_fdiv, binI_mod, binI_shr, binI_band, binI_bxor, binI_pow, cmp_lt, cmp_le, cmp_gt, cmp_ge, cmp_eqI, cmp_neI, cmp_eqS, cmp_neS, opt_ite, ite_and, List.getElem?_cons_zero, List.getElem?_cons_succ, List.set_cons_zero, List.set_cons_succ, List.length_cons, List.length_nil, List.append_nil, List.map_cons, List.map_nil, assignT, setSlots, List.cons_append, List.nil_append, Nat.reduceSub, Nat.reduceAdd, decide_eq_true_eq, if_true, if_false, Bool.false_eq_true, Bool.not_true, Bool.not_false, beq_true, beq_false, decide_true, decide_false, List.replicate_zero, List.replicate_succ, true_and, and_true]
  rw [meth_ref s0 rfl, m59]
  try simp only [wp_ok, wp_bad, wp_bind, wp_ite, wp_nx, wp_ret, wp_fbad, wp_st, retE_ret, retE_exc, opt_some, opt_none, tru_bl, slotQ_some, intV_int, blV_bl, refV_ref, tupV_tup, wp_loc, wp_cint, wp_cstr, wp_cbl, wp_cnon, wp_cval, wp_bin, wp_neg, wp_nt, wp_cmp, wp_chain, wp_is, wp_and, wp_or, wp_ife, wp_fld, wp_ix, wp_sl, wp_tup, wp_lst, wp_dnew, wp_call, wp_mk, wp_make, wp_meth, wp_methK, wp_blt, wp_bm, wp_comp, wp_comp2, wp_pno, wp_pyes, wp_ono, wp_oyes, wp_esnil, wp_escons, wp_over, wp_range1, wp_range2, wp_range3, wp_enum, wp_rev, wp_nil, wp_ex, wp_set, wp_setf, wp_seti, wp_setTF, wp_sret, wp_retn, wp_pass, wp_brk, wp_cnt, wp_if, wp_for, wp_while, wp_binI, binI_add, binI_sub, binI_mul, binI_fdiv, binI_mod, binI_shr, binI_band, binI_bxor, binI_pow, cmp_lt, cmp_le, cmp_gt, cmp_ge, cmp_eqI, cmp_neI, cmp_eqS, cmp_neS, opt_ite, ite_and, List.getElem?_cons_zero, List.getElem?_cons_succ, List.set_cons_zero, List.set_cons_succ, List.length_cons, List.length_nil, List.append_nil, List.map_cons, List.map_nil, assignT, setSlots, List.cons_append, List.nil_append, Nat.reduceSub, Nat.reduceAdd, decide_eq_true_eq, if_true, if_false, Bool.false_eq_true, Bool.not_true, Bool.not_false, beq_true, beq_false, decide_true, decide_false, List.replicate_zero, List.replicate_succ, true_and, and_true]
  have hf : (callAt TT (n + 1) 143 [.ref 0, .int (p : Nat), .int (q : Nat)] h).wp (fun v h' => v = .non ∧ h' = h) nox := by
    refine call_wp fn_find rfl ?_
    unfold c_Signals_find
    rw [wp_cons]
    try simp only [wp_ok, wp_bad, wp_bind, wp_ite, wp_nx, wp_ret, wp_fbad, wp_st, retE_ret, retE_exc, opt_some, opt_none, tru_bl, slotQ_some, intV_int, blV_bl, refV_ref, tupV_tup, wp_loc, wp_cint, wp_cstr, wp_cbl, wp_cnon, wp_cval, wp_bin, wp_neg, wp_nt, wp_cmp, wp_chain, wp_is, wp_and, wp_or, wp_ife, wp_fld, wp_ix, wp_sl, wp_tup, wp_lst, wp_dnew, wp_call, wp_mk, wp_make, wp_meth, wp_methK, wp_blt, wp_bm, wp_comp, wp_comp2, wp_pno, wp_pyes, wp_ono, wp_oyes, wp_esnil, wp_escons, wp_over, wp_range1, wp_range2, wp_range3, wp_enum, wp_rev, wp_nil, wp_ex, wp_set, wp_setf, wp_seti, wp_setTF, wp_sret, wp_retn, wp_pass, wp_brk, wp_cnt, wp_if, wp_for, wp_while, wp_binI, binI_add, binI_sub, binI_mul, binI_fdiv, binI_mod, binI_shr, binI_band, binI_bxor, binI_pow, cmp_lt, cmp_le, cmp_gt, cmp_ge, cmp_eqI, cmp_neI, cmp_eqS, cmp_neS, opt_ite, ite_and, List.getElem?_cons_zero, List.getElem?_cons_succ, List.set_cons_zero, List.set_cons_succ, List.length_cons, List.length_nil, List.append_nil, List.map_cons, List.map_nil, assignT, setSlots, List.cons_append, List.nil_append, Nat.reduceSub, Nat.reduceAdd, decide_eq_true_eq, if_true, if_false, Bool.false_eq_true, Bool.not_true, Bool.not_false, beq_true, beq_false, decide_true, decide_false, List.replicate_zero, List.replicate_succ, true_and, and_true]
    rw [eqn_get s0 rfl, len_lst s5]
    try simp only [wp_ok, wp_bad, wp_bind, wp_ite, wp_nx, wp_ret, wp_fbad, wp_st, retE_ret, retE_exc, opt_some, opt_none, tru_bl, slotQ_some, intV_int, blV_bl, refV_ref, tupV_tup, wp_loc, wp_cint, wp_cstr, wp_cbl, wp_cnon, wp_cval, wp_bin, wp_neg, wp_nt, wp_cmp, wp_chain, wp_is, wp_and, wp_or, wp_ife, wp_fld, wp_ix, wp_sl, wp_tup, wp_lst, wp_dnew, wp_call, wp_mk, wp_make, wp_meth, wp_methK, wp_blt, wp_bm, wp_comp, wp_comp2, wp_pno, wp_pyes, wp_ono, wp_oyes, wp_esnil, wp_escons, wp_over, wp_range1, wp_range2, wp_range3, wp_enum, wp_rev, wp_nil, wp_ex, wp_set, wp_setf, wp_seti, wp_setTF, wp_sret, wp_retn, wp_pass, wp_brk, wp_cnt, wp_if, wp_for, wp_while, wp_binI, binI_add, binI_sub, binI_mul, binI_fdiv, binI_mod, binI_shr, binI_band, binI_bxor, binI_pow, cmp_lt, cmp_le, cmp_gt, cmp_ge, cmp_eqI, cmp_neI, cmp_eqS, cmp_neS, opt_ite, ite_and, List.getElem?_cons_zero, List.getElem?_cons_succ, List.set_cons_zero, List.set_cons_succ, List.length_cons, List.length_nil, List.append_nil, List.map_cons, List.map_nil, assignT, setSlots, List.cons_append, List.nil_append, Nat.reduceSub, Nat.reduceAdd, decide_eq_true_eq, if_true, if_false, Bool.false_eq_true, Bool.not_true, Bool.not_false, beq_true, beq_false, decide_true, decide_false, List.replicate_zero, List.replicate_succ, true_and, and_true]
    rw [if_neg (by omega), if_neg (by omega)]
    rw [wp_cons]
    try simp only [wp_ok, wp_bad, wp_bind, wp_ite, wp_nx, wp_ret, wp_fbad, wp_st, retE_ret, retE_exc, opt_some, opt_none, tru_bl, slotQ_some, intV_int, blV_bl, refV_ref, tupV_tup, wp_loc, wp_cint, wp_cstr, wp_cbl, wp_cnon, wp_cval, wp_bin, wp_neg, wp_nt, wp_cmp, wp_chain, wp_is, wp_and, wp_or, wp_ife, wp_fld, wp_ix, wp_sl, wp_tup, wp_lst, wp_dnew, wp_call, wp_mk, wp_make, wp_meth, wp_methK, wp_blt, wp_bm, wp_comp, wp_comp2, wp_pno, wp_pyes, wp_ono, wp_oyes, wp_esnil, wp_escons, wp_over, wp_range1, wp_range2, wp_range3, wp_enum, wp_rev, wp_nil, wp_ex, wp_set, wp_setf, wp_seti, wp_setTF, wp_sret, wp_retn, wp_pass, wp_brk, wp_cnt, wp_if, wp_for, wp_while, wp_binI, binI_add, binI_sub, binI_mul, binI_fdiv, binI_mod, binI_shr, binI_band, binI_bxor, binI_pow, cmp_lt, cmp_le, cmp_gt, cmp_ge, cmp_eqI, cmp_neI, cmp_eqS, cmp_neS, opt_ite, ite_and, List.getElem?_cons_zero, List.getElem?_cons_succ, List.set_cons_zero, List.set_cons_succ, List.length_cons, List.length_nil, List.append_nil, List.map_cons, List.map_nil, assignT, setSlots, List.cons_append, List.nil_append, Nat.reduceSub, Nat.reduceAdd, decide_eq_true_eq, if_true, if_false, Bool.false_eq_true, Bool.not_true, Bool.not_false, beq_true, beq_false, decide_true, decide_false, List.replicate_zero, List.replicate_succ, true_and, and_true]
    rw [eqn_get s0 rfl, ix2 s5 hp, opt_some, ref_if, len_lst hr]
    try simp only [wp_ok, wp_bad, wp_bind, wp_ite, wp_nx, wp_ret, wp_fbad, wp_st, retE_ret, retE_exc, opt_some, opt_none, tru_bl, slotQ_some, intV_int, blV_bl, refV_ref, tupV_tup, wp_loc, wp_cint, wp_cstr, wp_cbl, wp_cnon, wp_cval, wp_bin, wp_neg, wp_nt, wp_cmp, wp_chain, wp_is, wp_and, wp_or, wp_ife, wp_fld, wp_ix, wp_sl, wp_tup, wp_lst, wp_dnew, wp_call, wp_mk, wp_make, wp_meth, wp_methK, wp_blt, wp_bm, wp_comp, wp_comp2, wp_pno, wp_pyes, wp_ono, wp_oyes, wp_esnil, wp_escons, wp_over, wp_range1, wp_range2, wp_range3, wp_enum, wp_rev, wp_nil, wp_ex, wp_set, wp_setf, wp_seti, wp_setTF, wp_sret, wp_retn, wp_pass, wp_brk, wp_cnt, wp_if, wp_for, wp_while, wp_binI, binI_add, binI_sub, binI_mul, binI_fdiv, binI_mod, binI_shr, binI_band, binI_bxor, binI_pow, cmp_lt, cmp_le, cmp_gt, cmp_ge, cmp_eqI, cmp_neI, cmp_eqS, cmp_neS, opt_ite, ite_and, List.getElem?_cons_zero, List.getElem?_cons_succ, List.set_cons_zero, List.set_cons_succ, List.length_cons, List.length_nil, List.append_nil, List.map_cons, List.map_nil, assignT, setSlots, List.cons_append, List.nil_append, Nat.reduceSub, Nat.reduceAdd, decide_eq_true_eq, if_true, if_false, Bool.false_eq_true, Bool.not_true, Bool.not_false, beq_true, beq_false, decide_true, decide_false, List.replicate_zero, List.replicate_succ, true_and, and_true]
    rw [if_neg (by omega), if_neg (by omega)]
    trivial
  refine hf.mono ?_ (fun _ _ _ q => q.elim)
  rintro v h' ⟨rfl, rfl⟩
  rw [wp_cons]
  try simp only [wp_ok, wp_bad, wp_bind, wp_ite, wp_nx, wp_ret, wp_fbad, wp_st, retE_ret, retE_exc, opt_some, opt_none, tru_bl, slotQ_some, intV_int, blV_bl, refV_ref, tupV_tup, wp_loc, wp_cint, wp_cstr, wp_cbl, wp_cnon, wp_cval, wp_bin, wp_neg, wp_nt, wp_cmp, wp_chain, wp_is, wp_and, wp_or, wp_ife, wp_fld, wp_ix, wp_sl, wp_tup, wp_lst, wp_dnew, wp_call, wp_mk, wp_make, wp_meth, wp_methK, wp_blt, wp_bm, wp_comp, wp_comp2, wp_pno, wp_pyes, wp_ono, wp_oyes, wp_esnil, wp_escons, wp_over, wp_range1, wp_range2, wp_range3, wp_enum, wp_rev, wp_nil, wp_ex, wp_set, wp_setf, wp_seti, wp_setTF, wp_sret, wp_retn, wp_pass, wp_brk, wp_cnt, wp_if, wp_for, wp_while, wp_binI, binI_add, binI_sub, binI_mul, binI_fdiv, binI_mod, binI_shr, binI_band, binI_bxor, binI_pow, cmp_lt, cmp_le, cmp_gt, cmp_ge, cmp_eqI, cmp_neI, cmp_eqS, cmp_neS, opt_ite, ite_and, List.getElem?_cons_zero, List.getElem?_cons_succ, List.set_cons_zero, List.set_cons_succ, List.length_cons, List.length_nil, List.append_nil, List.map_cons, List.map_nil, assignT, setSlots, List.cons_append, List.nil_append, Nat.reduceSub, Nat.reduceAdd, decide_eq_true_eq, if_true, if_false, Bool.false_eq_true, Bool.not_true, Bool.not_false, beq_true, beq_false, decide_true, decide_false, List.replicate_zero, List.replicate_succ, true_and, and_true]
  rw [if_neg (by omega), if_neg (by omega)]
  rw [wp_cons]
  try simp only [wp_ok, wp_bad, wp_bind, wp_ite, wp_nx, wp_ret, wp_fbad, wp_st, retE_ret, retE_exc, opt_some, opt_none, tru_bl, slotQ_some, intV_int, blV_bl, refV_ref, tupV_tup, wp_loc, wp_cint, wp_cstr, wp_cbl, wp_cnon, wp_cval, wp_bin, wp_neg, wp_nt, wp_cmp, wp_chain, wp_is, wp_and, wp_or, wp_ife, wp_fld, wp_ix, wp_sl, wp_tup, wp_lst, wp_dnew, wp_call, wp_mk, wp_make, wp_meth, wp_methK, wp_blt, wp_bm, wp_comp, wp_comp2, wp_pno, wp_pyes, wp_ono, wp_oyes, wp_esnil, wp_escons, wp_over, wp_range1, wp_range2, wp_range3, wp_enum, wp_rev, wp_nil, wp_ex, wp_set, wp_setf, wp_seti, wp_setTF, wp_sret, wp_retn, wp_pass, wp_brk, wp_cnt, wp_if, wp_for, wp_while, wp_binI, binI_add, binI_sub, binI_mul, binI_fdiv, binI_mod, binI_shr, binI_band, binI_bxor, binI_pow, cmp_lt, cmp_le, cmp_gt, cmp_ge, cmp_eqI, cmp_neI, cmp_eqS, cmp_neS, opt_ite, ite_and, List.getElem?_cons_zero, List.getElem?_cons_succ, List.set_cons_zero, List.set_cons_succ, List.length_cons, List.length_nil, List.append_nil, List.map_cons, List.map_nil, assignT, setSlots, List.cons_append, List.nil_append, Nat.reduceSub, Nat.reduceAdd, decide_eq_true_eq, if_true, if_false, Bool.false_eq_true, Bool.not_true, Bool.not_false, beq_true, beq_false, decide_true, decide_false, List.replicate_zero, List.replicate_succ, true_and, and_true]
  rw [eqn_get s0 rfl, ix2 s5 hp, opt_some, ref_if, ix2 hr hq]
  try simp only [wp_ok, wp_bad, wp_bind, wp_ite, wp_nx, wp_ret, wp_fbad, wp_st, retE_ret, retE_exc, opt_some, opt_none, tru_bl, slotQ_some, intV_int, blV_bl, refV_ref, tupV_tup, wp_loc, wp_cint, wp_cstr, wp_cbl, wp_cnon, wp_cval, wp_bin, wp_neg, wp_nt, wp_cmp, wp_chain, wp_is, wp_and, wp_or, wp_ife, wp_fld, wp_ix, wp_sl, wp_tup, wp_lst, wp_dnew, wp_call, wp_mk, wp_make, wp_meth, wp_methK, wp_blt, wp_bm, wp_comp, wp_comp2, wp_pno, wp_pyes, wp_ono, wp_oyes, wp_esnil, wp_escons, wp_over, wp_range1, wp_range2, wp_range3, wp_enum, wp_rev, wp_nil, wp_ex, wp_set, wp_setf, wp_seti, wp_setTF, wp_sret, wp_retn, wp_pass, wp_brk, wp_cnt, wp_if, wp_for, wp_while, wp_binI, binI_add, binI_sub, binI_mul, binI_fdiv, binI_mod, binI_shr, binI_band, binI_bxor, binI_pow, cmp_lt, cmp_le, cmp_gt, cmp_ge, cmp_eqI, cmp_neI, cmp_eqS, cmp_neS, opt_ite, ite_and, List.getElem?_cons_zero, List.getElem?_cons_succ, List.set_cons_zero, List.set_cons_succ, List.length_cons, List.length_nil, List.append_nil, List.map_cons, List.map_nil, assignT, setSlots, List.cons_append, List.nil_append, Nat.reduceSub, Nat.reduceAdd, decide_eq_true_eq, if_true, if_false, Bool.false_eq_true, Bool.not_true, Bool.not_false, beq_true, beq_false, decide_true, decide_false, List.replicate_zero, List.replicate_succ, true_and, and_true]
  rw [wp_cons]
  try simp only [wp_ok, wp_bad, wp_bind, wp_ite, wp_nx, wp_ret, wp_fbad, wp_st, retE_ret, retE_exc, opt_some, opt_none, tru_bl, slotQ_some, intV_int, blV_bl, refV_ref, tupV_tup, wp_loc, wp_cint, wp_cstr, wp_cbl, wp_cnon, wp_cval, wp_bin, wp_neg, wp_nt, wp_cmp, wp_chain, wp_is, wp_and, wp_or, wp_ife, wp_fld, wp_ix, wp_sl, wp_tup, wp_lst, wp_dnew, wp_call, wp_mk, wp_make, wp_meth, wp_methK, wp_blt, wp_bm, wp_comp, wp_comp2, wp_pno, wp_pyes, wp_ono, wp_oyes, wp_esnil, wp_escons, wp_over, wp_range1, wp_range2, wp_range3, wp_enum, wp_rev, wp_nil, wp_ex, wp_set, wp_setf, wp_seti, wp_setTF, wp_sret, wp_retn, wp_pass, wp_brk, wp_cnt, wp_if, wp_for, wp_while, wp_binI, binI_add, binI_sub, binI_mul, binI_fdiv, binI_mod, binI_shr, binI_band, binI_bxor, binI_pow, cmp_lt, cmp_le, cmp_gt, cmp_ge, cmp_eqI, cmp_neI, cmp_eqS, cmp_neS, opt_ite, ite_and, List.getElem?_cons_zero, List.getElem?_cons_succ, List.set_cons_zero, List.set_cons_succ, List.length_cons, List.length_nil, List.append_nil, List.map_cons, List.map_nil, assignT, setSlots, List.cons_append, List.nil_append, Nat.reduceSub, Nat.reduceAdd, decide_eq_true_eq, if_true, if_false, Bool.false_eq_true, Bool.not_true, Bool.not_false, beq_true, beq_false, decide_true, decide_false, List.replicate_zero, List.replicate_succ, true_and, and_true]
  rw [eqn_get s0 rfl, ix2 s5 hp, opt_some, ref_if, set2 hr hq]
  try simp only [wp_ok, wp_bad, wp_bind, wp_ite, wp_nx, wp_ret, wp_fbad, wp_st, retE_ret, retE_exc, opt_some, opt_none, tru_bl, slotQ_some, intV_int, blV_bl, refV_ref, tupV_tup, wp_loc, wp_cint, wp_cstr, wp_cbl, wp_cnon, wp_cval, wp_bin, wp_neg, wp_nt, wp_cmp, wp_chain, wp_is, wp_and, wp_or, wp_ife, wp_fld, wp_ix, wp_sl, wp_tup, wp_lst, wp_dnew, wp_call, wp_mk, wp_make, wp_meth, wp_methK, wp_blt, wp_bm, wp_comp, wp_comp2, wp_pno, wp_pyes, wp_ono, wp_oyes, wp_esnil, wp_escons, wp_over, wp_range1, wp_range2, wp_range3, wp_enum, wp_rev, wp_nil, wp_ex, wp_set, wp_setf, wp_seti, wp_setTF, wp_sret, wp_retn, wp_pass, wp_brk, wp_cnt, wp_if, wp_for, wp_while, wp_binI, binI_add, binI_sub, binI_mul, binI_fdiv, binI_mod, binI_shr, binI_band, binI_bxor, binI_pow, cmp_lt, cmp_le, cmp_gt, cmp_ge, cmp_eqI, cmp_neI, cmp_eqS, cmp_neS, opt_ite, ite_and, List.getElem?_cons_zero, List.getElem?_cons_succ, List.set_cons_zero, List.set_cons_succ, List.length_cons, List.length_nil, List.append_nil, List.map_cons, List.map_nil, assignT, setSlots, List.cons_append, List.nil_append, Nat.reduceSub, Nat.reduceAdd, decide_eq_true_eq, if_true, if_false, Bool.false_eq_true, Bool.not_true, Bool.not_false, beq_true, beq_false, decide_true, decide_false, List.replicate_zero, List.replicate_succ, true_and, and_true]
  rw [wp_cons]
  try simp only [wp_ok, wp_bad, wp_bind, wp_ite, wp_nx, wp_ret, wp_fbad, wp_st, retE_ret, retE_exc, opt_some, opt_none, tru_bl, slotQ_some, intV_int, blV_bl, refV_ref, tupV_tup, wp_loc, wp_cint, wp_cstr, wp_cbl, wp_cnon, wp_cval, wp_bin, wp_neg, wp_nt, wp_cmp, wp_chain, wp_is, wp_and, wp_or, wp_ife, wp_fld, wp_ix, wp_sl, wp_tup, wp_lst, wp_dnew, wp_call, wp_mk, wp_make, wp_meth, wp_methK, wp_blt, wp_bm, wp_comp, wp_comp2, wp_pno, wp_pyes, wp_ono, wp_oyes, wp_esnil, wp_escons, wp_over, wp_range1, wp_range2, wp_range3, wp_enum, wp_rev, wp_nil, wp_ex, wp_set, wp_setf, wp_seti, wp_setTF, wp_sret, wp_retn, wp_pass, wp_brk, wp_cnt, wp_if, wp_for, wp_while, wp_binI, binI_add, binI_sub, binI_mul, binI_fdiv, binI_mod, binI_shr, binI_band, binI_bxor, binI_pow, cmp_lt, cmp_le, cmp_gt, cmp_ge, cmp_eqI, cmp_neI, cmp_eqS, cmp_neS, opt_ite, ite_and, List.getElem?_cons_zero, List.getElem?_cons_succ, List.set_cons_zero, List.set_cons_succ, List.length_cons, List.length_nil, List.append_nil, List.map_cons, List.map_nil, assignT, setSlots, List.cons_append, List.nil_append, Nat.reduceSub, Nat.reduceAdd, decide_eq_true_eq, if_true, if_false, Bool.false_eq_true, Bool.not_true, Bool.not_false, beq_true, beq_false, decide_true, decide_false, List.replicate_zero, List.replicate_succ, true_and, and_true]
theorem fn_lose : TT.fn 3 = some c_Air_lose := rfl
theorem lose_wp (n : Nat) (s : S h vs lv lvf ls lf fs L Lf m) (hm : m < 1000) {p : Nat} {w : Bool} (hp : p < 2) (v : Val) : (callAt TT (n + 1) 3 [.ref 6, .int (p : Nat), .str (wayS w), v] h).wp (fun _ h' => h' = h.set 7 (.dcT (putK (key p w) v ls))) X := by
  refine call_wp fn_lose rfl ?_
  unfold c_Air_lose
  rw [wp_cons]
  try simp only [wp_ok, wp_bad, wp_bind, wp_ite, wp_nx, wp_ret, wp_fbad, wp_st, retE_ret, retE_exc, opt_some, opt_none, tru_bl, slotQ_some, intV_int, blV_bl, refV_ref, tupV_tup, wp_loc, wp_cint, wp_cstr, wp_cbl, wp_cnon, wp_cval, wp_bin, wp_neg, wp_nt, wp_cmp, wp_chain, wp_is, wp_and, wp_or, wp_ife, wp_fld, wp_ix, wp_sl, wp_tup, wp_lst, wp_dnew, wp_call, wp_mk, wp_make, wp_meth, wp_methK, wp_blt, wp_bm, wp_comp, wp_comp2, wp_pno, wp_pyes, wp_ono, wp_oyes, wp_esnil, wp_escons, wp_over, wp_range1, wp_range2, wp_range3, wp_enum, wp_rev, wp_nil, wp_ex, wp_set, wp_setf, wp_seti, wp_setTF, wp_sret, wp_retn, wp_pass, wp_brk, wp_cnt, wp_if, wp_for, wp_while, wp_binI, binI_add, binI_sub, binI_mul, binI_fdiv, binI_mod, binI_shr, binI_band, binI_bxor, binI_pow, cmp_lt, cmp_le, cmp_gt, cmp_ge, cmp_eqI, cmp_neI, cmp_eqS, cmp_neS, opt_ite, ite_and, List.getElem?_cons_zero, List.getElem?_cons_succ, List.set_cons_zero, List.set_cons_succ, List.length_cons, List.length_nil, List.append_nil, List.map_cons, List.map_nil, assignT, setSlots, List.cons_append, List.nil_append, Nat.reduceSub, Nat.reduceAdd, decide_eq_true_eq, if_true, if_false, Bool.false_eq_true, Bool.not_true, Bool.not_false, beq_true, beq_false, decide_true, decide_false, List.replicate_zero, List.replicate_succ, true_and, and_true]
  rw [eqn_get s.s6 rfl]
  refine ⟨two_le, ?_⟩
  have : setV h (.ref 7) (.tup [.int (p : Nat), .str (wayS w)]) v = _ := set_key s.s7 hp (by have := s.nl; omega) v
  rw [this]
  rfl
theorem fn_harm : TT.fn 2 = some c_Air_harm := rfl
theorem harm_wp (n : Nat) (s : S h vs lv lvf ls lf fs L Lf m) (hm : m < 1000) {p : Nat} {w : Bool} (hp : p < 2) {r : Nat} {xs : List Val} (hr : h.get r = some (.lst xs)) : (callAt TT (n + 1) 2 [.ref 6, .int (p : Nat), .str (wayS w), .ref r] h).wp (fun _ h' => h' = (h.push (.lst xs)).set 8 (.dcT (putK (key p w) (.ref h.size) fs))) X := by
  refine call_wp fn_harm rfl ?_
  unfold c_Air_harm
  rw [wp_cons]
  try simp only [wp_ok, wp_bad, wp_bind, wp_ite, wp_nx, wp_ret, wp_fbad, wp_st, retE_ret, retE_exc, opt_some, opt_none, tru_bl, slotQ_some, intV_int, blV_bl, refV_ref, tupV_tup, wp_loc, wp_cint, wp_cstr, wp_cbl, wp_cnon, wp_cval, wp_bin, wp_neg, wp_nt, wp_cmp, wp_chain, wp_is, wp_and, wp_or, wp_ife, wp_fld, wp_ix, wp_sl, wp_tup, wp_lst, wp_dnew, wp_call, wp_mk, wp_make, wp_meth, wp_methK, wp_blt, wp_bm, wp_comp, wp_comp2, wp_pno, wp_pyes, wp_ono, wp_oyes, wp_esnil, wp_escons, wp_over, wp_range1, wp_range2, wp_range3, wp_enum, wp_rev, wp_nil, wp_ex, wp_set, wp_setf, wp_seti, wp_setTF, wp_sret, wp_retn, wp_pass, wp_brk, wp_cnt, wp_if, wp_for, wp_while, wp_binI, binI_add, binI_sub, binI_mul, binI_fdiv, binI_mod, binI_shr, binI_band, binI_bxor, binI_pow, cmp_lt, cmp_le, cmp_gt, cmp_ge, cmp_eqI, cmp_neI, cmp_eqS, cmp_neS, opt_ite, ite_and, List.getElem?_cons_zero, List.getElem?_cons_succ, List.set_cons_zero, List.set_cons_succ, List.length_cons, List.length_nil, List.append_nil, List.map_cons, List.map_nil, assignT, setSlots, List.cons_append, List.nil_append, Nat.reduceSub, Nat.reduceAdd, decide_eq_true_eq, if_true, if_false, Bool.false_eq_true, Bool.not_true, Bool.not_false, beq_true, beq_false, decide_true, decide_false, List.replicate_zero, List.replicate_succ, true_and, and_true]
  rw [list_ref hr]
  have s1 := s.ext (Ext.push h (.lst xs))
  rw [eqn_get s1.s6 rfl]
  refine ⟨two_le, ?_⟩
  have : setV (h.push (.lst xs)) (.ref 8) (.tup [.int (p : Nat), .str (wayS w)]) (.ref h.size) = _ := set_key s1.s8 hp (by have := s.ns; omega) _
  rw [this]
  rfl
theorem S.set7 (s : S h vs lv lvf ls lf fs L Lf m) (k : List K) (x : Int) : S (h.set 7 (.dcT (putK k (.int x) ls))) vs lv lvf (putK k (.int x) ls) lf fs (upL L k x) Lf (m + 1) :=
  ⟨by rw [Heap.get_set_ne _ _ (by decide)]; exact s.s0, by rw [Heap.get_set_ne _ _ (by decide)]; exact s.s5, by rw [Heap.get_set_ne _ _ (by decide)]; exact s.s2, by rw [Heap.get_set_ne _ _ (by decide)]; exact s.s4, by rw [Heap.get_set_ne _ _ (by decide)]; exact s.s6, Heap.get_set_eq _ s.s7, by rw [Heap.get_set_ne _ _ (by decide)]; exact s.s8, by rw [Heap.get_set_ne _ _ (by decide)]; exact s.s9, by rw [Heap.get_set_ne _ _ (by decide)]; exact s.s10, by rw [Heap.get_set_ne _ _ (by decide)]; exact s.s11, by rw [Heap.get_set_ne _ _ (by decide)]; exact s.s12, by rw [Heap.get_set_ne _ _ (by decide)]; exact s.s13,
    s.dl.put k x, s.df, fun j v e => (s.fi j v e).set13 (by decide), Nat.le_trans (putK_length _ _ _) (Nat.succ_le_succ s.nl), Nat.le_succ_of_le s.nf, Nat.le_succ_of_le s.ns⟩
theorem S.set12 (s : S h vs lv lvf ls lf fs L Lf m) (k : List K) (x : Int) : S (h.set 12 (.dcT (putK k (.int x) lf))) vs lv lvf ls (putK k (.int x) lf) fs L (upL Lf k x) (m + 1) :=
  ⟨by rw [Heap.get_set_ne _ _ (by decide)]; exact s.s0, by rw [Heap.get_set_ne _ _ (by decide)]; exact s.s5, by rw [Heap.get_set_ne _ _ (by decide)]; exact s.s2, by rw [Heap.get_set_ne _ _ (by decide)]; exact s.s4, by rw [Heap.get_set_ne _ _ (by decide)]; exact s.s6, by rw [Heap.get_set_ne _ _ (by decide)]; exact s.s7, by rw [Heap.get_set_ne _ _ (by decide)]; exact s.s8, by rw [Heap.get_set_ne _ _ (by decide)]; exact s.s9, by rw [Heap.get_set_ne _ _ (by decide)]; exact s.s10, by rw [Heap.get_set_ne _ _ (by decide)]; exact s.s11, Heap.get_set_eq _ s.s12, by rw [Heap.get_set_ne _ _ (by decide)]; exact s.s13,
    s.dl, s.df.put k x, fun j v e => (s.fi j v e).set13 (by decide), Nat.le_succ_of_le s.nl, Nat.le_trans (putK_length _ _ _) (Nat.succ_le_succ s.nf), Nat.le_succ_of_le s.ns⟩
theorem S.set8 (s : S h vs lv lvf ls lf fs L Lf m) (k : List K) {v : Val} (hv : Pl h v) : S (h.set 8 (.dcT (putK k v fs))) vs lv lvf ls lf (putK k v fs) L Lf (m + 1) :=
  ⟨by rw [Heap.get_set_ne _ _ (by decide)]; exact s.s0, by rw [Heap.get_set_ne _ _ (by decide)]; exact s.s5, by rw [Heap.get_set_ne _ _ (by decide)]; exact s.s2, by rw [Heap.get_set_ne _ _ (by decide)]; exact s.s4, by rw [Heap.get_set_ne _ _ (by decide)]; exact s.s6, by rw [Heap.get_set_ne _ _ (by decide)]; exact s.s7, Heap.get_set_eq _ s.s8, by rw [Heap.get_set_ne _ _ (by decide)]; exact s.s9, by rw [Heap.get_set_ne _ _ (by decide)]; exact s.s10, by rw [Heap.get_set_ne _ _ (by decide)]; exact s.s11, by rw [Heap.get_set_ne _ _ (by decide)]; exact s.s12, by rw [Heap.get_set_ne _ _ (by decide)]; exact s.s13,
    s.dl, s.df, fun j y e => by
      rw [lookK_putK] at e
      split at e
      · cases e; exact hv.set13 (by decide)
      · exact (s.fi j y e).set13 (by decide), Nat.le_succ_of_le s.nl, Nat.le_succ_of_le s.nf, Nat.le_trans (putK_length _ _ _) (Nat.succ_le_succ s.ns)⟩
theorem S.setR (s : S h vs lv lvf ls lf fs L Lf m) {r : Nat} (hr : 13 < r) (hf : ∀ k v, lookK k fs = some v → v ≠ .ref r) (o : Obj) : S (h.set r o) vs lv lvf ls lf fs L Lf m :=
  ⟨by rw [Heap.get_set_ne _ _ (by omega)]; exact s.s0, by rw [Heap.get_set_ne _ _ (by omega)]; exact s.s5, by rw [Heap.get_set_ne _ _ (by omega)]; exact s.s2, by rw [Heap.get_set_ne _ _ (by omega)]; exact s.s4, by rw [Heap.get_set_ne _ _ (by omega)]; exact s.s6, by rw [Heap.get_set_ne _ _ (by omega)]; exact s.s7, by rw [Heap.get_set_ne _ _ (by omega)]; exact s.s8, by rw [Heap.get_set_ne _ _ (by omega)]; exact s.s9, by rw [Heap.get_set_ne _ _ (by omega)]; exact s.s10, by rw [Heap.get_set_ne _ _ (by omega)]; exact s.s11, by rw [Heap.get_set_ne _ _ (by omega)]; exact s.s12, by rw [Heap.get_set_ne _ _ (by omega)]; exact s.s13,
    s.dl, s.df, fun j v e => (s.fi j v e).set (hf j v e), s.nl, s.nf, s.ns⟩
theorem S.setRow (s : S h vs lv lvf ls lf fs L Lf m) {p q : Nat} (hp : p < 2) (hq : q < 2) (x : Int) : S (h.set (if p = 0 then 2 else 4) (.lst [if q = 0 then .int x else .int (lv p 0), if q = 0 then .int (lv p 1) else .int x])) vs (upLv lv p q x) lvf ls lf fs L Lf m := by
  have hp' : p = 0 ∨ p = 1 := by omega
  have hq' : q = 0 ∨ q = 1 := by omega
  rcases hp' with rfl | rfl
  · exact ⟨by rw [Heap.get_set_ne _ _ (by decide)]; exact s.s0, by rw [Heap.get_set_ne _ _ (by decide)]; exact s.s5, by rcases hq' with rfl | rfl <;> exact Heap.get_set_eq _ s.s2, by rw [Heap.get_set_ne _ _ (by decide)]; exact s.s4, by rw [Heap.get_set_ne _ _ (by decide)]; exact s.s6, by rw [Heap.get_set_ne _ _ (by decide)]; exact s.s7, by rw [Heap.get_set_ne _ _ (by decide)]; exact s.s8, by rw [Heap.get_set_ne _ _ (by decide)]; exact s.s9, by rw [Heap.get_set_ne _ _ (by decide)]; exact s.s10, by rw [Heap.get_set_ne _ _ (by decide)]; exact s.s11, by rw [Heap.get_set_ne _ _ (by decide)]; exact s.s12, by rw [Heap.get_set_ne _ _ (by decide)]; exact s.s13,
    s.dl, s.df, fun j v e => (s.fi j v e).set13 (by decide), s.nl, s.nf, s.ns⟩
  · exact ⟨by rw [Heap.get_set_ne _ _ (by decide)]; exact s.s0, by rw [Heap.get_set_ne _ _ (by decide)]; exact s.s5, by rw [Heap.get_set_ne _ _ (by decide)]; exact s.s2, by rcases hq' with rfl | rfl <;> exact Heap.get_set_eq _ s.s4, by rw [Heap.get_set_ne _ _ (by decide)]; exact s.s6, by rw [Heap.get_set_ne _ _ (by decide)]; exact s.s7, by rw [Heap.get_set_ne _ _ (by decide)]; exact s.s8, by rw [Heap.get_set_ne _ _ (by decide)]; exact s.s9, by rw [Heap.get_set_ne _ _ (by decide)]; exact s.s10, by rw [Heap.get_set_ne _ _ (by decide)]; exact s.s11, by rw [Heap.get_set_ne _ _ (by decide)]; exact s.s12, by rw [Heap.get_set_ne _ _ (by decide)]; exact s.s13,
    s.dl, s.df, fun j v e => (s.fi j v e).set13 (by decide), s.nl, s.nf, s.ns⟩
theorem S.setRowq (s : S h vs lv lvf ls lf fs L Lf m) {p q : Nat} (hp : p < 2) (hq : q < 2) (x : Int) : S (h.set (if p = 0 then 9 else 10) (.lst [if q = 0 then .int x else .int (lvf p 0), if q = 0 then .int (lvf p 1) else .int x])) vs lv (upLv lvf p q x) ls lf fs L Lf m := by
  have hp' : p = 0 ∨ p = 1 := by omega
  have hq' : q = 0 ∨ q = 1 := by omega
  rcases hp' with rfl | rfl
  · exact ⟨by rw [Heap.get_set_ne _ _ (by decide)]; exact s.s0, by rw [Heap.get_set_ne _ _ (by decide)]; exact s.s5, by rw [Heap.get_set_ne _ _ (by decide)]; exact s.s2, by rw [Heap.get_set_ne _ _ (by decide)]; exact s.s4, by rw [Heap.get_set_ne _ _ (by decide)]; exact s.s6, by rw [Heap.get_set_ne _ _ (by decide)]; exact s.s7, by rw [Heap.get_set_ne _ _ (by decide)]; exact s.s8, by rcases hq' with rfl | rfl <;> exact Heap.get_set_eq _ s.s9, by rw [Heap.get_set_ne _ _ (by decide)]; exact s.s10, by rw [Heap.get_set_ne _ _ (by decide)]; exact s.s11, by rw [Heap.get_set_ne _ _ (by decide)]; exact s.s12, by rw [Heap.get_set_ne _ _ (by decide)]; exact s.s13,
    s.dl, s.df, fun j v e => (s.fi j v e).set13 (by decide), s.nl, s.nf, s.ns⟩
  · exact ⟨by rw [Heap.get_set_ne _ _ (by decide)]; exact s.s0, by rw [Heap.get_set_ne _ _ (by decide)]; exact s.s5, by rw [Heap.get_set_ne _ _ (by decide)]; exact s.s2, by rw [Heap.get_set_ne _ _ (by decide)]; exact s.s4, by rw [Heap.get_set_ne _ _ (by decide)]; exact s.s6, by rw [Heap.get_set_ne _ _ (by decide)]; exact s.s7, by rw [Heap.get_set_ne _ _ (by decide)]; exact s.s8, by rw [Heap.get_set_ne _ _ (by decide)]; exact s.s9, by rcases hq' with rfl | rfl <;> exact Heap.get_set_eq _ s.s10, by rw [Heap.get_set_ne _ _ (by decide)]; exact s.s11, by rw [Heap.get_set_ne _ _ (by decide)]; exact s.s12, by rw [Heap.get_set_ne _ _ (by decide)]; exact s.s13,
    s.dl, s.df, fun j v e => (s.fi j v e).set13 (by decide), s.nl, s.nf, s.ns⟩
theorem max_neg (x : Int) : (if 0 > x - 1 then 0 else x - 1) = max (x - 1) 0 := by
  split <;> omega
theorem fn_carry : TT.fn 1 = some c_Air_carry := rfl
theorem pl_eq {h : Heap} {v : Val} (p : Pl h v) {r : Nat} (hr : h.get r = some (.lst [])) : ∃ b, cmpV .eq v (.ref r) h = some b ∧ (b = true ∨ ∃ a m, v = .ref a ∧ m < 228 ∧ h.get a = some (.lst [nI (lp (2 * m)), nI (lp (2 * m + 1))])) := by
  obtain ⟨a, rfl, ha, q⟩ := p
  rcases q with q | ⟨m, hm, q⟩
  · exact ⟨_, eq_rows (xs := []) (ys := []) q hr, .inl rfl⟩
  · exact ⟨_, eq_rows (xs := [((lp (2 * m) : Nat) : Int), ((lp (2 * m + 1) : Nat) : Int)]) (ys := []) q hr, .inr ⟨a, m, rfl, hm, q⟩⟩
theorem carry_wp (n : Nat) (s : S h vs lv lvf ls lf fs L Lf m) (hm : m < 900) {p q : Nat} {w : Bool} (hp : p < 2) (hq : q < 2) {os : List Nat} (hl : os.length = 23) (ho : ∀ o ∈ os, o < 256) :
    (callAt TT (n + 6) 1 [.ref 6, .int (p : Nat), .str (wayS w), .int (q : Nat), .tup (os.map nI)] h).wp (fun v h' => v = (if 0 < L (key p w) ∨ lv p q < 5 then .non else .tup (os.map nI)) ∧ ∃ ls' fs', S h' vs lv lvf ls' lf fs' (upL L (key p w) (max (L (key p w) - 1) 0)) Lf (m + 2)) X := by
  refine call_wp fn_carry rfl ?_
  unfold c_Air_carry
  rw [wp_cons]
  try simp only [wp_ok, wp_bad, wp_bind, wp_ite, wp_nx, wp_ret, wp_fbad, wp_st, retE_ret, retE_exc, opt_some, opt_none, tru_bl, slotQ_some, intV_int, blV_bl, refV_ref, tupV_tup, wp_loc, wp_cint, wp_cstr, wp_cbl, wp_cnon, wp_cval, wp_bin, wp_neg, wp_nt, wp_cmp, wp_chain, wp_is, wp_and, wp_or, wp_ife, wp_fld, wp_ix, wp_sl, wp_tup, wp_lst, wp_dnew, wp_call, wp_mk, wp_make, wp_meth, wp_methK, wp_blt, wp_bm, wp_comp, wp_comp2, wp_pno, wp_pyes, wp_ono, wp_oyes, wp_esnil, wp_escons, wp_over, wp_range1, wp_range2, wp_range3, wp_enum, wp_rev, wp_nil, wp_ex, wp_set, wp_setf, wp_seti, wp_setTF, wp_sret, wp_retn, wp_pass, wp_brk, wp_cnt, wp_if, wp_for, wp_while, wp_binI, binI_add, binI_sub, binI_mul, binI_fdiv, binI_mod, binI_shr, binI_band, binI_bxor, binI_pow, cmp_lt, cmp_le, cmp_gt, cmp_ge, cmp_eqI, cmp_neI, cmp_eqS, cmp_neS, opt_ite, ite_and, List.getElem?_cons_zero, List.getElem?_cons_succ, List.set_cons_zero, List.set_cons_succ, List.length_cons, List.length_nil, List.append_nil, List.map_cons, List.map_nil, assignT, setSlots, List.cons_append, List.nil_append, Nat.reduceSub, Nat.reduceAdd, decide_eq_true_eq, if_true, if_false, Bool.false_eq_true, Bool.not_true, Bool.not_false, beq_true, beq_false, decide_true, decide_false, List.replicate_zero, List.replicate_succ, true_and, and_true]
  refine ⟨two_le, ?_⟩
  rw [wp_cons]
  try simp only [wp_ok, wp_bad, wp_bind, wp_ite, wp_nx, wp_ret, wp_fbad, wp_st, retE_ret, retE_exc, opt_some, opt_none, tru_bl, slotQ_some, intV_int, blV_bl, refV_ref, tupV_tup, wp_loc, wp_cint, wp_cstr, wp_cbl, wp_cnon, wp_cval, wp_bin, wp_neg, wp_nt, wp_cmp, wp_chain, wp_is, wp_and, wp_or, wp_ife, wp_fld, wp_ix, wp_sl, wp_tup, wp_lst, wp_dnew, wp_call, wp_mk, wp_make, wp_meth, wp_methK, wp_blt, wp_bm, wp_comp, wp_comp2, wp_pno, wp_pyes, wp_ono, wp_oyes, wp_esnil, wp_escons, wp_over, wp_range1, wp_range2, wp_range3, wp_enum, wp_rev, wp_nil, wp_ex, wp_set, wp_setf, wp_seti, wp_setTF, wp_sret, wp_retn, wp_pass, wp_brk, wp_cnt, wp_if, wp_for, wp_while, wp_binI, binI_add, binI_sub, binI_mul, binI_fdiv, binI_mod, binI_shr, binI_band, binI_bxor, binI_pow, cmp_lt, cmp_le, cmp_gt, cmp_ge, cmp_eqI, cmp_neI, cmp_eqS, cmp_neS, opt_ite, ite_and, List.getElem?_cons_zero, List.getElem?_cons_succ, List.set_cons_zero, List.set_cons_succ, List.length_cons, List.length_nil, List.append_nil, List.map_cons, List.map_nil, assignT, setSlots, List.cons_append, List.nil_append, Nat.reduceSub, Nat.reduceAdd, decide_eq_true_eq, if_true, if_false, Bool.false_eq_true, Bool.not_true, Bool.not_false, beq_true, beq_false, decide_true, decide_false, List.replicate_zero, List.replicate_succ, true_and, and_true]
  rw [eqn_get s.s6 rfl, recv_get s.s7]
  have kv : (Val.tup [.int (p : Nat), .str (wayS w)]) = .tup (keyV p w) := rfl
  simp only [kv, wp_ok, wp_bad, wp_bind, wp_ite, wp_nx, wp_ret, wp_fbad, wp_st, retE_ret, retE_exc, opt_some, opt_none, tru_bl, slotQ_some, intV_int, blV_bl, refV_ref, tupV_tup, wp_loc, wp_cint, wp_cstr, wp_cbl, wp_cnon, wp_cval, wp_bin, wp_neg, wp_nt, wp_cmp, wp_chain, wp_is, wp_and, wp_or, wp_ife, wp_fld, wp_ix, wp_sl, wp_tup, wp_lst, wp_dnew, wp_call, wp_mk, wp_make, wp_meth, wp_methK, wp_blt, wp_bm, wp_comp, wp_comp2, wp_pno, wp_pyes, wp_ono, wp_oyes, wp_esnil, wp_escons, wp_over, wp_range1, wp_range2, wp_range3, wp_enum, wp_rev, wp_nil, wp_ex, wp_set, wp_setf, wp_seti, wp_setTF, wp_sret, wp_retn, wp_pass, wp_brk, wp_cnt, wp_if, wp_for, wp_while, wp_binI, binI_add, binI_sub, binI_mul, binI_fdiv, binI_mod, binI_shr, binI_band, binI_bxor, binI_pow, cmp_lt, cmp_le, cmp_gt, cmp_ge, cmp_eqI, cmp_neI, cmp_eqS, cmp_neS, opt_ite, ite_and, List.getElem?_cons_zero, List.getElem?_cons_succ, List.set_cons_zero, List.set_cons_succ, List.length_cons, List.length_nil, List.append_nil, List.map_cons, List.map_nil, assignT, setSlots, List.cons_append, List.nil_append, Nat.reduceSub, Nat.reduceAdd, decide_eq_true_eq, if_true, if_false, Bool.false_eq_true, Bool.not_true, Bool.not_false, beq_true, beq_false, decide_true, decide_false, List.replicate_zero, List.replicate_succ, true_and, and_true]
  rw [get_key s.s7 hp, s.dl]
  rw [wp_cons]
  try simp only [wp_ok, wp_bad, wp_bind, wp_ite, wp_nx, wp_ret, wp_fbad, wp_st, retE_ret, retE_exc, opt_some, opt_none, tru_bl, slotQ_some, intV_int, blV_bl, refV_ref, tupV_tup, wp_loc, wp_cint, wp_cstr, wp_cbl, wp_cnon, wp_cval, wp_bin, wp_neg, wp_nt, wp_cmp, wp_chain, wp_is, wp_and, wp_or, wp_ife, wp_fld, wp_ix, wp_sl, wp_tup, wp_lst, wp_dnew, wp_call, wp_mk, wp_make, wp_meth, wp_methK, wp_blt, wp_bm, wp_comp, wp_comp2, wp_pno, wp_pyes, wp_ono, wp_oyes, wp_esnil, wp_escons, wp_over, wp_range1, wp_range2, wp_range3, wp_enum, wp_rev, wp_nil, wp_ex, wp_set, wp_setf, wp_seti, wp_setTF, wp_sret, wp_retn, wp_pass, wp_brk, wp_cnt, wp_if, wp_for, wp_while, wp_binI, binI_add, binI_sub, binI_mul, binI_fdiv, binI_mod, binI_shr, binI_band, binI_bxor, binI_pow, cmp_lt, cmp_le, cmp_gt, cmp_ge, cmp_eqI, cmp_neI, cmp_eqS, cmp_neS, opt_ite, ite_and, List.getElem?_cons_zero, List.getElem?_cons_succ, List.set_cons_zero, List.set_cons_succ, List.length_cons, List.length_nil, List.append_nil, List.map_cons, List.map_nil, assignT, setSlots, List.cons_append, List.nil_append, Nat.reduceSub, Nat.reduceAdd, decide_eq_true_eq, if_true, if_false, Bool.false_eq_true, Bool.not_true, Bool.not_false, beq_true, beq_false, decide_true, decide_false, List.replicate_zero, List.replicate_succ, true_and, and_true]
  rw [eqn_get s.s6 rfl, recv_get s.s8]
  try simp only [wp_ok, wp_bad, wp_bind, wp_ite, wp_nx, wp_ret, wp_fbad, wp_st, retE_ret, retE_exc, opt_some, opt_none, tru_bl, slotQ_some, intV_int, blV_bl, refV_ref, tupV_tup, wp_loc, wp_cint, wp_cstr, wp_cbl, wp_cnon, wp_cval, wp_bin, wp_neg, wp_nt, wp_cmp, wp_chain, wp_is, wp_and, wp_or, wp_ife, wp_fld, wp_ix, wp_sl, wp_tup, wp_lst, wp_dnew, wp_call, wp_mk, wp_make, wp_meth, wp_methK, wp_blt, wp_bm, wp_comp, wp_comp2, wp_pno, wp_pyes, wp_ono, wp_oyes, wp_esnil, wp_escons, wp_over, wp_range1, wp_range2, wp_range3, wp_enum, wp_rev, wp_nil, wp_ex, wp_set, wp_setf, wp_seti, wp_setTF, wp_sret, wp_retn, wp_pass, wp_brk, wp_cnt, wp_if, wp_for, wp_while, wp_binI, binI_add, binI_sub, binI_mul, binI_fdiv, binI_mod, binI_shr, binI_band, binI_bxor, binI_pow, cmp_lt, cmp_le, cmp_gt, cmp_ge, cmp_eqI, cmp_neI, cmp_eqS, cmp_neS, opt_ite, ite_and, List.getElem?_cons_zero, List.getElem?_cons_succ, List.set_cons_zero, List.set_cons_succ, List.length_cons, List.length_nil, List.append_nil, List.map_cons, List.map_nil, assignT, setSlots, List.cons_append, List.nil_append, Nat.reduceSub, Nat.reduceAdd, decide_eq_true_eq, if_true, if_false, Bool.false_eq_true, Bool.not_true, Bool.not_false, beq_true, beq_false, decide_true, decide_false, List.replicate_zero, List.replicate_succ, true_and, and_true]
  refine ⟨zero_le, ?_⟩
  have s1 := s.ext (Ext.push h (.lst []))
  have hpl : Pl (h.push (.lst [])) ((lookK (key p w) fs).getD (.ref h.size)) := by
    cases e : lookK (key p w) fs with
    | none => exact ⟨h.size, rfl, s.size, .inl (Heap.get_new _ _)⟩
    | some v => exact s1.fi _ _ e
  rw [get_key s1.s8 hp]
  generalize (lookK (key p w) fs).getD (.ref h.size) = pl at hpl
  generalize h.push (.lst []) = h1 at s1 hpl
  rw [wp_cons]
  try simp only [wp_ok, wp_bad, wp_bind, wp_ite, wp_nx, wp_ret, wp_fbad, wp_st, retE_ret, retE_exc, opt_some, opt_none, tru_bl, slotQ_some, intV_int, blV_bl, refV_ref, tupV_tup, wp_loc, wp_cint, wp_cstr, wp_cbl, wp_cnon, wp_cval, wp_bin, wp_neg, wp_nt, wp_cmp, wp_chain, wp_is, wp_and, wp_or, wp_ife, wp_fld, wp_ix, wp_sl, wp_tup, wp_lst, wp_dnew, wp_call, wp_mk, wp_make, wp_meth, wp_methK, wp_blt, wp_bm, wp_comp, wp_comp2, wp_pno, wp_pyes, wp_ono, wp_oyes, wp_esnil, wp_escons, wp_over, wp_range1, wp_range2, wp_range3, wp_enum, wp_rev, wp_nil, wp_ex, wp_set, wp_setf, wp_seti, wp_setTF, wp_sret, wp_retn, wp_pass, wp_brk, wp_cnt, wp_if, wp_for, wp_while, wp_binI, binI_add, binI_sub, binI_mul, binI_fdiv, binI_mod, binI_shr, binI_band, binI_bxor, binI_pow, cmp_lt, cmp_le, cmp_gt, cmp_ge, cmp_eqI, cmp_neI, cmp_eqS, cmp_neS, opt_ite, ite_and, List.getElem?_cons_zero, List.getElem?_cons_succ, List.set_cons_zero, List.set_cons_succ, List.length_cons, List.length_nil, List.append_nil, List.map_cons, List.map_nil, assignT, setSlots, List.cons_append, List.nil_append, Nat.reduceSub, Nat.reduceAdd, decide_eq_true_eq, if_true, if_false, Bool.false_eq_true, Bool.not_true, Bool.not_false, beq_true, beq_false, decide_true, decide_false, List.replicate_zero, List.replicate_succ, true_and, and_true]
  rw [max_int, max_neg, eqn_get s1.s6 rfl, set_key s1.s7 hp (by have := s1.nl; omega)]
  try simp only [wp_ok, wp_bad, wp_bind, wp_ite, wp_nx, wp_ret, wp_fbad, wp_st, retE_ret, retE_exc, opt_some, opt_none, tru_bl, slotQ_some, intV_int, blV_bl, refV_ref, tupV_tup, wp_loc, wp_cint, wp_cstr, wp_cbl, wp_cnon, wp_cval, wp_bin, wp_neg, wp_nt, wp_cmp, wp_chain, wp_is, wp_and, wp_or, wp_ife, wp_fld, wp_ix, wp_sl, wp_tup, wp_lst, wp_dnew, wp_call, wp_mk, wp_make, wp_meth, wp_methK, wp_blt, wp_bm, wp_comp, wp_comp2, wp_pno, wp_pyes, wp_ono, wp_oyes, wp_esnil, wp_escons, wp_over, wp_range1, wp_range2, wp_range3, wp_enum, wp_rev, wp_nil, wp_ex, wp_set, wp_setf, wp_seti, wp_setTF, wp_sret, wp_retn, wp_pass, wp_brk, wp_cnt, wp_if, wp_for, wp_while, wp_binI, binI_add, binI_sub, binI_mul, binI_fdiv, binI_mod, binI_shr, binI_band, binI_bxor, binI_pow, cmp_lt, cmp_le, cmp_gt, cmp_ge, cmp_eqI, cmp_neI, cmp_eqS, cmp_neS, opt_ite, ite_and, List.getElem?_cons_zero, List.getElem?_cons_succ, List.set_cons_zero, List.set_cons_succ, List.length_cons, List.length_nil, List.append_nil, List.map_cons, List.map_nil, assignT, setSlots, List.cons_append, List.nil_append, Nat.reduceSub, Nat.reduceAdd, decide_eq_true_eq, if_true, if_false, Bool.false_eq_true, Bool.not_true, Bool.not_false, beq_true, beq_false, decide_true, decide_false, List.replicate_zero, List.replicate_succ, true_and, and_true]
  have s2 := s1.set7 (key p w) (max (L (key p w) - 1) 0)
  have hpl2 := hpl.set13 (a := 7) (o := .dcT (putK (key p w) (.int (max (L (key p w) - 1) 0)) ls)) (by decide)
  generalize h1.set 7 _ = h2 at s2 hpl2 ⊢
  rw [wp_cons]
  try simp only [wp_ok, wp_bad, wp_bind, wp_ite, wp_nx, wp_ret, wp_fbad, wp_st, retE_ret, retE_exc, opt_some, opt_none, tru_bl, slotQ_some, intV_int, blV_bl, refV_ref, tupV_tup, wp_loc, wp_cint, wp_cstr, wp_cbl, wp_cnon, wp_cval, wp_bin, wp_neg, wp_nt, wp_cmp, wp_chain, wp_is, wp_and, wp_or, wp_ife, wp_fld, wp_ix, wp_sl, wp_tup, wp_lst, wp_dnew, wp_call, wp_mk, wp_make, wp_meth, wp_methK, wp_blt, wp_bm, wp_comp, wp_comp2, wp_pno, wp_pyes, wp_ono, wp_oyes, wp_esnil, wp_escons, wp_over, wp_range1, wp_range2, wp_range3, wp_enum, wp_rev, wp_nil, wp_ex, wp_set, wp_setf, wp_seti, wp_setTF, wp_sret, wp_retn, wp_pass, wp_brk, wp_cnt, wp_if, wp_for, wp_while, wp_binI, binI_add, binI_sub, binI_mul, binI_fdiv, binI_mod, binI_shr, binI_band, binI_bxor, binI_pow, cmp_lt, cmp_le, cmp_gt, cmp_ge, cmp_eqI, cmp_neI, cmp_eqS, cmp_neS, opt_ite, ite_and, List.getElem?_cons_zero, List.getElem?_cons_succ, List.set_cons_zero, List.set_cons_succ, List.length_cons, List.length_nil, List.append_nil, List.map_cons, List.map_nil, assignT, setSlots, List.cons_append, List.nil_append, Nat.reduceSub, Nat.reduceAdd, decide_eq_true_eq, if_true, if_false, Bool.false_eq_true, Bool.not_true, Bool.not_false, beq_true, beq_false, decide_true, decide_false, List.replicate_zero, List.replicate_succ, true_and, and_true]
  refine ⟨zero_le, ?_⟩
  have s3 := s2.ext (Ext.push h2 (.lst []))
  have hpl3 := hpl2.ext (Ext.push h2 (.lst []))
  rw [eqn_get s3.s6 rfl, set_key s3.s8 hp (by have := s3.ns; omega)]
  try simp only [wp_ok, wp_bad, wp_bind, wp_ite, wp_nx, wp_ret, wp_fbad, wp_st, retE_ret, retE_exc, opt_some, opt_none, tru_bl, slotQ_some, intV_int, blV_bl, refV_ref, tupV_tup, wp_loc, wp_cint, wp_cstr, wp_cbl, wp_cnon, wp_cval, wp_bin, wp_neg, wp_nt, wp_cmp, wp_chain, wp_is, wp_and, wp_or, wp_ife, wp_fld, wp_ix, wp_sl, wp_tup, wp_lst, wp_dnew, wp_call, wp_mk, wp_make, wp_meth, wp_methK, wp_blt, wp_bm, wp_comp, wp_comp2, wp_pno, wp_pyes, wp_ono, wp_oyes, wp_esnil, wp_escons, wp_over, wp_range1, wp_range2, wp_range3, wp_enum, wp_rev, wp_nil, wp_ex, wp_set, wp_setf, wp_seti, wp_setTF, wp_sret, wp_retn, wp_pass, wp_brk, wp_cnt, wp_if, wp_for, wp_while, wp_binI, binI_add, binI_sub, binI_mul, binI_fdiv, binI_mod, binI_shr, binI_band, binI_bxor, binI_pow, cmp_lt, cmp_le, cmp_gt, cmp_ge, cmp_eqI, cmp_neI, cmp_eqS, cmp_neS, opt_ite, ite_and, List.getElem?_cons_zero, List.getElem?_cons_succ, List.set_cons_zero, List.set_cons_succ, List.length_cons, List.length_nil, List.append_nil, List.map_cons, List.map_nil, assignT, setSlots, List.cons_append, List.nil_append, Nat.reduceSub, Nat.reduceAdd, decide_eq_true_eq, if_true, if_false, Bool.false_eq_true, Bool.not_true, Bool.not_false, beq_true, beq_false, decide_true, decide_false, List.replicate_zero, List.replicate_succ, true_and, and_true]
  have s4 := s3.set8 (key p w) (v := .ref h2.size) ⟨h2.size, rfl, s2.size, .inl (Heap.get_new _ _)⟩
  have hpl4 := hpl3.set13 (a := 8) (o := .dcT (putK (key p w) (.ref h2.size) fs)) (by decide)
  generalize (h2.push (.lst [])).set 8 _ = h4 at s4 hpl4 ⊢
  rw [wp_cons]
  try simp only [wp_ok, wp_bad, wp_bind, wp_ite, wp_nx, wp_ret, wp_fbad, wp_st, retE_ret, retE_exc, opt_some, opt_none, tru_bl, slotQ_some, intV_int, blV_bl, refV_ref, tupV_tup, wp_loc, wp_cint, wp_cstr, wp_cbl, wp_cnon, wp_cval, wp_bin, wp_neg, wp_nt, wp_cmp, wp_chain, wp_is, wp_and, wp_or, wp_ife, wp_fld, wp_ix, wp_sl, wp_tup, wp_lst, wp_dnew, wp_call, wp_mk, wp_make, wp_meth, wp_methK, wp_blt, wp_bm, wp_comp, wp_comp2, wp_pno, wp_pyes, wp_ono, wp_oyes, wp_esnil, wp_escons, wp_over, wp_range1, wp_range2, wp_range3, wp_enum, wp_rev, wp_nil, wp_ex, wp_set, wp_setf, wp_seti, wp_setTF, wp_sret, wp_retn, wp_pass, wp_brk, wp_cnt, wp_if, wp_for, wp_while, wp_binI, binI_add, binI_sub, binI_mul, binI_fdiv, binI_mod, binI_shr, binI_band, binI_bxor, binI_pow, cmp_lt, cmp_le, cmp_gt, cmp_ge, cmp_eqI, cmp_neI, cmp_eqS, cmp_neS, opt_ite, ite_and, List.getElem?_cons_zero, List.getElem?_cons_succ, List.set_cons_zero, List.set_cons_succ, List.length_cons, List.length_nil, List.append_nil, List.map_cons, List.map_nil, assignT, setSlots, List.cons_append, List.nil_append, Nat.reduceSub, Nat.reduceAdd, decide_eq_true_eq, if_true, if_false, Bool.false_eq_true, Bool.not_true, Bool.not_false, beq_true, beq_false, decide_true, decide_false, List.replicate_zero, List.replicate_succ, true_and, and_true]
  by_cases q1 : 0 < L (key p w)
  · rw [if_pos q1, wp_cons]
    try simp only [wp_ok, wp_bad, wp_bind, wp_ite, wp_nx, wp_ret, wp_fbad, wp_st, retE_ret, retE_exc, opt_some, opt_none, tru_bl, slotQ_some, intV_int, blV_bl, refV_ref, tupV_tup, wp_loc, wp_cint, wp_cstr, wp_cbl, wp_cnon, wp_cval, wp_bin, wp_neg, wp_nt, wp_cmp, wp_chain, wp_is, wp_and, wp_or, wp_ife, wp_fld, wp_ix, wp_sl, wp_tup, wp_lst, wp_dnew, wp_call, wp_mk, wp_make, wp_meth, wp_methK, wp_blt, wp_bm, wp_comp, wp_comp2, wp_pno, wp_pyes, wp_ono, wp_oyes, wp_esnil, wp_escons, wp_over, wp_range1, wp_range2, wp_range3, wp_enum, wp_rev, wp_nil, wp_ex, wp_set, wp_setf, wp_seti, wp_setTF, wp_sret, wp_retn, wp_pass, wp_brk, wp_cnt, wp_if, wp_for, wp_while, wp_binI, binI_add, binI_sub, binI_mul, binI_fdiv, binI_mod, binI_shr, binI_band, binI_bxor, binI_pow, cmp_lt, cmp_le, cmp_gt, cmp_ge, cmp_eqI, cmp_neI, cmp_eqS, cmp_neS, opt_ite, ite_and, List.getElem?_cons_zero, List.getElem?_cons_succ, List.set_cons_zero, List.set_cons_succ, List.length_cons, List.length_nil, List.append_nil, List.map_cons, List.map_nil, assignT, setSlots, List.cons_append, List.nil_append, Nat.reduceSub, Nat.reduceAdd, decide_eq_true_eq, if_true, if_false, Bool.false_eq_true, Bool.not_true, Bool.not_false, beq_true, beq_false, decide_true, decide_false, List.replicate_zero, List.replicate_succ, true_and, and_true]
    rw [if_pos (.inl q1)]
    first | exact ⟨rfl, _, _, s4⟩ | exact ⟨_, _, s4⟩
  rw [if_neg q1, eqn_get s4.s6 rfl, meth_ref s4.s0 rfl, m71]
  try simp only [wp_ok, wp_bad, wp_bind, wp_ite, wp_nx, wp_ret, wp_fbad, wp_st, retE_ret, retE_exc, opt_some, opt_none, tru_bl, slotQ_some, intV_int, blV_bl, refV_ref, tupV_tup, wp_loc, wp_cint, wp_cstr, wp_cbl, wp_cnon, wp_cval, wp_bin, wp_neg, wp_nt, wp_cmp, wp_chain, wp_is, wp_and, wp_or, wp_ife, wp_fld, wp_ix, wp_sl, wp_tup, wp_lst, wp_dnew, wp_call, wp_mk, wp_make, wp_meth, wp_methK, wp_blt, wp_bm, wp_comp, wp_comp2, wp_pno, wp_pyes, wp_ono, wp_oyes, wp_esnil, wp_escons, wp_over, wp_range1, wp_range2, wp_range3, wp_enum, wp_rev, wp_nil, wp_ex, wp_set, wp_setf, wp_seti, wp_setTF, wp_sret, wp_retn, wp_pass, wp_brk, wp_cnt, wp_if, wp_for, wp_while, wp_binI, binI_add, binI_sub, binI_mul, binI_fdiv, binI_mod, binI_shr, binI_band, binI_bxor, binI_pow, cmp_lt, cmp_le, cmp_gt, cmp_ge, cmp_eqI, cmp_neI, cmp_eqS, cmp_neS, opt_ite, ite_and, List.getElem?_cons_zero, List.getElem?_cons_succ, List.set_cons_zero, List.set_cons_succ, List.length_cons, List.length_nil, List.append_nil, List.map_cons, List.map_nil, assignT, setSlots, List.cons_append, List.nil_append, Nat.reduceSub, Nat.reduceAdd, decide_eq_true_eq, if_true, if_false, Bool.false_eq_true, Bool.not_true, Bool.not_false, beq_true, beq_false, decide_true, decide_false, List.replicate_zero, List.replicate_succ, true_and, and_true]
  refine (hears_wp (n + 2) s4 hp hq (X := nox)).mono ?_ (fun _ _ _ q => q.elim)
  rintro v h5 ⟨rfl, rfl⟩
  try simp only [wp_ok, wp_bad, wp_bind, wp_ite, wp_nx, wp_ret, wp_fbad, wp_st, retE_ret, retE_exc, opt_some, opt_none, tru_bl, slotQ_some, intV_int, blV_bl, refV_ref, tupV_tup, wp_loc, wp_cint, wp_cstr, wp_cbl, wp_cnon, wp_cval, wp_bin, wp_neg, wp_nt, wp_cmp, wp_chain, wp_is, wp_and, wp_or, wp_ife, wp_fld, wp_ix, wp_sl, wp_tup, wp_lst, wp_dnew, wp_call, wp_mk, wp_make, wp_meth, wp_methK, wp_blt, wp_bm, wp_comp, wp_comp2, wp_pno, wp_pyes, wp_ono, wp_oyes, wp_esnil, wp_escons, wp_over, wp_range1, wp_range2, wp_range3, wp_enum, wp_rev, wp_nil, wp_ex, wp_set, wp_setf, wp_seti, wp_setTF, wp_sret, wp_retn, wp_pass, wp_brk, wp_cnt, wp_if, wp_for, wp_while, wp_binI, binI_add, binI_sub, binI_mul, binI_fdiv, binI_mod, binI_shr, binI_band, binI_bxor, binI_pow, cmp_lt, cmp_le, cmp_gt, cmp_ge, cmp_eqI, cmp_neI, cmp_eqS, cmp_neS, opt_ite, ite_and, List.getElem?_cons_zero, List.getElem?_cons_succ, List.set_cons_zero, List.set_cons_succ, List.length_cons, List.length_nil, List.append_nil, List.map_cons, List.map_nil, assignT, setSlots, List.cons_append, List.nil_append, Nat.reduceSub, Nat.reduceAdd, decide_eq_true_eq, if_true, if_false, Bool.false_eq_true, Bool.not_true, Bool.not_false, beq_true, beq_false, decide_true, decide_false, List.replicate_zero, List.replicate_succ, true_and, and_true]
  by_cases q2 : 5 ≤ lv p q
  · simp only [q2, wp_ok, wp_bad, wp_bind, wp_ite, wp_nx, wp_ret, wp_fbad, wp_st, retE_ret, retE_exc, opt_some, opt_none, tru_bl, slotQ_some, intV_int, blV_bl, refV_ref, tupV_tup, wp_loc, wp_cint, wp_cstr, wp_cbl, wp_cnon, wp_cval, wp_bin, wp_neg, wp_nt, wp_cmp, wp_chain, wp_is, wp_and, wp_or, wp_ife, wp_fld, wp_ix, wp_sl, wp_tup, wp_lst, wp_dnew, wp_call, wp_mk, wp_make, wp_meth, wp_methK, wp_blt, wp_bm, wp_comp, wp_comp2, wp_pno, wp_pyes, wp_ono, wp_oyes, wp_esnil, wp_escons, wp_over, wp_range1, wp_range2, wp_range3, wp_enum, wp_rev, wp_nil, wp_ex, wp_set, wp_setf, wp_seti, wp_setTF, wp_sret, wp_retn, wp_pass, wp_brk, wp_cnt, wp_if, wp_for, wp_while, wp_binI, binI_add, binI_sub, binI_mul, binI_fdiv, binI_mod, binI_shr, binI_band, binI_bxor, binI_pow, cmp_lt, cmp_le, cmp_gt, cmp_ge, cmp_eqI, cmp_neI, cmp_eqS, cmp_neS, opt_ite, ite_and, List.getElem?_cons_zero, List.getElem?_cons_succ, List.set_cons_zero, List.set_cons_succ, List.length_cons, List.length_nil, List.append_nil, List.map_cons, List.map_nil, assignT, setSlots, List.cons_append, List.nil_append, Nat.reduceSub, Nat.reduceAdd, decide_eq_true_eq, if_true, if_false, Bool.false_eq_true, Bool.not_true, Bool.not_false, beq_true, beq_false, decide_true, decide_false, List.replicate_zero, List.replicate_succ, true_and, and_true]
    rw [if_neg (by omega)]
    rw [wp_cons]
    try simp only [wp_ok, wp_bad, wp_bind, wp_ite, wp_nx, wp_ret, wp_fbad, wp_st, retE_ret, retE_exc, opt_some, opt_none, tru_bl, slotQ_some, intV_int, blV_bl, refV_ref, tupV_tup, wp_loc, wp_cint, wp_cstr, wp_cbl, wp_cnon, wp_cval, wp_bin, wp_neg, wp_nt, wp_cmp, wp_chain, wp_is, wp_and, wp_or, wp_ife, wp_fld, wp_ix, wp_sl, wp_tup, wp_lst, wp_dnew, wp_call, wp_mk, wp_make, wp_meth, wp_methK, wp_blt, wp_bm, wp_comp, wp_comp2, wp_pno, wp_pyes, wp_ono, wp_oyes, wp_esnil, wp_escons, wp_over, wp_range1, wp_range2, wp_range3, wp_enum, wp_rev, wp_nil, wp_ex, wp_set, wp_setf, wp_seti, wp_setTF, wp_sret, wp_retn, wp_pass, wp_brk, wp_cnt, wp_if, wp_for, wp_while, wp_binI, binI_add, binI_sub, binI_mul, binI_fdiv, binI_mod, binI_shr, binI_band, binI_bxor, binI_pow, cmp_lt, cmp_le, cmp_gt, cmp_ge, cmp_eqI, cmp_neI, cmp_eqS, cmp_neS, opt_ite, ite_and, List.getElem?_cons_zero, List.getElem?_cons_succ, List.set_cons_zero, List.set_cons_succ, List.length_cons, List.length_nil, List.append_nil, List.map_cons, List.map_nil, assignT, setSlots, List.cons_append, List.nil_append, Nat.reduceSub, Nat.reduceAdd, decide_eq_true_eq, if_true, if_false, Bool.false_eq_true, Bool.not_true, Bool.not_false, beq_true, beq_false, decide_true, decide_false, List.replicate_zero, List.replicate_succ, true_and, and_true]
    refine ⟨zero_le, ?_⟩
    have s6 := s4.ext (Ext.push h5 (.lst []))
    have hpl6 := hpl4.ext (Ext.push h5 (.lst []))
    obtain ⟨b, e, z⟩ := pl_eq hpl6 (Heap.get_new h5 (.lst []))
    rw [e]
    generalize h5.push (.lst []) = h6 at s6 z
    cases b with
    | true =>
      try simp only [wp_ok, wp_bad, wp_bind, wp_ite, wp_nx, wp_ret, wp_fbad, wp_st, retE_ret, retE_exc, opt_some, opt_none, tru_bl, slotQ_some, intV_int, blV_bl, refV_ref, tupV_tup, wp_loc, wp_cint, wp_cstr, wp_cbl, wp_cnon, wp_cval, wp_bin, wp_neg, wp_nt, wp_cmp, wp_chain, wp_is, wp_and, wp_or, wp_ife, wp_fld, wp_ix, wp_sl, wp_tup, wp_lst, wp_dnew, wp_call, wp_mk, wp_make, wp_meth, wp_methK, wp_blt, wp_bm, wp_comp, wp_comp2, wp_pno, wp_pyes, wp_ono, wp_oyes, wp_esnil, wp_escons, wp_over, wp_range1, wp_range2, wp_range3, wp_enum, wp_rev, wp_nil, wp_ex, wp_set, wp_setf, wp_seti, wp_setTF, wp_sret, wp_retn, wp_pass, wp_brk, wp_cnt, wp_if, wp_for, wp_while, wp_binI, binI_add, binI_sub, binI_mul, binI_fdiv, binI_mod, binI_shr, binI_band, binI_bxor, binI_pow, cmp_lt, cmp_le, cmp_gt, cmp_ge, cmp_eqI, cmp_neI, cmp_eqS, cmp_neS, opt_ite, ite_and, List.getElem?_cons_zero, List.getElem?_cons_succ, List.set_cons_zero, List.set_cons_succ, List.length_cons, List.length_nil, List.append_nil, List.map_cons, List.map_nil, assignT, setSlots, List.cons_append, List.nil_append, Nat.reduceSub, Nat.reduceAdd, decide_eq_true_eq, if_true, if_false, Bool.false_eq_true, Bool.not_true, Bool.not_false, beq_true, beq_false, decide_true, decide_false, List.replicate_zero, List.replicate_succ, true_and, and_true]
      rw [wp_cons]
      try simp only [wp_ok, wp_bad, wp_bind, wp_ite, wp_nx, wp_ret, wp_fbad, wp_st, retE_ret, retE_exc, opt_some, opt_none, tru_bl, slotQ_some, intV_int, blV_bl, refV_ref, tupV_tup, wp_loc, wp_cint, wp_cstr, wp_cbl, wp_cnon, wp_cval, wp_bin, wp_neg, wp_nt, wp_cmp, wp_chain, wp_is, wp_and, wp_or, wp_ife, wp_fld, wp_ix, wp_sl, wp_tup, wp_lst, wp_dnew, wp_call, wp_mk, wp_make, wp_meth, wp_methK, wp_blt, wp_bm, wp_comp, wp_comp2, wp_pno, wp_pyes, wp_ono, wp_oyes, wp_esnil, wp_escons, wp_over, wp_range1, wp_range2, wp_range3, wp_enum, wp_rev, wp_nil, wp_ex, wp_set, wp_setf, wp_seti, wp_setTF, wp_sret, wp_retn, wp_pass, wp_brk, wp_cnt, wp_if, wp_for, wp_while, wp_binI, binI_add, binI_sub, binI_mul, binI_fdiv, binI_mod, binI_shr, binI_band, binI_bxor, binI_pow, cmp_lt, cmp_le, cmp_gt, cmp_ge, cmp_eqI, cmp_neI, cmp_eqS, cmp_neS, opt_ite, ite_and, List.getElem?_cons_zero, List.getElem?_cons_succ, List.set_cons_zero, List.set_cons_succ, List.length_cons, List.length_nil, List.append_nil, List.map_cons, List.map_nil, assignT, setSlots, List.cons_append, List.nil_append, Nat.reduceSub, Nat.reduceAdd, decide_eq_true_eq, if_true, if_false, Bool.false_eq_true, Bool.not_true, Bool.not_false, beq_true, beq_false, decide_true, decide_false, List.replicate_zero, List.replicate_succ, true_and, and_true]
      first | exact ⟨rfl, _, _, s6⟩ | exact ⟨_, _, s6⟩
    | false =>
      try simp only [wp_ok, wp_bad, wp_bind, wp_ite, wp_nx, wp_ret, wp_fbad, wp_st, retE_ret, retE_exc, opt_some, opt_none, tru_bl, slotQ_some, intV_int, blV_bl, refV_ref, tupV_tup, wp_loc, wp_cint, wp_cstr, wp_cbl, wp_cnon, wp_cval, wp_bin, wp_neg, wp_nt, wp_cmp, wp_chain, wp_is, wp_and, wp_or, wp_ife, wp_fld, wp_ix, wp_sl, wp_tup, wp_lst, wp_dnew, wp_call, wp_mk, wp_make, wp_meth, wp_methK, wp_blt, wp_bm, wp_comp, wp_comp2, wp_pno, wp_pyes, wp_ono, wp_oyes, wp_esnil, wp_escons, wp_over, wp_range1, wp_range2, wp_range3, wp_enum, wp_rev, wp_nil, wp_ex, wp_set, wp_setf, wp_seti, wp_setTF, wp_sret, wp_retn, wp_pass, wp_brk, wp_cnt, wp_if, wp_for, wp_while, wp_binI, binI_add, binI_sub, binI_mul, binI_fdiv, binI_mod, binI_shr, binI_band, binI_bxor, binI_pow, cmp_lt, cmp_le, cmp_gt, cmp_ge, cmp_eqI, cmp_neI, cmp_eqS, cmp_neS, opt_ite, ite_and, List.getElem?_cons_zero, List.getElem?_cons_succ, List.set_cons_zero, List.set_cons_succ, List.length_cons, List.length_nil, List.append_nil, List.map_cons, List.map_nil, assignT, setSlots, List.cons_append, List.nil_append, Nat.reduceSub, Nat.reduceAdd, decide_eq_true_eq, if_true, if_false, Bool.false_eq_true, Bool.not_true, Bool.not_false, beq_true, beq_false, decide_true, decide_false, List.replicate_zero, List.replicate_succ, true_and, and_true]
      rcases z with z | ⟨a, mm, rfl, hmm, ga⟩
      · cases z
      rw [wp_cons]
      try simp only [wp_ok, wp_bad, wp_bind, wp_ite, wp_nx, wp_ret, wp_fbad, wp_st, retE_ret, retE_exc, opt_some, opt_none, tru_bl, slotQ_some, intV_int, blV_bl, refV_ref, tupV_tup, wp_loc, wp_cint, wp_cstr, wp_cbl, wp_cnon, wp_cval, wp_bin, wp_neg, wp_nt, wp_cmp, wp_chain, wp_is, wp_and, wp_or, wp_ife, wp_fld, wp_ix, wp_sl, wp_tup, wp_lst, wp_dnew, wp_call, wp_mk, wp_make, wp_meth, wp_methK, wp_blt, wp_bm, wp_comp, wp_comp2, wp_pno, wp_pyes, wp_ono, wp_oyes, wp_esnil, wp_escons, wp_over, wp_range1, wp_range2, wp_range3, wp_enum, wp_rev, wp_nil, wp_ex, wp_set, wp_setf, wp_seti, wp_setTF, wp_sret, wp_retn, wp_pass, wp_brk, wp_cnt, wp_if, wp_for, wp_while, wp_binI, binI_add, binI_sub, binI_mul, binI_fdiv, binI_mod, binI_shr, binI_band, binI_bxor, binI_pow, cmp_lt, cmp_le, cmp_gt, cmp_ge, cmp_eqI, cmp_neI, cmp_eqS, cmp_neS, opt_ite, ite_and, List.getElem?_cons_zero, List.getElem?_cons_succ, List.set_cons_zero, List.set_cons_succ, List.length_cons, List.length_nil, List.append_nil, List.map_cons, List.map_nil, assignT, setSlots, List.cons_append, List.nil_append, Nat.reduceSub, Nat.reduceAdd, decide_eq_true_eq, if_true, if_false, Bool.false_eq_true, Bool.not_true, Bool.not_false, beq_true, beq_false, decide_true, decide_false, List.replicate_zero, List.replicate_succ, true_and, and_true]
      refine (received_wp n h6 hl ho hmm ga (X := nox)).mono ?_ (fun _ _ _ q => q.elim)
      rintro v h7 ⟨rfl, x7⟩
      exact ⟨rfl, _, _, s6.ext x7⟩
  · simp only [q2, wp_ok, wp_bad, wp_bind, wp_ite, wp_nx, wp_ret, wp_fbad, wp_st, retE_ret, retE_exc, opt_some, opt_none, tru_bl, slotQ_some, intV_int, blV_bl, refV_ref, tupV_tup, wp_loc, wp_cint, wp_cstr, wp_cbl, wp_cnon, wp_cval, wp_bin, wp_neg, wp_nt, wp_cmp, wp_chain, wp_is, wp_and, wp_or, wp_ife, wp_fld, wp_ix, wp_sl, wp_tup, wp_lst, wp_dnew, wp_call, wp_mk, wp_make, wp_meth, wp_methK, wp_blt, wp_bm, wp_comp, wp_comp2, wp_pno, wp_pyes, wp_ono, wp_oyes, wp_esnil, wp_escons, wp_over, wp_range1, wp_range2, wp_range3, wp_enum, wp_rev, wp_nil, wp_ex, wp_set, wp_setf, wp_seti, wp_setTF, wp_sret, wp_retn, wp_pass, wp_brk, wp_cnt, wp_if, wp_for, wp_while, wp_binI, binI_add, binI_sub, binI_mul, binI_fdiv, binI_mod, binI_shr, binI_band, binI_bxor, binI_pow, cmp_lt, cmp_le, cmp_gt, cmp_ge, cmp_eqI, cmp_neI, cmp_eqS, cmp_neS, opt_ite, ite_and, List.getElem?_cons_zero, List.getElem?_cons_succ, List.set_cons_zero, List.set_cons_succ, List.length_cons, List.length_nil, List.append_nil, List.map_cons, List.map_nil, assignT, setSlots, List.cons_append, List.nil_append, Nat.reduceSub, Nat.reduceAdd, decide_eq_true_eq, if_true, if_false, Bool.false_eq_true, Bool.not_true, Bool.not_false, beq_true, beq_false, decide_true, decide_false, List.replicate_zero, List.replicate_succ, true_and, and_true]
    rw [if_pos (by omega)]
    rw [wp_cons]
    try simp only [wp_ok, wp_bad, wp_bind, wp_ite, wp_nx, wp_ret, wp_fbad, wp_st, retE_ret, retE_exc, opt_some, opt_none, tru_bl, slotQ_some, intV_int, blV_bl, refV_ref, tupV_tup, wp_loc, wp_cint, wp_cstr, wp_cbl, wp_cnon, wp_cval, wp_bin, wp_neg, wp_nt, wp_cmp, wp_chain, wp_is, wp_and, wp_or, wp_ife, wp_fld, wp_ix, wp_sl, wp_tup, wp_lst, wp_dnew, wp_call, wp_mk, wp_make, wp_meth, wp_methK, wp_blt, wp_bm, wp_comp, wp_comp2, wp_pno, wp_pyes, wp_ono, wp_oyes, wp_esnil, wp_escons, wp_over, wp_range1, wp_range2, wp_range3, wp_enum, wp_rev, wp_nil, wp_ex, wp_set, wp_setf, wp_seti, wp_setTF, wp_sret, wp_retn, wp_pass, wp_brk, wp_cnt, wp_if, wp_for, wp_while, wp_binI, binI_add, binI_sub, binI_mul, binI_fdiv, binI_mod, binI_shr, binI_band, binI_bxor, binI_pow, cmp_lt, cmp_le, cmp_gt, cmp_ge, cmp_eqI, cmp_neI, cmp_eqS, cmp_neS, opt_ite, ite_and, List.getElem?_cons_zero, List.getElem?_cons_succ, List.set_cons_zero, List.set_cons_succ, List.length_cons, List.length_nil, List.append_nil, List.map_cons, List.map_nil, assignT, setSlots, List.cons_append, List.nil_append, Nat.reduceSub, Nat.reduceAdd, decide_eq_true_eq, if_true, if_false, Bool.false_eq_true, Bool.not_true, Bool.not_false, beq_true, beq_false, decide_true, decide_false, List.replicate_zero, List.replicate_succ, true_and, and_true]
    first | exact ⟨rfl, _, _, s4⟩ | exact ⟨_, _, s4⟩
end
end M
end

section
set_option linter.all false
set_option Elab.async false
set_option maxRecDepth 4000
set_option pp.maxSteps 700
/-! P11: the law of the air. -/
namespace M
theorem fn_mixed : TT.fn 325 = some c__law_mixed := rfl
theorem mixed_wp (n : Nat) (h : Heap) (x t : Int) {X : Nat → List Val → Heap → Prop} : (callAt TT (n + 1) 325 [.int x, .int t] h).wp (fun v h' => ∃ y, v = .int y ∧ h' = h) X := by
  refine call_wp fn_mixed rfl ?_
  unfold c__law_mixed
  rw [wp_cons]
  try simp only [wp_ok, wp_bad, wp_bind, wp_ite, wp_nx, wp_ret, wp_fbad, wp_st, retE_ret, retE_exc, opt_some, opt_none, tru_bl, slotQ_some, intV_int, blV_bl, refV_ref, tupV_tup, wp_loc, wp_cint, wp_cstr, wp_cbl, wp_cnon, wp_cval, wp_bin, wp_neg, wp_nt, wp_cmp, wp_chain, wp_is, wp_and, wp_or, wp_ife, wp_fld, wp_ix, wp_sl, wp_tup, wp_lst, wp_dnew, wp_call, wp_mk, wp_make, wp_meth, wp_methK, wp_blt, wp_bm, wp_comp, wp_comp2, wp_pno, wp_pyes, wp_ono, wp_oyes, wp_esnil, wp_escons, wp_over, wp_range1, wp_range2, wp_range3, wp_enum, wp_rev, wp_nil, wp_ex, wp_set, wp_setf, wp_seti, wp_setTF, wp_sret, wp_retn, wp_pass, wp_brk, wp_cnt, wp_if, wp_for, wp_while, wp_binI, binI_add, binI_sub, binI_mul, binI_fdiv, binI_mod, binI_shr, binI_band, binI_bxor, binI_pow, cmp_lt, cmp_le, cmp_gt, cmp_ge, cmp_eqI, cmp_neI, cmp_eqS, cmp_neS, opt_ite, ite_and, List.getElem?_cons_zero, List.getElem?_cons_succ, List.set_cons_zero, List.set_cons_succ, List.length_cons, List.length_nil, List.append_nil, List.map_cons, List.map_nil, assignT, setSlots, List.cons_append, List.nil_append, Nat.reduceSub, Nat.reduceAdd, decide_eq_true_eq, if_true, if_false, Bool.false_eq_true, Bool.not_true, Bool.not_false, beq_true, beq_false, decide_true, decide_false, List.replicate_zero, List.replicate_succ, true_and, and_true]
  rw [int_int]
  rw [wp_cons]
  try simp only [wp_ok, wp_bad, wp_bind, wp_ite, wp_nx, wp_ret, wp_fbad, wp_st, retE_ret, retE_exc, opt_some, opt_none, tru_bl, slotQ_some, intV_int, blV_bl, refV_ref, tupV_tup, wp_loc, wp_cint, wp_cstr, wp_cbl, wp_cnon, wp_cval, wp_bin, wp_neg, wp_nt, wp_cmp, wp_chain, wp_is, wp_and, wp_or, wp_ife, wp_fld, wp_ix, wp_sl, wp_tup, wp_lst, wp_dnew, wp_call, wp_mk, wp_make, wp_meth, wp_methK, wp_blt, wp_bm, wp_comp, wp_comp2, wp_pno, wp_pyes, wp_ono, wp_oyes, wp_esnil, wp_escons, wp_over, wp_range1, wp_range2, wp_range3, wp_enum, wp_rev, wp_nil, wp_ex, wp_set, wp_setf, wp_seti, wp_setTF, wp_sret, wp_retn, wp_pass, wp_brk, wp_cnt, wp_if, wp_for, wp_while, wp_binI, binI_add, binI_sub, binI_mul, binI_fdiv, binI_mod, binI_shr, binI_band, binI_bxor, binI_pow, cmp_lt, cmp_le, cmp_gt, cmp_ge, cmp_eqI, cmp_neI, cmp_eqS, cmp_neS, opt_ite, ite_and, List.getElem?_cons_zero, List.getElem?_cons_succ, List.set_cons_zero, List.set_cons_succ, List.length_cons, List.length_nil, List.append_nil, List.map_cons, List.map_nil, assignT, setSlots, List.cons_append, List.nil_append, Nat.reduceSub, Nat.reduceAdd, decide_eq_true_eq, if_true, if_false, Bool.false_eq_true, Bool.not_true, Bool.not_false, beq_true, beq_false, decide_true, decide_false, List.replicate_zero, List.replicate_succ, true_and, and_true]
  refine ⟨by decide, ?_⟩
  split
  · rw [wp_cons]
    try simp only [wp_ok, wp_bad, wp_bind, wp_ite, wp_nx, wp_ret, wp_fbad, wp_st, retE_ret, retE_exc, opt_some, opt_none, tru_bl, slotQ_some, intV_int, blV_bl, refV_ref, tupV_tup, wp_loc, wp_cint, wp_cstr, wp_cbl, wp_cnon, wp_cval, wp_bin, wp_neg, wp_nt, wp_cmp, wp_chain, wp_is, wp_and, wp_or, wp_ife, wp_fld, wp_ix, wp_sl, wp_tup, wp_lst, wp_dnew, wp_call, wp_mk, wp_make, wp_meth, wp_methK, wp_blt, wp_bm, wp_comp, wp_comp2, wp_pno, wp_pyes, wp_ono, wp_oyes, wp_esnil, wp_escons, wp_over, wp_range1, wp_range2, wp_range3, wp_enum, wp_rev, wp_nil, wp_ex, wp_set, wp_setf, wp_seti, wp_setTF, wp_sret, wp_retn, wp_pass, wp_brk, wp_cnt, wp_if, wp_for, wp_while, wp_binI, binI_add, binI_sub, binI_mul, binI_fdiv, binI_mod, binI_shr, binI_band, binI_bxor, binI_pow, cmp_lt, cmp_le, cmp_gt, cmp_ge, cmp_eqI, cmp_neI, cmp_eqS, cmp_neS, opt_ite, ite_and, List.getElem?_cons_zero, List.getElem?_cons_succ, List.set_cons_zero, List.set_cons_succ, List.length_cons, List.length_nil, List.append_nil, List.map_cons, List.map_nil, assignT, setSlots, List.cons_append, List.nil_append, Nat.reduceSub, Nat.reduceAdd, decide_eq_true_eq, if_true, if_false, Bool.false_eq_true, Bool.not_true, Bool.not_false, beq_true, beq_false, decide_true, decide_false, List.replicate_zero, List.replicate_succ, true_and, and_true]
    exact ⟨_, rfl⟩
  rw [wp_cons]
  try simp only [wp_ok, wp_bad, wp_bind, wp_ite, wp_nx, wp_ret, wp_fbad, wp_st, retE_ret, retE_exc, opt_some, opt_none, tru_bl, slotQ_some, intV_int, blV_bl, refV_ref, tupV_tup, wp_loc, wp_cint, wp_cstr, wp_cbl, wp_cnon, wp_cval, wp_bin, wp_neg, wp_nt, wp_cmp, wp_chain, wp_is, wp_and, wp_or, wp_ife, wp_fld, wp_ix, wp_sl, wp_tup, wp_lst, wp_dnew, wp_call, wp_mk, wp_make, wp_meth, wp_methK, wp_blt, wp_bm, wp_comp, wp_comp2, wp_pno, wp_pyes, wp_ono, wp_oyes, wp_esnil, wp_escons, wp_over, wp_range1, wp_range2, wp_range3, wp_enum, wp_rev, wp_nil, wp_ex, wp_set, wp_setf, wp_seti, wp_setTF, wp_sret, wp_retn, wp_pass, wp_brk, wp_cnt, wp_if, wp_for, wp_while, wp_binI, binI_add, binI_sub, binI_mul, binI_fdiv, binI_mod, binI_shr, binI_band, binI_bxor, binI_pow, cmp_lt, cmp_le, cmp_gt, cmp_ge, cmp_eqI, cmp_neI, cmp_eqS, cmp_neS, opt_ite, ite_and, List.getElem?_cons_zero, List.getElem?_cons_succ, List.set_cons_zero, List.set_cons_succ, List.length_cons, List.length_nil, List.append_nil, List.map_cons, List.map_nil, assignT, setSlots, List.cons_append, List.nil_append, Nat.reduceSub, Nat.reduceAdd, decide_eq_true_eq, if_true, if_false, Bool.false_eq_true, Bool.not_true, Bool.not_false, beq_true, beq_false, decide_true, decide_false, List.replicate_zero, List.replicate_succ, true_and, and_true]
  refine ⟨by decide, small_ok2 rfl, small_ok rfl, by decide, ?_⟩
  rw [wp_cons]
  try simp only [wp_ok, wp_bad, wp_bind, wp_ite, wp_nx, wp_ret, wp_fbad, wp_st, retE_ret, retE_exc, opt_some, opt_none, tru_bl, slotQ_some, intV_int, blV_bl, refV_ref, tupV_tup, wp_loc, wp_cint, wp_cstr, wp_cbl, wp_cnon, wp_cval, wp_bin, wp_neg, wp_nt, wp_cmp, wp_chain, wp_is, wp_and, wp_or, wp_ife, wp_fld, wp_ix, wp_sl, wp_tup, wp_lst, wp_dnew, wp_call, wp_mk, wp_make, wp_meth, wp_methK, wp_blt, wp_bm, wp_comp, wp_comp2, wp_pno, wp_pyes, wp_ono, wp_oyes, wp_esnil, wp_escons, wp_over, wp_range1, wp_range2, wp_range3, wp_enum, wp_rev, wp_nil, wp_ex, wp_set, wp_setf, wp_seti, wp_setTF, wp_sret, wp_retn, wp_pass, wp_brk, wp_cnt, wp_if, wp_for, wp_while, wp_binI, binI_add, binI_sub, binI_mul, binI_fdiv, binI_mod, binI_shr, binI_band, binI_bxor, binI_pow, cmp_lt, cmp_le, cmp_gt, cmp_ge, cmp_eqI, cmp_neI, cmp_eqS, cmp_neS, opt_ite, ite_and, List.getElem?_cons_zero, List.getElem?_cons_succ, List.set_cons_zero, List.set_cons_succ, List.length_cons, List.length_nil, List.append_nil, List.map_cons, List.map_nil, assignT, setSlots, List.cons_append, List.nil_append, Nat.reduceSub, Nat.reduceAdd, decide_eq_true_eq, if_true, if_false, Bool.false_eq_true, Bool.not_true, Bool.not_false, beq_true, beq_false, decide_true, decide_false, List.replicate_zero, List.replicate_succ, true_and, and_true]
  refine ⟨small_ok2 rfl, by decide, by decide, ?_⟩
  rw [wp_cons]
  try simp only [wp_ok, wp_bad, wp_bind, wp_ite, wp_nx, wp_ret, wp_fbad, wp_st, retE_ret, retE_exc, opt_some, opt_none, tru_bl, slotQ_some, intV_int, blV_bl, refV_ref, tupV_tup, wp_loc, wp_cint, wp_cstr, wp_cbl, wp_cnon, wp_cval, wp_bin, wp_neg, wp_nt, wp_cmp, wp_chain, wp_is, wp_and, wp_or, wp_ife, wp_fld, wp_ix, wp_sl, wp_tup, wp_lst, wp_dnew, wp_call, wp_mk, wp_make, wp_meth, wp_methK, wp_blt, wp_bm, wp_comp, wp_comp2, wp_pno, wp_pyes, wp_ono, wp_oyes, wp_esnil, wp_escons, wp_over, wp_range1, wp_range2, wp_range3, wp_enum, wp_rev, wp_nil, wp_ex, wp_set, wp_setf, wp_seti, wp_setTF, wp_sret, wp_retn, wp_pass, wp_brk, wp_cnt, wp_if, wp_for, wp_while, wp_binI, binI_add, binI_sub, binI_mul, binI_fdiv, binI_mod, binI_shr, binI_band, binI_bxor, binI_pow, cmp_lt, cmp_le, cmp_gt, cmp_ge, cmp_eqI, cmp_neI, cmp_eqS, cmp_neS, opt_ite, ite_and, List.getElem?_cons_zero, List.getElem?_cons_succ, List.set_cons_zero, List.set_cons_succ, List.length_cons, List.length_nil, List.append_nil, List.map_cons, List.map_nil, assignT, setSlots, List.cons_append, List.nil_append, Nat.reduceSub, Nat.reduceAdd, decide_eq_true_eq, if_true, if_false, Bool.false_eq_true, Bool.not_true, Bool.not_false, beq_true, beq_false, decide_true, decide_false, List.replicate_zero, List.replicate_succ, true_and, and_true]
  refine ⟨small_ok2 rfl, by decide, ?_⟩
  rw [wp_cons]
  try simp only [wp_ok, wp_bad, wp_bind, wp_ite, wp_nx, wp_ret, wp_fbad, wp_st, retE_ret, retE_exc, opt_some, opt_none, tru_bl, slotQ_some, intV_int, blV_bl, refV_ref, tupV_tup, wp_loc, wp_cint, wp_cstr, wp_cbl, wp_cnon, wp_cval, wp_bin, wp_neg, wp_nt, wp_cmp, wp_chain, wp_is, wp_and, wp_or, wp_ife, wp_fld, wp_ix, wp_sl, wp_tup, wp_lst, wp_dnew, wp_call, wp_mk, wp_make, wp_meth, wp_methK, wp_blt, wp_bm, wp_comp, wp_comp2, wp_pno, wp_pyes, wp_ono, wp_oyes, wp_esnil, wp_escons, wp_over, wp_range1, wp_range2, wp_range3, wp_enum, wp_rev, wp_nil, wp_ex, wp_set, wp_setf, wp_seti, wp_setTF, wp_sret, wp_retn, wp_pass, wp_brk, wp_cnt, wp_if, wp_for, wp_while, wp_binI, binI_add, binI_sub, binI_mul, binI_fdiv, binI_mod, binI_shr, binI_band, binI_bxor, binI_pow, cmp_lt, cmp_le, cmp_gt, cmp_ge, cmp_eqI, cmp_neI, cmp_eqS, cmp_neS, opt_ite, ite_and, List.getElem?_cons_zero, List.getElem?_cons_succ, List.set_cons_zero, List.set_cons_succ, List.length_cons, List.length_nil, List.append_nil, List.map_cons, List.map_nil, assignT, setSlots, List.cons_append, List.nil_append, Nat.reduceSub, Nat.reduceAdd, decide_eq_true_eq, if_true, if_false, Bool.false_eq_true, Bool.not_true, Bool.not_false, beq_true, beq_false, decide_true, decide_false, List.replicate_zero, List.replicate_succ, true_and, and_true]
  exact ⟨small_ok rfl, small_ok rfl, _, rfl⟩
theorem fn_law_place : TT.fn 326 = some c__law_place := rfl
theorem law_place_wp (n : Nat) (h : Heap) (k : Nat) {X : Nat → List Val → Heap → Prop} : (callAt TT (n + 1) 326 [.int (k : Nat)] h).wp (fun v h' => v = nI (lp k) ∧ h' = h) X := by
  refine call_wp fn_law_place rfl ?_
  unfold c__law_place
  rw [wp_cons]
  try simp only [wp_ok, wp_bad, wp_bind, wp_ite, wp_nx, wp_ret, wp_fbad, wp_st, retE_ret, retE_exc, opt_some, opt_none, tru_bl, slotQ_some, intV_int, blV_bl, refV_ref, tupV_tup, wp_loc, wp_cint, wp_cstr, wp_cbl, wp_cnon, wp_cval, wp_bin, wp_neg, wp_nt, wp_cmp, wp_chain, wp_is, wp_and, wp_or, wp_ife, wp_fld, wp_ix, wp_sl, wp_tup, wp_lst, wp_dnew, wp_call, wp_mk, wp_make, wp_meth, wp_methK, wp_blt, wp_bm, wp_comp, wp_comp2, wp_pno, wp_pyes, wp_ono, wp_oyes, wp_esnil, wp_escons, wp_over, wp_range1, wp_range2, wp_range3, wp_enum, wp_rev, wp_nil, wp_ex, wp_set, wp_setf, wp_seti, wp_setTF, wp_sret, wp_retn, wp_pass, wp_brk, wp_cnt, wp_if, wp_for, wp_while, wp_binI, binI_add, binI_sub, binI_mul, binI_fdiv, binI_mod, binI_shr, binI_band, binI_bxor, binI_pow, cmp_lt, cmp_le, cmp_gt, cmp_ge, cmp_eqI, cmp_neI, cmp_eqS, cmp_neS, opt_ite, ite_and, List.getElem?_cons_zero, List.getElem?_cons_succ, List.set_cons_zero, List.set_cons_succ, List.length_cons, List.length_nil, List.append_nil, List.map_cons, List.map_nil, assignT, setSlots, List.cons_append, List.nil_append, Nat.reduceSub, Nat.reduceAdd, decide_eq_true_eq, if_true, if_false, Bool.false_eq_true, Bool.not_true, Bool.not_false, beq_true, beq_false, decide_true, decide_false, List.replicate_zero, List.replicate_succ, true_and, and_true]
  refine ⟨by decide, small_ok rfl, small_ok rfl, by decide, small_ok rfl, by decide, by decide, ?_⟩
  unfold nI lp plc
  congr 1
  push_cast
  omega
theorem ix6 {h : Heap} {a : Nat} {v : Int} {z : Int} (e : h.get a = some (.lst [.int 4, .int 5, .int 20, .int 63, .int 0, .int (z % 64)])) (t : Int) (h0 : 0 ≤ t) (h1 : t < 6) : ∃ x, ixV h (.ref a) (.int t) = some (.int x) ∧ 0 ≤ x ∧ x ≤ 63 := by
  have : t = 0 ∨ t = 1 ∨ t = 2 ∨ t = 3 ∨ t = 4 ∨ t = 5 := by omega
  rcases this with rfl | rfl | rfl | rfl | rfl | rfl
  · exact ⟨_, ix_lst (k := 0) e (by simp), by decide, by decide⟩
  · exact ⟨_, ix_lst (k := 1) e (by simp), by decide, by decide⟩
  · exact ⟨_, ix_lst (k := 2) e (by simp), by decide, by decide⟩
  · exact ⟨_, ix_lst (k := 3) e (by simp), by decide, by decide⟩
  · exact ⟨_, ix_lst (k := 4) e (by simp), by decide, by decide⟩
  · exact ⟨_, ix_lst (k := 5) e (by simp), by omega, by omega⟩
theorem ne_tup (h : Heap) (os : List Nat) : cmpV .ne (.tup (os.map nI)) (.tup (os.map nI)) h = some false := by
  have e : os.map nI = (os.map (fun n : Nat => (n : Int))).map Val.int := by rw [List.map_map]; rfl
  have t : toD h eqDepth (.tup (os.map nI)) = some (.tup ((os.map (fun n : Nat => (n : Int))).map dI)) := by
    rw [e]
    unfold eqDepth toD
    simp only
    rw [toDs_ints]
    rfl
  unfold cmpV eqV
  rw [show scal (.tup (os.map nI)) (.tup (os.map nI)) = false from rfl, t]
  simp only [D.eqv, eqvs_ints, decide_true]
  rfl
theorem ne_non (h : Heap) : cmpV .ne .non .non h = some false := rfl
/-- the law's turn -/
def turnI (vs : List Val) (k : Nat) (σ : Slots) (h : Heap) : Prop := ∃ fl lv L ls lf fs, (∃ a6 a7 a8 a9 a10 a11 a12 a13 a14 a15 a16 a17, σ = [some (.glb 6), some (.ref 0), some (.ref 6), some (.ref 11), some (.ref 12), some (.int fl), a6, a7, a8, a9, a10, a11, a12, a13, a14, a15, a16, a17, none]) ∧ S h vs lv lv ls lf fs L L (4 * k)
theorem S.up {h : Heap} {vs : List Val} {lv lvf : Nat → Nat → Int} {ls lf fs : List (List K × Val)} {L Lf : List K → Int} {m m' : Nat} (s : S h vs lv lvf ls lf fs L Lf m) (hm : m ≤ m') : S h vs lv lvf ls lf fs L Lf m' :=
  { s with nl := Nat.le_trans s.nl hm, nf := Nat.le_trans s.nf hm, ns := Nat.le_trans s.ns hm }
theorem ways {h : Heap} {a : Nat} (e : h.get a = some (.lst [.str [117, 112], .str [100, 111, 119, 110]])) {w : Bool} : ixV h (.ref a) (.int ((if w then 1 else 0 : Nat) : Int)) = some (.str (wayS w)) := by
  rw [ix2 e (by cases w <;> decide)]
  cases w <;> rfl
theorem turn_wp (n : Nat) (vs : List Val) (hv : ∀ v ∈ vs, ∃ x, v = .int x) (k : Nat) (hk : k < vs.length) (hk40 : k < 40) (σ : Slots) (h : Heap) (i : turnI vs k σ h) (E0 : Fl → Prop) :
    ∃ σ1, assignT (.many [6, 7]) (.tup [.int (k : Nat), vs[k]]) σ = some σ1 ∧ (evB TT (callAt TT (n + 7)) (match c_law.body with
      | .cons _ (.cons _ (.cons _ (.cons _ (.cons _ (.cons (.for_ _ _ b) _))))) => b
      | _ => .nil) σ1 h).wp (turnI vs (k + 1)) E0 := by
  obtain ⟨fl, lv, L, ls, lf, fs, ⟨a6, a7, a8, a9, a10, a11, a12, a13, a14, a15, a16, a17, rfl⟩, s⟩ := i
  obtain ⟨x, hx⟩ := hv _ (List.getElem_mem hk)
  rw [hx]
  refine ⟨_, rfl, ?_⟩
  unfold c_law
  simp only
  rw [wp_cons]
  try simp only [wp_ok, wp_bad, wp_bind, wp_ite, wp_nx, wp_ret, wp_fbad, wp_st, retE_ret, retE_exc, opt_some, opt_none, tru_bl, slotQ_some, intV_int, blV_bl, refV_ref, tupV_tup, wp_loc, wp_cint, wp_cstr, wp_cbl, wp_cnon, wp_cval, wp_bin, wp_neg, wp_nt, wp_cmp, wp_chain, wp_is, wp_and, wp_or, wp_ife, wp_fld, wp_ix, wp_sl, wp_tup, wp_lst, wp_dnew, wp_call, wp_mk, wp_make, wp_meth, wp_methK, wp_blt, wp_bm, wp_comp, wp_comp2, wp_pno, wp_pyes, wp_ono, wp_oyes, wp_esnil, wp_escons, wp_over, wp_range1, wp_range2, wp_range3, wp_enum, wp_rev, wp_nil, wp_ex, wp_set, wp_setf, wp_seti, wp_setTF, wp_sret, wp_retn, wp_pass, wp_brk, wp_cnt, wp_if, wp_for, wp_while, wp_binI, binI_add, binI_sub, binI_mul, binI_fdiv, binI_mod, binI_shr, binI_band, binI_bxor, binI_pow, cmp_lt, cmp_le, cmp_gt, cmp_ge, cmp_eqI, cmp_neI, cmp_eqS, cmp_neS, opt_ite, ite_and, List.getElem?_cons_zero, List.getElem?_cons_succ, List.set_cons_zero, List.set_cons_succ, List.length_cons, List.length_nil, List.append_nil, List.map_cons, List.map_nil, assignT, setSlots, List.cons_append, List.nil_append, Nat.reduceSub, Nat.reduceAdd, decide_eq_true_eq, if_true, if_false, Bool.false_eq_true, Bool.not_true, Bool.not_false, beq_true, beq_false, decide_true, decide_false, List.replicate_zero, List.replicate_succ, true_and, and_true]
  refine (mixed_wp (n + 6) h x k (X := nox)).mono ?_ (fun _ _ _ q => q.elim)
  rintro v h0 ⟨v, rfl, rfl⟩
  obtain ⟨p, hp, ep⟩ : ∃ p : Nat, p < 2 ∧ v / 8 % 2 = (p : Int) := ⟨(v / 8 % 2).toNat, by omega, by omega⟩
  obtain ⟨q, hq, eq⟩ : ∃ p : Nat, p < 2 ∧ v / 32 % 2 = (p : Int) := ⟨(v / 32 % 2).toNat, by omega, by omega⟩
  obtain ⟨w, ew⟩ : ∃ w : Bool, v / 16 % 2 = ((if w then 1 else 0 : Nat) : Int) := by
    by_cases z : v / 16 % 2 = 0
    · exact ⟨false, by rw [z]; rfl⟩
    · exact ⟨true, by simp only [if_true]; omega⟩
  rw [wp_cons]
  try simp only [wp_ok, wp_bad, wp_bind, wp_ite, wp_nx, wp_ret, wp_fbad, wp_st, retE_ret, retE_exc, opt_some, opt_none, tru_bl, slotQ_some, intV_int, blV_bl, refV_ref, tupV_tup, wp_loc, wp_cint, wp_cstr, wp_cbl, wp_cnon, wp_cval, wp_bin, wp_neg, wp_nt, wp_cmp, wp_chain, wp_is, wp_and, wp_or, wp_ife, wp_fld, wp_ix, wp_sl, wp_tup, wp_lst, wp_dnew, wp_call, wp_mk, wp_make, wp_meth, wp_methK, wp_blt, wp_bm, wp_comp, wp_comp2, wp_pno, wp_pyes, wp_ono, wp_oyes, wp_esnil, wp_escons, wp_over, wp_range1, wp_range2, wp_range3, wp_enum, wp_rev, wp_nil, wp_ex, wp_set, wp_setf, wp_seti, wp_setTF, wp_sret, wp_retn, wp_pass, wp_brk, wp_cnt, wp_if, wp_for, wp_while, wp_binI, binI_add, binI_sub, binI_mul, binI_fdiv, binI_mod, binI_shr, binI_band, binI_bxor, binI_pow, cmp_lt, cmp_le, cmp_gt, cmp_ge, cmp_eqI, cmp_neI, cmp_eqS, cmp_neS, opt_ite, ite_and, List.getElem?_cons_zero, List.getElem?_cons_succ, List.set_cons_zero, List.set_cons_succ, List.length_cons, List.length_nil, List.append_nil, List.map_cons, List.map_nil, assignT, setSlots, List.cons_append, List.nil_append, Nat.reduceSub, Nat.reduceAdd, decide_eq_true_eq, if_true, if_false, Bool.false_eq_true, Bool.not_true, Bool.not_false, beq_true, beq_false, decide_true, decide_false, List.replicate_zero, List.replicate_succ, true_and, and_true]
  refine ⟨by decide, by decide, ?_⟩
  rw [ep, wp_cons]
  try simp only [wp_ok, wp_bad, wp_bind, wp_ite, wp_nx, wp_ret, wp_fbad, wp_st, retE_ret, retE_exc, opt_some, opt_none, tru_bl, slotQ_some, intV_int, blV_bl, refV_ref, tupV_tup, wp_loc, wp_cint, wp_cstr, wp_cbl, wp_cnon, wp_cval, wp_bin, wp_neg, wp_nt, wp_cmp, wp_chain, wp_is, wp_and, wp_or, wp_ife, wp_fld, wp_ix, wp_sl, wp_tup, wp_lst, wp_dnew, wp_call, wp_mk, wp_make, wp_meth, wp_methK, wp_blt, wp_bm, wp_comp, wp_comp2, wp_pno, wp_pyes, wp_ono, wp_oyes, wp_esnil, wp_escons, wp_over, wp_range1, wp_range2, wp_range3, wp_enum, wp_rev, wp_nil, wp_ex, wp_set, wp_setf, wp_seti, wp_setTF, wp_sret, wp_retn, wp_pass, wp_brk, wp_cnt, wp_if, wp_for, wp_while, wp_binI, binI_add, binI_sub, binI_mul, binI_fdiv, binI_mod, binI_shr, binI_band, binI_bxor, binI_pow, cmp_lt, cmp_le, cmp_gt, cmp_ge, cmp_eqI, cmp_neI, cmp_eqS, cmp_neS, opt_ite, ite_and, List.getElem?_cons_zero, List.getElem?_cons_succ, List.set_cons_zero, List.set_cons_succ, List.length_cons, List.length_nil, List.append_nil, List.map_cons, List.map_nil, assignT, setSlots, List.cons_append, List.nil_append, Nat.reduceSub, Nat.reduceAdd, decide_eq_true_eq, if_true, if_false, Bool.false_eq_true, Bool.not_true, Bool.not_false, beq_true, beq_false, decide_true, decide_false, List.replicate_zero, List.replicate_succ, true_and, and_true]
  refine ⟨two_le, by decide, by decide, ?_⟩
  rw [ew, ways (Heap.get_new _ _)]
  have s1 := s.ext (Ext.push h0 (.lst [.str [117, 112], .str [100, 111, 119, 110]]))
  generalize h0.push (.lst [.str [117, 112], .str [100, 111, 119, 110]]) = h1 at s1 ⊢
  try simp only [wp_ok, wp_bad, wp_bind, wp_ite, wp_nx, wp_ret, wp_fbad, wp_st, retE_ret, retE_exc, opt_some, opt_none, tru_bl, slotQ_some, intV_int, blV_bl, refV_ref, tupV_tup, wp_loc, wp_cint, wp_cstr, wp_cbl, wp_cnon, wp_cval, wp_bin, wp_neg, wp_nt, wp_cmp, wp_chain, wp_is, wp_and, wp_or, wp_ife, wp_fld, wp_ix, wp_sl, wp_tup, wp_lst, wp_dnew, wp_call, wp_mk, wp_make, wp_meth, wp_methK, wp_blt, wp_bm, wp_comp, wp_comp2, wp_pno, wp_pyes, wp_ono, wp_oyes, wp_esnil, wp_escons, wp_over, wp_range1, wp_range2, wp_range3, wp_enum, wp_rev, wp_nil, wp_ex, wp_set, wp_setf, wp_seti, wp_setTF, wp_sret, wp_retn, wp_pass, wp_brk, wp_cnt, wp_if, wp_for, wp_while, wp_binI, binI_add, binI_sub, binI_mul, binI_fdiv, binI_mod, binI_shr, binI_band, binI_bxor, binI_pow, cmp_lt, cmp_le, cmp_gt, cmp_ge, cmp_eqI, cmp_neI, cmp_eqS, cmp_neS, opt_ite, ite_and, List.getElem?_cons_zero, List.getElem?_cons_succ, List.set_cons_zero, List.set_cons_succ, List.length_cons, List.length_nil, List.append_nil, List.map_cons, List.map_nil, assignT, setSlots, List.cons_append, List.nil_append, Nat.reduceSub, Nat.reduceAdd, decide_eq_true_eq, if_true, if_false, Bool.false_eq_true, Bool.not_true, Bool.not_false, beq_true, beq_false, decide_true, decide_false, List.replicate_zero, List.replicate_succ, true_and, and_true]
  rw [wp_cons]
  try simp only [wp_ok, wp_bad, wp_bind, wp_ite, wp_nx, wp_ret, wp_fbad, wp_st, retE_ret, retE_exc, opt_some, opt_none, tru_bl, slotQ_some, intV_int, blV_bl, refV_ref, tupV_tup, wp_loc, wp_cint, wp_cstr, wp_cbl, wp_cnon, wp_cval, wp_bin, wp_neg, wp_nt, wp_cmp, wp_chain, wp_is, wp_and, wp_or, wp_ife, wp_fld, wp_ix, wp_sl, wp_tup, wp_lst, wp_dnew, wp_call, wp_mk, wp_make, wp_meth, wp_methK, wp_blt, wp_bm, wp_comp, wp_comp2, wp_pno, wp_pyes, wp_ono, wp_oyes, wp_esnil, wp_escons, wp_over, wp_range1, wp_range2, wp_range3, wp_enum, wp_rev, wp_nil, wp_ex, wp_set, wp_setf, wp_seti, wp_setTF, wp_sret, wp_retn, wp_pass, wp_brk, wp_cnt, wp_if, wp_for, wp_while, wp_binI, binI_add, binI_sub, binI_mul, binI_fdiv, binI_mod, binI_shr, binI_band, binI_bxor, binI_pow, cmp_lt, cmp_le, cmp_gt, cmp_ge, cmp_eqI, cmp_neI, cmp_eqS, cmp_neS, opt_ite, ite_and, List.getElem?_cons_zero, List.getElem?_cons_succ, List.set_cons_zero, List.set_cons_succ, List.length_cons, List.length_nil, List.append_nil, List.map_cons, List.map_nil, assignT, setSlots, List.cons_append, List.nil_append, Nat.reduceSub, Nat.reduceAdd, decide_eq_true_eq, if_true, if_false, Bool.false_eq_true, Bool.not_true, Bool.not_false, beq_true, beq_false, decide_true, decide_false, List.replicate_zero, List.replicate_succ, true_and, and_true]
  refine ⟨by decide, by decide, ?_⟩
  rw [eq, wp_cons]
  try simp only [wp_ok, wp_bad, wp_bind, wp_ite, wp_nx, wp_ret, wp_fbad, wp_st, retE_ret, retE_exc, opt_some, opt_none, tru_bl, slotQ_some, intV_int, blV_bl, refV_ref, tupV_tup, wp_loc, wp_cint, wp_cstr, wp_cbl, wp_cnon, wp_cval, wp_bin, wp_neg, wp_nt, wp_cmp, wp_chain, wp_is, wp_and, wp_or, wp_ife, wp_fld, wp_ix, wp_sl, wp_tup, wp_lst, wp_dnew, wp_call, wp_mk, wp_make, wp_meth, wp_methK, wp_blt, wp_bm, wp_comp, wp_comp2, wp_pno, wp_pyes, wp_ono, wp_oyes, wp_esnil, wp_escons, wp_over, wp_range1, wp_range2, wp_range3, wp_enum, wp_rev, wp_nil, wp_ex, wp_set, wp_setf, wp_seti, wp_setTF, wp_sret, wp_retn, wp_pass, wp_brk, wp_cnt, wp_if, wp_for, wp_while, wp_binI, binI_add, binI_sub, binI_mul, binI_fdiv, binI_mod, binI_shr, binI_band, binI_bxor, binI_pow, cmp_lt, cmp_le, cmp_gt, cmp_ge, cmp_eqI, cmp_neI, cmp_eqS, cmp_neS, opt_ite, ite_and, List.getElem?_cons_zero, List.getElem?_cons_succ, List.set_cons_zero, List.set_cons_succ, List.length_cons, List.length_nil, List.append_nil, List.map_cons, List.map_nil, assignT, setSlots, List.cons_append, List.nil_append, Nat.reduceSub, Nat.reduceAdd, decide_eq_true_eq, if_true, if_false, Bool.false_eq_true, Bool.not_true, Bool.not_false, beq_true, beq_false, decide_true, decide_false, List.replicate_zero, List.replicate_succ, true_and, and_true]
  refine ⟨by decide, ?_⟩
  have kv : (Val.tup [.int (p : Nat), .str (wayS w)]) = .tup (keyV p w) := rfl
  rw [wp_cons]
  try simp only [wp_ok, wp_bad, wp_bind, wp_ite, wp_nx, wp_ret, wp_fbad, wp_st, retE_ret, retE_exc, opt_some, opt_none, tru_bl, slotQ_some, intV_int, blV_bl, refV_ref, tupV_tup, wp_loc, wp_cint, wp_cstr, wp_cbl, wp_cnon, wp_cval, wp_bin, wp_neg, wp_nt, wp_cmp, wp_chain, wp_is, wp_and, wp_or, wp_ife, wp_fld, wp_ix, wp_sl, wp_tup, wp_lst, wp_dnew, wp_call, wp_mk, wp_make, wp_meth, wp_methK, wp_blt, wp_bm, wp_comp, wp_comp2, wp_pno, wp_pyes, wp_ono, wp_oyes, wp_esnil, wp_escons, wp_over, wp_range1, wp_range2, wp_range3, wp_enum, wp_rev, wp_nil, wp_ex, wp_set, wp_setf, wp_seti, wp_setTF, wp_sret, wp_retn, wp_pass, wp_brk, wp_cnt, wp_if, wp_for, wp_while, wp_binI, binI_add, binI_sub, binI_mul, binI_fdiv, binI_mod, binI_shr, binI_band, binI_bxor, binI_pow, cmp_lt, cmp_le, cmp_gt, cmp_ge, cmp_eqI, cmp_neI, cmp_eqS, cmp_neS, opt_ite, ite_and, List.getElem?_cons_zero, List.getElem?_cons_succ, List.set_cons_zero, List.set_cons_succ, List.length_cons, List.length_nil, List.append_nil, List.map_cons, List.map_nil, assignT, setSlots, List.cons_append, List.nil_append, Nat.reduceSub, Nat.reduceAdd, decide_eq_true_eq, if_true, if_false, Bool.false_eq_true, Bool.not_true, Bool.not_false, beq_true, beq_false, decide_true, decide_false, List.replicate_zero, List.replicate_succ, true_and, and_true]
  by_cases k0 : v % 8 = 0
  · simp only [k0, wp_ok, wp_bad, wp_bind, wp_ite, wp_nx, wp_ret, wp_fbad, wp_st, retE_ret, retE_exc, opt_some, opt_none, tru_bl, slotQ_some, intV_int, blV_bl, refV_ref, tupV_tup, wp_loc, wp_cint, wp_cstr, wp_cbl, wp_cnon, wp_cval, wp_bin, wp_neg, wp_nt, wp_cmp, wp_chain, wp_is, wp_and, wp_or, wp_ife, wp_fld, wp_ix, wp_sl, wp_tup, wp_lst, wp_dnew, wp_call, wp_mk, wp_make, wp_meth, wp_methK, wp_blt, wp_bm, wp_comp, wp_comp2, wp_pno, wp_pyes, wp_ono, wp_oyes, wp_esnil, wp_escons, wp_over, wp_range1, wp_range2, wp_range3, wp_enum, wp_rev, wp_nil, wp_ex, wp_set, wp_setf, wp_seti, wp_setTF, wp_sret, wp_retn, wp_pass, wp_brk, wp_cnt, wp_if, wp_for, wp_while, wp_binI, binI_add, binI_sub, binI_mul, binI_fdiv, binI_mod, binI_shr, binI_band, binI_bxor, binI_pow, cmp_lt, cmp_le, cmp_gt, cmp_ge, cmp_eqI, cmp_neI, cmp_eqS, cmp_neS, opt_ite, ite_and, List.getElem?_cons_zero, List.getElem?_cons_succ, List.set_cons_zero, List.set_cons_succ, List.length_cons, List.length_nil, List.append_nil, List.map_cons, List.map_nil, assignT, setSlots, List.cons_append, List.nil_append, Nat.reduceSub, Nat.reduceAdd, decide_eq_true_eq, if_true, if_false, Bool.false_eq_true, Bool.not_true, Bool.not_false, beq_true, beq_false, decide_true, decide_false, List.replicate_zero, List.replicate_succ, true_and, and_true]
    rw [wp_cons]
    simp only [kv, wp_ok, wp_bad, wp_bind, wp_ite, wp_nx, wp_ret, wp_fbad, wp_st, retE_ret, retE_exc, opt_some, opt_none, tru_bl, slotQ_some, intV_int, blV_bl, refV_ref, tupV_tup, wp_loc, wp_cint, wp_cstr, wp_cbl, wp_cnon, wp_cval, wp_bin, wp_neg, wp_nt, wp_cmp, wp_chain, wp_is, wp_and, wp_or, wp_ife, wp_fld, wp_ix, wp_sl, wp_tup, wp_lst, wp_dnew, wp_call, wp_mk, wp_make, wp_meth, wp_methK, wp_blt, wp_bm, wp_comp, wp_comp2, wp_pno, wp_pyes, wp_ono, wp_oyes, wp_esnil, wp_escons, wp_over, wp_range1, wp_range2, wp_range3, wp_enum, wp_rev, wp_nil, wp_ex, wp_set, wp_setf, wp_seti, wp_setTF, wp_sret, wp_retn, wp_pass, wp_brk, wp_cnt, wp_if, wp_for, wp_while, wp_binI, binI_add, binI_sub, binI_mul, binI_fdiv, binI_mod, binI_shr, binI_band, binI_bxor, binI_pow, cmp_lt, cmp_le, cmp_gt, cmp_ge, cmp_eqI, cmp_neI, cmp_eqS, cmp_neS, opt_ite, ite_and, List.getElem?_cons_zero, List.getElem?_cons_succ, List.set_cons_zero, List.set_cons_succ, List.length_cons, List.length_nil, List.append_nil, List.map_cons, List.map_nil, assignT, setSlots, List.cons_append, List.nil_append, Nat.reduceSub, Nat.reduceAdd, decide_eq_true_eq, if_true, if_false, Bool.false_eq_true, Bool.not_true, Bool.not_false, beq_true, beq_false, decide_true, decide_false, List.replicate_zero, List.replicate_succ, true_and, and_true]
    refine ⟨by decide, by decide, two_le, ?_⟩
    rw [set_key s1.s12 hp (by have := s1.nf; omega)]
    try simp only [wp_ok, wp_bad, wp_bind, wp_ite, wp_nx, wp_ret, wp_fbad, wp_st, retE_ret, retE_exc, opt_some, opt_none, tru_bl, slotQ_some, intV_int, blV_bl, refV_ref, tupV_tup, wp_loc, wp_cint, wp_cstr, wp_cbl, wp_cnon, wp_cval, wp_bin, wp_neg, wp_nt, wp_cmp, wp_chain, wp_is, wp_and, wp_or, wp_ife, wp_fld, wp_ix, wp_sl, wp_tup, wp_lst, wp_dnew, wp_call, wp_mk, wp_make, wp_meth, wp_methK, wp_blt, wp_bm, wp_comp, wp_comp2, wp_pno, wp_pyes, wp_ono, wp_oyes, wp_esnil, wp_escons, wp_over, wp_range1, wp_range2, wp_range3, wp_enum, wp_rev, wp_nil, wp_ex, wp_set, wp_setf, wp_seti, wp_setTF, wp_sret, wp_retn, wp_pass, wp_brk, wp_cnt, wp_if, wp_for, wp_while, wp_binI, binI_add, binI_sub, binI_mul, binI_fdiv, binI_mod, binI_shr, binI_band, binI_bxor, binI_pow, cmp_lt, cmp_le, cmp_gt, cmp_ge, cmp_eqI, cmp_neI, cmp_eqS, cmp_neS, opt_ite, ite_and, List.getElem?_cons_zero, List.getElem?_cons_succ, List.set_cons_zero, List.set_cons_succ, List.length_cons, List.length_nil, List.append_nil, List.map_cons, List.map_nil, assignT, setSlots, List.cons_append, List.nil_append, Nat.reduceSub, Nat.reduceAdd, decide_eq_true_eq, if_true, if_false, Bool.false_eq_true, Bool.not_true, Bool.not_false, beq_true, beq_false, decide_true, decide_false, List.replicate_zero, List.replicate_succ, true_and, and_true]
    have s2 := s1.set12 (key p w) (v / 64 % 5)
    generalize h1.set 12 _ = h2 at s2 ⊢
    rw [wp_cons]
    try simp only [wp_ok, wp_bad, wp_bind, wp_ite, wp_nx, wp_ret, wp_fbad, wp_st, retE_ret, retE_exc, opt_some, opt_none, tru_bl, slotQ_some, intV_int, blV_bl, refV_ref, tupV_tup, wp_loc, wp_cint, wp_cstr, wp_cbl, wp_cnon, wp_cval, wp_bin, wp_neg, wp_nt, wp_cmp, wp_chain, wp_is, wp_and, wp_or, wp_ife, wp_fld, wp_ix, wp_sl, wp_tup, wp_lst, wp_dnew, wp_call, wp_mk, wp_make, wp_meth, wp_methK, wp_blt, wp_bm, wp_comp, wp_comp2, wp_pno, wp_pyes, wp_ono, wp_oyes, wp_esnil, wp_escons, wp_over, wp_range1, wp_range2, wp_range3, wp_enum, wp_rev, wp_nil, wp_ex, wp_set, wp_setf, wp_seti, wp_setTF, wp_sret, wp_retn, wp_pass, wp_brk, wp_cnt, wp_if, wp_for, wp_while, wp_binI, binI_add, binI_sub, binI_mul, binI_fdiv, binI_mod, binI_shr, binI_band, binI_bxor, binI_pow, cmp_lt, cmp_le, cmp_gt, cmp_ge, cmp_eqI, cmp_neI, cmp_eqS, cmp_neS, opt_ite, ite_and, List.getElem?_cons_zero, List.getElem?_cons_succ, List.set_cons_zero, List.set_cons_succ, List.length_cons, List.length_nil, List.append_nil, List.map_cons, List.map_nil, assignT, setSlots, List.cons_append, List.nil_append, Nat.reduceSub, Nat.reduceAdd, decide_eq_true_eq, if_true, if_false, Bool.false_eq_true, Bool.not_true, Bool.not_false, beq_true, beq_false, decide_true, decide_false, List.replicate_zero, List.replicate_succ, true_and, and_true]
    rw [meth_ref s2.s6 rfl, m96]
    simp only [kv, wp_ok, wp_bad, wp_bind, wp_ite, wp_nx, wp_ret, wp_fbad, wp_st, retE_ret, retE_exc, opt_some, opt_none, tru_bl, slotQ_some, intV_int, blV_bl, refV_ref, tupV_tup, wp_loc, wp_cint, wp_cstr, wp_cbl, wp_cnon, wp_cval, wp_bin, wp_neg, wp_nt, wp_cmp, wp_chain, wp_is, wp_and, wp_or, wp_ife, wp_fld, wp_ix, wp_sl, wp_tup, wp_lst, wp_dnew, wp_call, wp_mk, wp_make, wp_meth, wp_methK, wp_blt, wp_bm, wp_comp, wp_comp2, wp_pno, wp_pyes, wp_ono, wp_oyes, wp_esnil, wp_escons, wp_over, wp_range1, wp_range2, wp_range3, wp_enum, wp_rev, wp_nil, wp_ex, wp_set, wp_setf, wp_seti, wp_setTF, wp_sret, wp_retn, wp_pass, wp_brk, wp_cnt, wp_if, wp_for, wp_while, wp_binI, binI_add, binI_sub, binI_mul, binI_fdiv, binI_mod, binI_shr, binI_band, binI_bxor, binI_pow, cmp_lt, cmp_le, cmp_gt, cmp_ge, cmp_eqI, cmp_neI, cmp_eqS, cmp_neS, opt_ite, ite_and, List.getElem?_cons_zero, List.getElem?_cons_succ, List.set_cons_zero, List.set_cons_succ, List.length_cons, List.length_nil, List.append_nil, List.map_cons, List.map_nil, assignT, setSlots, List.cons_append, List.nil_append, Nat.reduceSub, Nat.reduceAdd, decide_eq_true_eq, if_true, if_false, Bool.false_eq_true, Bool.not_true, Bool.not_false, beq_true, beq_false, decide_true, decide_false, List.replicate_zero, List.replicate_succ, true_and, and_true]
    refine ⟨two_le, ?_⟩
    rw [ix_key s2.s12 hp, lookK_putK, if_pos rfl]
    try simp only [wp_ok, wp_bad, wp_bind, wp_ite, wp_nx, wp_ret, wp_fbad, wp_st, retE_ret, retE_exc, opt_some, opt_none, tru_bl, slotQ_some, intV_int, blV_bl, refV_ref, tupV_tup, wp_loc, wp_cint, wp_cstr, wp_cbl, wp_cnon, wp_cval, wp_bin, wp_neg, wp_nt, wp_cmp, wp_chain, wp_is, wp_and, wp_or, wp_ife, wp_fld, wp_ix, wp_sl, wp_tup, wp_lst, wp_dnew, wp_call, wp_mk, wp_make, wp_meth, wp_methK, wp_blt, wp_bm, wp_comp, wp_comp2, wp_pno, wp_pyes, wp_ono, wp_oyes, wp_esnil, wp_escons, wp_over, wp_range1, wp_range2, wp_range3, wp_enum, wp_rev, wp_nil, wp_ex, wp_set, wp_setf, wp_seti, wp_setTF, wp_sret, wp_retn, wp_pass, wp_brk, wp_cnt, wp_if, wp_for, wp_while, wp_binI, binI_add, binI_sub, binI_mul, binI_fdiv, binI_mod, binI_shr, binI_band, binI_bxor, binI_pow, cmp_lt, cmp_le, cmp_gt, cmp_ge, cmp_eqI, cmp_neI, cmp_eqS, cmp_neS, opt_ite, ite_and, List.getElem?_cons_zero, List.getElem?_cons_succ, List.set_cons_zero, List.set_cons_succ, List.length_cons, List.length_nil, List.append_nil, List.map_cons, List.map_nil, assignT, setSlots, List.cons_append, List.nil_append, Nat.reduceSub, Nat.reduceAdd, decide_eq_true_eq, if_true, if_false, Bool.false_eq_true, Bool.not_true, Bool.not_false, beq_true, beq_false, decide_true, decide_false, List.replicate_zero, List.replicate_succ, true_and, and_true]
    refine (lose_wp (n + 6) s2 (by omega) hp (.int (v / 64 % 5)) (X := nox)).mono ?_ (fun _ _ _ q => q.elim)
    rintro v' h3 rfl
    have s3 := s2.set7 (key p w) (v / 64 % 5)
    simp only [wp_cons, wp_ok, wp_bad, wp_bind, wp_ite, wp_nx, wp_ret, wp_fbad, wp_st, retE_ret, retE_exc, opt_some, opt_none, tru_bl, slotQ_some, intV_int, blV_bl, refV_ref, tupV_tup, wp_loc, wp_cint, wp_cstr, wp_cbl, wp_cnon, wp_cval, wp_bin, wp_neg, wp_nt, wp_cmp, wp_chain, wp_is, wp_and, wp_or, wp_ife, wp_fld, wp_ix, wp_sl, wp_tup, wp_lst, wp_dnew, wp_call, wp_mk, wp_make, wp_meth, wp_methK, wp_blt, wp_bm, wp_comp, wp_comp2, wp_pno, wp_pyes, wp_ono, wp_oyes, wp_esnil, wp_escons, wp_over, wp_range1, wp_range2, wp_range3, wp_enum, wp_rev, wp_nil, wp_ex, wp_set, wp_setf, wp_seti, wp_setTF, wp_sret, wp_retn, wp_pass, wp_brk, wp_cnt, wp_if, wp_for, wp_while, wp_binI, binI_add, binI_sub, binI_mul, binI_fdiv, binI_mod, binI_shr, binI_band, binI_bxor, binI_pow, cmp_lt, cmp_le, cmp_gt, cmp_ge, cmp_eqI, cmp_neI, cmp_eqS, cmp_neS, opt_ite, ite_and, List.getElem?_cons_zero, List.getElem?_cons_succ, List.set_cons_zero, List.set_cons_succ, List.length_cons, List.length_nil, List.append_nil, List.map_cons, List.map_nil, assignT, setSlots, List.cons_append, List.nil_append, Nat.reduceSub, Nat.reduceAdd, decide_eq_true_eq, if_true, if_false, Bool.false_eq_true, Bool.not_true, Bool.not_false, beq_true, beq_false, decide_true, decide_false, List.replicate_zero, List.replicate_succ, true_and, and_true]
    refine ⟨fl, lv, _, _, _, _, ⟨_, _, _, _, _, _, _, _, _, _, _, _, rfl⟩, s3.up (by omega)⟩
  simp only [k0, wp_ok, wp_bad, wp_bind, wp_ite, wp_nx, wp_ret, wp_fbad, wp_st, retE_ret, retE_exc, opt_some, opt_none, tru_bl, slotQ_some, intV_int, blV_bl, refV_ref, tupV_tup, wp_loc, wp_cint, wp_cstr, wp_cbl, wp_cnon, wp_cval, wp_bin, wp_neg, wp_nt, wp_cmp, wp_chain, wp_is, wp_and, wp_or, wp_ife, wp_fld, wp_ix, wp_sl, wp_tup, wp_lst, wp_dnew, wp_call, wp_mk, wp_make, wp_meth, wp_methK, wp_blt, wp_bm, wp_comp, wp_comp2, wp_pno, wp_pyes, wp_ono, wp_oyes, wp_esnil, wp_escons, wp_over, wp_range1, wp_range2, wp_range3, wp_enum, wp_rev, wp_nil, wp_ex, wp_set, wp_setf, wp_seti, wp_setTF, wp_sret, wp_retn, wp_pass, wp_brk, wp_cnt, wp_if, wp_for, wp_while, wp_binI, binI_add, binI_sub, binI_mul, binI_fdiv, binI_mod, binI_shr, binI_band, binI_bxor, binI_pow, cmp_lt, cmp_le, cmp_gt, cmp_ge, cmp_eqI, cmp_neI, cmp_eqS, cmp_neS, opt_ite, ite_and, List.getElem?_cons_zero, List.getElem?_cons_succ, List.set_cons_zero, List.set_cons_succ, List.length_cons, List.length_nil, List.append_nil, List.map_cons, List.map_nil, assignT, setSlots, List.cons_append, List.nil_append, Nat.reduceSub, Nat.reduceAdd, decide_eq_true_eq, if_true, if_false, Bool.false_eq_true, Bool.not_true, Bool.not_false, beq_true, beq_false, decide_true, decide_false, List.replicate_zero, List.replicate_succ, true_and, and_true]
  rw [wp_cons]
  try simp only [wp_ok, wp_bad, wp_bind, wp_ite, wp_nx, wp_ret, wp_fbad, wp_st, retE_ret, retE_exc, opt_some, opt_none, tru_bl, slotQ_some, intV_int, blV_bl, refV_ref, tupV_tup, wp_loc, wp_cint, wp_cstr, wp_cbl, wp_cnon, wp_cval, wp_bin, wp_neg, wp_nt, wp_cmp, wp_chain, wp_is, wp_and, wp_or, wp_ife, wp_fld, wp_ix, wp_sl, wp_tup, wp_lst, wp_dnew, wp_call, wp_mk, wp_make, wp_meth, wp_methK, wp_blt, wp_bm, wp_comp, wp_comp2, wp_pno, wp_pyes, wp_ono, wp_oyes, wp_esnil, wp_escons, wp_over, wp_range1, wp_range2, wp_range3, wp_enum, wp_rev, wp_nil, wp_ex, wp_set, wp_setf, wp_seti, wp_setTF, wp_sret, wp_retn, wp_pass, wp_brk, wp_cnt, wp_if, wp_for, wp_while, wp_binI, binI_add, binI_sub, binI_mul, binI_fdiv, binI_mod, binI_shr, binI_band, binI_bxor, binI_pow, cmp_lt, cmp_le, cmp_gt, cmp_ge, cmp_eqI, cmp_neI, cmp_eqS, cmp_neS, opt_ite, ite_and, List.getElem?_cons_zero, List.getElem?_cons_succ, List.set_cons_zero, List.set_cons_succ, List.length_cons, List.length_nil, List.append_nil, List.map_cons, List.map_nil, assignT, setSlots, List.cons_append, List.nil_append, Nat.reduceSub, Nat.reduceAdd, decide_eq_true_eq, if_true, if_false, Bool.false_eq_true, Bool.not_true, Bool.not_false, beq_true, beq_false, decide_true, decide_false, List.replicate_zero, List.replicate_succ, true_and, and_true]
  by_cases k1 : v % 8 = 1
  · simp only [k1, wp_ok, wp_bad, wp_bind, wp_ite, wp_nx, wp_ret, wp_fbad, wp_st, retE_ret, retE_exc, opt_some, opt_none, tru_bl, slotQ_some, intV_int, blV_bl, refV_ref, tupV_tup, wp_loc, wp_cint, wp_cstr, wp_cbl, wp_cnon, wp_cval, wp_bin, wp_neg, wp_nt, wp_cmp, wp_chain, wp_is, wp_and, wp_or, wp_ife, wp_fld, wp_ix, wp_sl, wp_tup, wp_lst, wp_dnew, wp_call, wp_mk, wp_make, wp_meth, wp_methK, wp_blt, wp_bm, wp_comp, wp_comp2, wp_pno, wp_pyes, wp_ono, wp_oyes, wp_esnil, wp_escons, wp_over, wp_range1, wp_range2, wp_range3, wp_enum, wp_rev, wp_nil, wp_ex, wp_set, wp_setf, wp_seti, wp_setTF, wp_sret, wp_retn, wp_pass, wp_brk, wp_cnt, wp_if, wp_for, wp_while, wp_binI, binI_add, binI_sub, binI_mul, binI_fdiv, binI_mod, binI_shr, binI_band, binI_bxor, binI_pow, cmp_lt, cmp_le, cmp_gt, cmp_ge, cmp_eqI, cmp_neI, cmp_eqS, cmp_neS, opt_ite, ite_and, List.getElem?_cons_zero, List.getElem?_cons_succ, List.set_cons_zero, List.set_cons_succ, List.length_cons, List.length_nil, List.append_nil, List.map_cons, List.map_nil, assignT, setSlots, List.cons_append, List.nil_append, Nat.reduceSub, Nat.reduceAdd, decide_eq_true_eq, if_true, if_false, Bool.false_eq_true, Bool.not_true, Bool.not_false, beq_true, beq_false, decide_true, decide_false, List.replicate_zero, List.replicate_succ, true_and, and_true]
    rw [wp_cons]
    try simp only [wp_ok, wp_bad, wp_bind, wp_ite, wp_nx, wp_ret, wp_fbad, wp_st, retE_ret, retE_exc, opt_some, opt_none, tru_bl, slotQ_some, intV_int, blV_bl, refV_ref, tupV_tup, wp_loc, wp_cint, wp_cstr, wp_cbl, wp_cnon, wp_cval, wp_bin, wp_neg, wp_nt, wp_cmp, wp_chain, wp_is, wp_and, wp_or, wp_ife, wp_fld, wp_ix, wp_sl, wp_tup, wp_lst, wp_dnew, wp_call, wp_mk, wp_make, wp_meth, wp_methK, wp_blt, wp_bm, wp_comp, wp_comp2, wp_pno, wp_pyes, wp_ono, wp_oyes, wp_esnil, wp_escons, wp_over, wp_range1, wp_range2, wp_range3, wp_enum, wp_rev, wp_nil, wp_ex, wp_set, wp_setf, wp_seti, wp_setTF, wp_sret, wp_retn, wp_pass, wp_brk, wp_cnt, wp_if, wp_for, wp_while, wp_binI, binI_add, binI_sub, binI_mul, binI_fdiv, binI_mod, binI_shr, binI_band, binI_bxor, binI_pow, cmp_lt, cmp_le, cmp_gt, cmp_ge, cmp_eqI, cmp_neI, cmp_eqS, cmp_neS, opt_ite, ite_and, List.getElem?_cons_zero, List.getElem?_cons_succ, List.set_cons_zero, List.set_cons_succ, List.length_cons, List.length_nil, List.append_nil, List.map_cons, List.map_nil, assignT, setSlots, List.cons_append, List.nil_append, Nat.reduceSub, Nat.reduceAdd, decide_eq_true_eq, if_true, if_false, Bool.false_eq_true, Bool.not_true, Bool.not_false, beq_true, beq_false, decide_true, decide_false, List.replicate_zero, List.replicate_succ, true_and, and_true]
    refine ⟨by decide, by decide, size_ok (by decide), by decide, by decide, ?_⟩
    obtain ⟨x, ex, x0, x1⟩ := ix6 (Heap.get_new h1 (.lst [.int 4, .int 5, .int 20, .int 63, .int 0, .int (v / 640 % 64)])) (v := 0) (v / 64 % 6) (by omega) (by omega)
    rw [ex]
    have s2 := s1.ext (Ext.push h1 (.lst [.int 4, .int 5, .int 20, .int 63, .int 0, .int (v / 640 % 64)]))
    generalize h1.push (.lst [.int 4, .int 5, .int 20, .int 63, .int 0, .int (v / 640 % 64)]) = h2 at s2 ⊢
    try simp only [wp_ok, wp_bad, wp_bind, wp_ite, wp_nx, wp_ret, wp_fbad, wp_st, retE_ret, retE_exc, opt_some, opt_none, tru_bl, slotQ_some, intV_int, blV_bl, refV_ref, tupV_tup, wp_loc, wp_cint, wp_cstr, wp_cbl, wp_cnon, wp_cval, wp_bin, wp_neg, wp_nt, wp_cmp, wp_chain, wp_is, wp_and, wp_or, wp_ife, wp_fld, wp_ix, wp_sl, wp_tup, wp_lst, wp_dnew, wp_call, wp_mk, wp_make, wp_meth, wp_methK, wp_blt, wp_bm, wp_comp, wp_comp2, wp_pno, wp_pyes, wp_ono, wp_oyes, wp_esnil, wp_escons, wp_over, wp_range1, wp_range2, wp_range3, wp_enum, wp_rev, wp_nil, wp_ex, wp_set, wp_setf, wp_seti, wp_setTF, wp_sret, wp_retn, wp_pass, wp_brk, wp_cnt, wp_if, wp_for, wp_while, wp_binI, binI_add, binI_sub, binI_mul, binI_fdiv, binI_mod, binI_shr, binI_band, binI_bxor, binI_pow, cmp_lt, cmp_le, cmp_gt, cmp_ge, cmp_eqI, cmp_neI, cmp_eqS, cmp_neS, opt_ite, ite_and, List.getElem?_cons_zero, List.getElem?_cons_succ, List.set_cons_zero, List.set_cons_succ, List.length_cons, List.length_nil, List.append_nil, List.map_cons, List.map_nil, assignT, setSlots, List.cons_append, List.nil_append, Nat.reduceSub, Nat.reduceAdd, decide_eq_true_eq, if_true, if_false, Bool.false_eq_true, Bool.not_true, Bool.not_false, beq_true, beq_false, decide_true, decide_false, List.replicate_zero, List.replicate_succ, true_and, and_true]
    rw [ix2 s2.s11 hp, opt_some, ref_if, set2 (s2.rowq hp) hq]
    try simp only [wp_ok, wp_bad, wp_bind, wp_ite, wp_nx, wp_ret, wp_fbad, wp_st, retE_ret, retE_exc, opt_some, opt_none, tru_bl, slotQ_some, intV_int, blV_bl, refV_ref, tupV_tup, wp_loc, wp_cint, wp_cstr, wp_cbl, wp_cnon, wp_cval, wp_bin, wp_neg, wp_nt, wp_cmp, wp_chain, wp_is, wp_and, wp_or, wp_ife, wp_fld, wp_ix, wp_sl, wp_tup, wp_lst, wp_dnew, wp_call, wp_mk, wp_make, wp_meth, wp_methK, wp_blt, wp_bm, wp_comp, wp_comp2, wp_pno, wp_pyes, wp_ono, wp_oyes, wp_esnil, wp_escons, wp_over, wp_range1, wp_range2, wp_range3, wp_enum, wp_rev, wp_nil, wp_ex, wp_set, wp_setf, wp_seti, wp_setTF, wp_sret, wp_retn, wp_pass, wp_brk, wp_cnt, wp_if, wp_for, wp_while, wp_binI, binI_add, binI_sub, binI_mul, binI_fdiv, binI_mod, binI_shr, binI_band, binI_bxor, binI_pow, cmp_lt, cmp_le, cmp_gt, cmp_ge, cmp_eqI, cmp_neI, cmp_eqS, cmp_neS, opt_ite, ite_and, List.getElem?_cons_zero, List.getElem?_cons_succ, List.set_cons_zero, List.set_cons_succ, List.length_cons, List.length_nil, List.append_nil, List.map_cons, List.map_nil, assignT, setSlots, List.cons_append, List.nil_append, Nat.reduceSub, Nat.reduceAdd, decide_eq_true_eq, if_true, if_false, Bool.false_eq_true, Bool.not_true, Bool.not_false, beq_true, beq_false, decide_true, decide_false, List.replicate_zero, List.replicate_succ, true_and, and_true]
    have s3 := s2.setRowq hp hq x
    generalize h2.set _ _ = h3 at s3 ⊢
    rw [wp_cons]
    try simp only [wp_ok, wp_bad, wp_bind, wp_ite, wp_nx, wp_ret, wp_fbad, wp_st, retE_ret, retE_exc, opt_some, opt_none, tru_bl, slotQ_some, intV_int, blV_bl, refV_ref, tupV_tup, wp_loc, wp_cint, wp_cstr, wp_cbl, wp_cnon, wp_cval, wp_bin, wp_neg, wp_nt, wp_cmp, wp_chain, wp_is, wp_and, wp_or, wp_ife, wp_fld, wp_ix, wp_sl, wp_tup, wp_lst, wp_dnew, wp_call, wp_mk, wp_make, wp_meth, wp_methK, wp_blt, wp_bm, wp_comp, wp_comp2, wp_pno, wp_pyes, wp_ono, wp_oyes, wp_esnil, wp_escons, wp_over, wp_range1, wp_range2, wp_range3, wp_enum, wp_rev, wp_nil, wp_ex, wp_set, wp_setf, wp_seti, wp_setTF, wp_sret, wp_retn, wp_pass, wp_brk, wp_cnt, wp_if, wp_for, wp_while, wp_binI, binI_add, binI_sub, binI_mul, binI_fdiv, binI_mod, binI_shr, binI_band, binI_bxor, binI_pow, cmp_lt, cmp_le, cmp_gt, cmp_ge, cmp_eqI, cmp_neI, cmp_eqS, cmp_neS, opt_ite, ite_and, List.getElem?_cons_zero, List.getElem?_cons_succ, List.set_cons_zero, List.set_cons_succ, List.length_cons, List.length_nil, List.append_nil, List.map_cons, List.map_nil, assignT, setSlots, List.cons_append, List.nil_append, Nat.reduceSub, Nat.reduceAdd, decide_eq_true_eq, if_true, if_false, Bool.false_eq_true, Bool.not_true, Bool.not_false, beq_true, beq_false, decide_true, decide_false, List.replicate_zero, List.replicate_succ, true_and, and_true]
    rw [meth_ref s3.s0 rfl, m150]
    try simp only [wp_ok, wp_bad, wp_bind, wp_ite, wp_nx, wp_ret, wp_fbad, wp_st, retE_ret, retE_exc, opt_some, opt_none, tru_bl, slotQ_some, intV_int, blV_bl, refV_ref, tupV_tup, wp_loc, wp_cint, wp_cstr, wp_cbl, wp_cnon, wp_cval, wp_bin, wp_neg, wp_nt, wp_cmp, wp_chain, wp_is, wp_and, wp_or, wp_ife, wp_fld, wp_ix, wp_sl, wp_tup, wp_lst, wp_dnew, wp_call, wp_mk, wp_make, wp_meth, wp_methK, wp_blt, wp_bm, wp_comp, wp_comp2, wp_pno, wp_pyes, wp_ono, wp_oyes, wp_esnil, wp_escons, wp_over, wp_range1, wp_range2, wp_range3, wp_enum, wp_rev, wp_nil, wp_ex, wp_set, wp_setf, wp_seti, wp_setTF, wp_sret, wp_retn, wp_pass, wp_brk, wp_cnt, wp_if, wp_for, wp_while, wp_binI, binI_add, binI_sub, binI_mul, binI_fdiv, binI_mod, binI_shr, binI_band, binI_bxor, binI_pow, cmp_lt, cmp_le, cmp_gt, cmp_ge, cmp_eqI, cmp_neI, cmp_eqS, cmp_neS, opt_ite, ite_and, List.getElem?_cons_zero, List.getElem?_cons_succ, List.set_cons_zero, List.set_cons_succ, List.length_cons, List.length_nil, List.append_nil, List.map_cons, List.map_nil, assignT, setSlots, List.cons_append, List.nil_append, Nat.reduceSub, Nat.reduceAdd, decide_eq_true_eq, if_true, if_false, Bool.false_eq_true, Bool.not_true, Bool.not_false, beq_true, beq_false, decide_true, decide_false, List.replicate_zero, List.replicate_succ, true_and, and_true]
    rw [ix2 s3.s11 hp, opt_some, ref_if, ix2 (s3.rowq hp) hq, int_if hq, opt_some]
    rw [show upLv lv p q x p q = x by unfold upLv; rw [if_pos ⟨rfl, rfl⟩]]
    refine (set_level_wp (n + 5) s3.s0 s3.s5 hp hq (s3.rowp hp) x0 x1 (X := nox)).mono ?_ (fun _ _ _ q => q.elim)
    rintro v' h4 rfl
    have s4 := s3.setRow hp hq x
    simp only [wp_cons, wp_ok, wp_bad, wp_bind, wp_ite, wp_nx, wp_ret, wp_fbad, wp_st, retE_ret, retE_exc, opt_some, opt_none, tru_bl, slotQ_some, intV_int, blV_bl, refV_ref, tupV_tup, wp_loc, wp_cint, wp_cstr, wp_cbl, wp_cnon, wp_cval, wp_bin, wp_neg, wp_nt, wp_cmp, wp_chain, wp_is, wp_and, wp_or, wp_ife, wp_fld, wp_ix, wp_sl, wp_tup, wp_lst, wp_dnew, wp_call, wp_mk, wp_make, wp_meth, wp_methK, wp_blt, wp_bm, wp_comp, wp_comp2, wp_pno, wp_pyes, wp_ono, wp_oyes, wp_esnil, wp_escons, wp_over, wp_range1, wp_range2, wp_range3, wp_enum, wp_rev, wp_nil, wp_ex, wp_set, wp_setf, wp_seti, wp_setTF, wp_sret, wp_retn, wp_pass, wp_brk, wp_cnt, wp_if, wp_for, wp_while, wp_binI, binI_add, binI_sub, binI_mul, binI_fdiv, binI_mod, binI_shr, binI_band, binI_bxor, binI_pow, cmp_lt, cmp_le, cmp_gt, cmp_ge, cmp_eqI, cmp_neI, cmp_eqS, cmp_neS, opt_ite, ite_and, List.getElem?_cons_zero, List.getElem?_cons_succ, List.set_cons_zero, List.set_cons_succ, List.length_cons, List.length_nil, List.append_nil, List.map_cons, List.map_nil, assignT, setSlots, List.cons_append, List.nil_append, Nat.reduceSub, Nat.reduceAdd, decide_eq_true_eq, if_true, if_false, Bool.false_eq_true, Bool.not_true, Bool.not_false, beq_true, beq_false, decide_true, decide_false, List.replicate_zero, List.replicate_succ, true_and, and_true]
    exact ⟨fl, _, _, _, _, _, ⟨_, _, _, _, _, _, _, _, _, _, _, _, rfl⟩, s4.up (by omega)⟩
  simp only [k1, wp_ok, wp_bad, wp_bind, wp_ite, wp_nx, wp_ret, wp_fbad, wp_st, retE_ret, retE_exc, opt_some, opt_none, tru_bl, slotQ_some, intV_int, blV_bl, refV_ref, tupV_tup, wp_loc, wp_cint, wp_cstr, wp_cbl, wp_cnon, wp_cval, wp_bin, wp_neg, wp_nt, wp_cmp, wp_chain, wp_is, wp_and, wp_or, wp_ife, wp_fld, wp_ix, wp_sl, wp_tup, wp_lst, wp_dnew, wp_call, wp_mk, wp_make, wp_meth, wp_methK, wp_blt, wp_bm, wp_comp, wp_comp2, wp_pno, wp_pyes, wp_ono, wp_oyes, wp_esnil, wp_escons, wp_over, wp_range1, wp_range2, wp_range3, wp_enum, wp_rev, wp_nil, wp_ex, wp_set, wp_setf, wp_seti, wp_setTF, wp_sret, wp_retn, wp_pass, wp_brk, wp_cnt, wp_if, wp_for, wp_while, wp_binI, binI_add, binI_sub, binI_mul, binI_fdiv, binI_mod, binI_shr, binI_band, binI_bxor, binI_pow, cmp_lt, cmp_le, cmp_gt, cmp_ge, cmp_eqI, cmp_neI, cmp_eqS, cmp_neS, opt_ite, ite_and, List.getElem?_cons_zero, List.getElem?_cons_succ, List.set_cons_zero, List.set_cons_succ, List.length_cons, List.length_nil, List.append_nil, List.map_cons, List.map_nil, assignT, setSlots, List.cons_append, List.nil_append, Nat.reduceSub, Nat.reduceAdd, decide_eq_true_eq, if_true, if_false, Bool.false_eq_true, Bool.not_true, Bool.not_false, beq_true, beq_false, decide_true, decide_false, List.replicate_zero, List.replicate_succ, true_and, and_true]
  rw [wp_cons]
  try simp only [wp_ok, wp_bad, wp_bind, wp_ite, wp_nx, wp_ret, wp_fbad, wp_st, retE_ret, retE_exc, opt_some, opt_none, tru_bl, slotQ_some, intV_int, blV_bl, refV_ref, tupV_tup, wp_loc, wp_cint, wp_cstr, wp_cbl, wp_cnon, wp_cval, wp_bin, wp_neg, wp_nt, wp_cmp, wp_chain, wp_is, wp_and, wp_or, wp_ife, wp_fld, wp_ix, wp_sl, wp_tup, wp_lst, wp_dnew, wp_call, wp_mk, wp_make, wp_meth, wp_methK, wp_blt, wp_bm, wp_comp, wp_comp2, wp_pno, wp_pyes, wp_ono, wp_oyes, wp_esnil, wp_escons, wp_over, wp_range1, wp_range2, wp_range3, wp_enum, wp_rev, wp_nil, wp_ex, wp_set, wp_setf, wp_seti, wp_setTF, wp_sret, wp_retn, wp_pass, wp_brk, wp_cnt, wp_if, wp_for, wp_while, wp_binI, binI_add, binI_sub, binI_mul, binI_fdiv, binI_mod, binI_shr, binI_band, binI_bxor, binI_pow, cmp_lt, cmp_le, cmp_gt, cmp_ge, cmp_eqI, cmp_neI, cmp_eqS, cmp_neS, opt_ite, ite_and, List.getElem?_cons_zero, List.getElem?_cons_succ, List.set_cons_zero, List.set_cons_succ, List.length_cons, List.length_nil, List.append_nil, List.map_cons, List.map_nil, assignT, setSlots, List.cons_append, List.nil_append, Nat.reduceSub, Nat.reduceAdd, decide_eq_true_eq, if_true, if_false, Bool.false_eq_true, Bool.not_true, Bool.not_false, beq_true, beq_false, decide_true, decide_false, List.replicate_zero, List.replicate_succ, true_and, and_true]
  by_cases k2 : v % 8 = 2
  · simp only [k2, wp_ok, wp_bad, wp_bind, wp_ite, wp_nx, wp_ret, wp_fbad, wp_st, retE_ret, retE_exc, opt_some, opt_none, tru_bl, slotQ_some, intV_int, blV_bl, refV_ref, tupV_tup, wp_loc, wp_cint, wp_cstr, wp_cbl, wp_cnon, wp_cval, wp_bin, wp_neg, wp_nt, wp_cmp, wp_chain, wp_is, wp_and, wp_or, wp_ife, wp_fld, wp_ix, wp_sl, wp_tup, wp_lst, wp_dnew, wp_call, wp_mk, wp_make, wp_meth, wp_methK, wp_blt, wp_bm, wp_comp, wp_comp2, wp_pno, wp_pyes, wp_ono, wp_oyes, wp_esnil, wp_escons, wp_over, wp_range1, wp_range2, wp_range3, wp_enum, wp_rev, wp_nil, wp_ex, wp_set, wp_setf, wp_seti, wp_setTF, wp_sret, wp_retn, wp_pass, wp_brk, wp_cnt, wp_if, wp_for, wp_while, wp_binI, binI_add, binI_sub, binI_mul, binI_fdiv, binI_mod, binI_shr, binI_band, binI_bxor, binI_pow, cmp_lt, cmp_le, cmp_gt, cmp_ge, cmp_eqI, cmp_neI, cmp_eqS, cmp_neS, opt_ite, ite_and, List.getElem?_cons_zero, List.getElem?_cons_succ, List.set_cons_zero, List.set_cons_succ, List.length_cons, List.length_nil, List.append_nil, List.map_cons, List.map_nil, assignT, setSlots, List.cons_append, List.nil_append, Nat.reduceSub, Nat.reduceAdd, decide_eq_true_eq, if_true, if_false, Bool.false_eq_true, Bool.not_true, Bool.not_false, beq_true, beq_false, decide_true, decide_false, List.replicate_zero, List.replicate_succ, true_and, and_true]
    by_cases kf : fl < 3
    · simp only [kf, wp_ok, wp_bad, wp_bind, wp_ite, wp_nx, wp_ret, wp_fbad, wp_st, retE_ret, retE_exc, opt_some, opt_none, tru_bl, slotQ_some, intV_int, blV_bl, refV_ref, tupV_tup, wp_loc, wp_cint, wp_cstr, wp_cbl, wp_cnon, wp_cval, wp_bin, wp_neg, wp_nt, wp_cmp, wp_chain, wp_is, wp_and, wp_or, wp_ife, wp_fld, wp_ix, wp_sl, wp_tup, wp_lst, wp_dnew, wp_call, wp_mk, wp_make, wp_meth, wp_methK, wp_blt, wp_bm, wp_comp, wp_comp2, wp_pno, wp_pyes, wp_ono, wp_oyes, wp_esnil, wp_escons, wp_over, wp_range1, wp_range2, wp_range3, wp_enum, wp_rev, wp_nil, wp_ex, wp_set, wp_setf, wp_seti, wp_setTF, wp_sret, wp_retn, wp_pass, wp_brk, wp_cnt, wp_if, wp_for, wp_while, wp_binI, binI_add, binI_sub, binI_mul, binI_fdiv, binI_mod, binI_shr, binI_band, binI_bxor, binI_pow, cmp_lt, cmp_le, cmp_gt, cmp_ge, cmp_eqI, cmp_neI, cmp_eqS, cmp_neS, opt_ite, ite_and, List.getElem?_cons_zero, List.getElem?_cons_succ, List.set_cons_zero, List.set_cons_succ, List.length_cons, List.length_nil, List.append_nil, List.map_cons, List.map_nil, assignT, setSlots, List.cons_append, List.nil_append, Nat.reduceSub, Nat.reduceAdd, decide_eq_true_eq, if_true, if_false, Bool.false_eq_true, Bool.not_true, Bool.not_false, beq_true, beq_false, decide_true, decide_false, List.replicate_zero, List.replicate_succ, true_and, and_true]
      rw [wp_cons]
      try simp only [wp_ok, wp_bad, wp_bind, wp_ite, wp_nx, wp_ret, wp_fbad, wp_st, retE_ret, retE_exc, opt_some, opt_none, tru_bl, slotQ_some, intV_int, blV_bl, refV_ref, tupV_tup, wp_loc, wp_cint, wp_cstr, wp_cbl, wp_cnon, wp_cval, wp_bin, wp_neg, wp_nt, wp_cmp, wp_chain, wp_is, wp_and, wp_or, wp_ife, wp_fld, wp_ix, wp_sl, wp_tup, wp_lst, wp_dnew, wp_call, wp_mk, wp_make, wp_meth, wp_methK, wp_blt, wp_bm, wp_comp, wp_comp2, wp_pno, wp_pyes, wp_ono, wp_oyes, wp_esnil, wp_escons, wp_over, wp_range1, wp_range2, wp_range3, wp_enum, wp_rev, wp_nil, wp_ex, wp_set, wp_setf, wp_seti, wp_setTF, wp_sret, wp_retn, wp_pass, wp_brk, wp_cnt, wp_if, wp_for, wp_while, wp_binI, binI_add, binI_sub, binI_mul, binI_fdiv, binI_mod, binI_shr, binI_band, binI_bxor, binI_pow, cmp_lt, cmp_le, cmp_gt, cmp_ge, cmp_eqI, cmp_neI, cmp_eqS, cmp_neS, opt_ite, ite_and, List.getElem?_cons_zero, List.getElem?_cons_succ, List.set_cons_zero, List.set_cons_succ, List.length_cons, List.length_nil, List.append_nil, List.map_cons, List.map_nil, assignT, setSlots, List.cons_append, List.nil_append, Nat.reduceSub, Nat.reduceAdd, decide_eq_true_eq, if_true, if_false, Bool.false_eq_true, Bool.not_true, Bool.not_false, beq_true, beq_false, decide_true, decide_false, List.replicate_zero, List.replicate_succ, true_and, and_true]
      rw [wp_cons]
      try simp only [wp_ok, wp_bad, wp_bind, wp_ite, wp_nx, wp_ret, wp_fbad, wp_st, retE_ret, retE_exc, opt_some, opt_none, tru_bl, slotQ_some, intV_int, blV_bl, refV_ref, tupV_tup, wp_loc, wp_cint, wp_cstr, wp_cbl, wp_cnon, wp_cval, wp_bin, wp_neg, wp_nt, wp_cmp, wp_chain, wp_is, wp_and, wp_or, wp_ife, wp_fld, wp_ix, wp_sl, wp_tup, wp_lst, wp_dnew, wp_call, wp_mk, wp_make, wp_meth, wp_methK, wp_blt, wp_bm, wp_comp, wp_comp2, wp_pno, wp_pyes, wp_ono, wp_oyes, wp_esnil, wp_escons, wp_over, wp_range1, wp_range2, wp_range3, wp_enum, wp_rev, wp_nil, wp_ex, wp_set, wp_setf, wp_seti, wp_setTF, wp_sret, wp_retn, wp_pass, wp_brk, wp_cnt, wp_if, wp_for, wp_while, wp_binI, binI_add, binI_sub, binI_mul, binI_fdiv, binI_mod, binI_shr, binI_band, binI_bxor, binI_pow, cmp_lt, cmp_le, cmp_gt, cmp_ge, cmp_eqI, cmp_neI, cmp_eqS, cmp_neS, opt_ite, ite_and, List.getElem?_cons_zero, List.getElem?_cons_succ, List.set_cons_zero, List.set_cons_succ, List.length_cons, List.length_nil, List.append_nil, List.map_cons, List.map_nil, assignT, setSlots, List.cons_append, List.nil_append, Nat.reduceSub, Nat.reduceAdd, decide_eq_true_eq, if_true, if_false, Bool.false_eq_true, Bool.not_true, Bool.not_false, beq_true, beq_false, decide_true, decide_false, List.replicate_zero, List.replicate_succ, true_and, and_true]
      refine ⟨by decide, by decide, small_ok rfl, ?_⟩
      obtain ⟨mm, hmm, em⟩ : ∃ m : Nat, m < 200 ∧ v / 64 % 200 = (m : Int) := ⟨(v / 64 % 200).toNat, by omega, by omega⟩
      rw [em, show 2 * (mm : Int) = ((2 * mm : Nat) : Int) by omega]
      rw [wp_cons]
      try simp only [wp_ok, wp_bad, wp_bind, wp_ite, wp_nx, wp_ret, wp_fbad, wp_st, retE_ret, retE_exc, opt_some, opt_none, tru_bl, slotQ_some, intV_int, blV_bl, refV_ref, tupV_tup, wp_loc, wp_cint, wp_cstr, wp_cbl, wp_cnon, wp_cval, wp_bin, wp_neg, wp_nt, wp_cmp, wp_chain, wp_is, wp_and, wp_or, wp_ife, wp_fld, wp_ix, wp_sl, wp_tup, wp_lst, wp_dnew, wp_call, wp_mk, wp_make, wp_meth, wp_methK, wp_blt, wp_bm, wp_comp, wp_comp2, wp_pno, wp_pyes, wp_ono, wp_oyes, wp_esnil, wp_escons, wp_over, wp_range1, wp_range2, wp_range3, wp_enum, wp_rev, wp_nil, wp_ex, wp_set, wp_setf, wp_seti, wp_setTF, wp_sret, wp_retn, wp_pass, wp_brk, wp_cnt, wp_if, wp_for, wp_while, wp_binI, binI_add, binI_sub, binI_mul, binI_fdiv, binI_mod, binI_shr, binI_band, binI_bxor, binI_pow, cmp_lt, cmp_le, cmp_gt, cmp_ge, cmp_eqI, cmp_neI, cmp_eqS, cmp_neS, opt_ite, ite_and, List.getElem?_cons_zero, List.getElem?_cons_succ, List.set_cons_zero, List.set_cons_succ, List.length_cons, List.length_nil, List.append_nil, List.map_cons, List.map_nil, assignT, setSlots, List.cons_append, List.nil_append, Nat.reduceSub, Nat.reduceAdd, decide_eq_true_eq, if_true, if_false, Bool.false_eq_true, Bool.not_true, Bool.not_false, beq_true, beq_false, decide_true, decide_false, List.replicate_zero, List.replicate_succ, true_and, and_true]
      refine (law_place_wp (n + 6) h1 (2 * mm) (X := nox)).mono ?_ (fun _ _ _ q => q.elim)
      rintro v' h2 ⟨rfl, rfl⟩
      rw [show ((2 * mm : Nat) : Int) + 1 = ((2 * mm + 1 : Nat) : Int) by omega]
      refine (law_place_wp (n + 6) h2 (2 * mm + 1) (X := nox)).mono ?_ (fun _ _ _ q => q.elim)
      rintro v' h2 ⟨rfl, rfl⟩
      refine ⟨two_le, ?_⟩
      have hr : (h2.push (.lst [nI (lp (2 * mm)), nI (lp (2 * mm + 1))])).get h2.size = _ := Heap.get_new _ _
      have hfr : ∀ k v, lookK k fs = some v → v ≠ .ref h2.size := by
        intro k v e z
        obtain ⟨r, e2, _, z2⟩ := s1.fi k v e
        rw [e2] at z
        cases z
        have hn : h2.get h2.size = none := Heap.get_ge (Nat.le_refl _)
        rcases z2 with z2 | ⟨_, _, z2⟩ <;> rw [hn] at z2 <;> cases z2
      have hrs := s1.size
      have s2 := s1.ext (Ext.push h2 (.lst [nI (lp (2 * mm)), nI (lp (2 * mm + 1))]))
      generalize h2.push (.lst [nI (lp (2 * mm)), nI (lp (2 * mm + 1))]) = h3 at s2 hr ⊢
      generalize h2.size = r at hr hfr hrs ⊢
      rw [wp_cons]
      try simp only [wp_ok, wp_bad, wp_bind, wp_ite, wp_nx, wp_ret, wp_fbad, wp_st, retE_ret, retE_exc, opt_some, opt_none, tru_bl, slotQ_some, intV_int, blV_bl, refV_ref, tupV_tup, wp_loc, wp_cint, wp_cstr, wp_cbl, wp_cnon, wp_cval, wp_bin, wp_neg, wp_nt, wp_cmp, wp_chain, wp_is, wp_and, wp_or, wp_ife, wp_fld, wp_ix, wp_sl, wp_tup, wp_lst, wp_dnew, wp_call, wp_mk, wp_make, wp_meth, wp_methK, wp_blt, wp_bm, wp_comp, wp_comp2, wp_pno, wp_pyes, wp_ono, wp_oyes, wp_esnil, wp_escons, wp_over, wp_range1, wp_range2, wp_range3, wp_enum, wp_rev, wp_nil, wp_ex, wp_set, wp_setf, wp_seti, wp_setTF, wp_sret, wp_retn, wp_pass, wp_brk, wp_cnt, wp_if, wp_for, wp_while, wp_binI, binI_add, binI_sub, binI_mul, binI_fdiv, binI_mod, binI_shr, binI_band, binI_bxor, binI_pow, cmp_lt, cmp_le, cmp_gt, cmp_ge, cmp_eqI, cmp_neI, cmp_eqS, cmp_neS, opt_ite, ite_and, List.getElem?_cons_zero, List.getElem?_cons_succ, List.set_cons_zero, List.set_cons_succ, List.length_cons, List.length_nil, List.append_nil, List.map_cons, List.map_nil, assignT, setSlots, List.cons_append, List.nil_append, Nat.reduceSub, Nat.reduceAdd, decide_eq_true_eq, if_true, if_false, Bool.false_eq_true, Bool.not_true, Bool.not_false, beq_true, beq_false, decide_true, decide_false, List.replicate_zero, List.replicate_succ, true_and, and_true]
      rw [meth_ref s2.s6 rfl, m69]
      try simp only [wp_ok, wp_bad, wp_bind, wp_ite, wp_nx, wp_ret, wp_fbad, wp_st, retE_ret, retE_exc, opt_some, opt_none, tru_bl, slotQ_some, intV_int, blV_bl, refV_ref, tupV_tup, wp_loc, wp_cint, wp_cstr, wp_cbl, wp_cnon, wp_cval, wp_bin, wp_neg, wp_nt, wp_cmp, wp_chain, wp_is, wp_and, wp_or, wp_ife, wp_fld, wp_ix, wp_sl, wp_tup, wp_lst, wp_dnew, wp_call, wp_mk, wp_make, wp_meth, wp_methK, wp_blt, wp_bm, wp_comp, wp_comp2, wp_pno, wp_pyes, wp_ono, wp_oyes, wp_esnil, wp_escons, wp_over, wp_range1, wp_range2, wp_range3, wp_enum, wp_rev, wp_nil, wp_ex, wp_set, wp_setf, wp_seti, wp_setTF, wp_sret, wp_retn, wp_pass, wp_brk, wp_cnt, wp_if, wp_for, wp_while, wp_binI, binI_add, binI_sub, binI_mul, binI_fdiv, binI_mod, binI_shr, binI_band, binI_bxor, binI_pow, cmp_lt, cmp_le, cmp_gt, cmp_ge, cmp_eqI, cmp_neI, cmp_eqS, cmp_neS, opt_ite, ite_and, List.getElem?_cons_zero, List.getElem?_cons_succ, List.set_cons_zero, List.set_cons_succ, List.length_cons, List.length_nil, List.append_nil, List.map_cons, List.map_nil, assignT, setSlots, List.cons_append, List.nil_append, Nat.reduceSub, Nat.reduceAdd, decide_eq_true_eq, if_true, if_false, Bool.false_eq_true, Bool.not_true, Bool.not_false, beq_true, beq_false, decide_true, decide_false, List.replicate_zero, List.replicate_succ, true_and, and_true]
      refine (harm_wp (n + 6) s2 (by omega) hp hr (X := nox)).mono ?_ (fun _ _ _ q => q.elim)
      rintro v' h4 rfl
      have hr2 := (Ext.push h3 (.lst [nI (lp (2 * mm)), nI (lp (2 * mm + 1))])).2 _ _ hr
      have s3 := s2.ext (Ext.push h3 (.lst [nI (lp (2 * mm)), nI (lp (2 * mm + 1))]))
      have hne : h3.size ≠ r := by
        have := Heap.get_lt hr
        omega
      have s4 := s3.set8 (key p w) (v := .ref h3.size) ⟨h3.size, rfl, s2.size, .inr ⟨mm, by omega, Heap.get_new _ _⟩⟩
      have hr4 : ((h3.push (.lst [nI (lp (2 * mm)), nI (lp (2 * mm + 1))])).set 8 (.dcT (putK (key p w) (.ref h3.size) fs))).get r = _ := (Heap.get_set_ne _ _ (by omega)).trans hr2
      have hfr4 : ∀ k v, lookK k (putK (key p w) (.ref h3.size) fs) = some v → v ≠ .ref r := by
        intro k v e
        rw [lookK_putK] at e
        split at e
        · cases e
          intro z
          cases z
          exact hne rfl
        · exact hfr k v e
      generalize (h3.push (.lst [nI (lp (2 * mm)), nI (lp (2 * mm + 1))])).set 8 (.dcT (putK (key p w) (.ref h3.size) fs)) = h5 at s4 hr4 ⊢
      rw [wp_cons]
      try simp only [wp_ok, wp_bad, wp_bind, wp_ite, wp_nx, wp_ret, wp_fbad, wp_st, retE_ret, retE_exc, opt_some, opt_none, tru_bl, slotQ_some, intV_int, blV_bl, refV_ref, tupV_tup, wp_loc, wp_cint, wp_cstr, wp_cbl, wp_cnon, wp_cval, wp_bin, wp_neg, wp_nt, wp_cmp, wp_chain, wp_is, wp_and, wp_or, wp_ife, wp_fld, wp_ix, wp_sl, wp_tup, wp_lst, wp_dnew, wp_call, wp_mk, wp_make, wp_meth, wp_methK, wp_blt, wp_bm, wp_comp, wp_comp2, wp_pno, wp_pyes, wp_ono, wp_oyes, wp_esnil, wp_escons, wp_over, wp_range1, wp_range2, wp_range3, wp_enum, wp_rev, wp_nil, wp_ex, wp_set, wp_setf, wp_seti, wp_setTF, wp_sret, wp_retn, wp_pass, wp_brk, wp_cnt, wp_if, wp_for, wp_while, wp_binI, binI_add, binI_sub, binI_mul, binI_fdiv, binI_mod, binI_shr, binI_band, binI_bxor, binI_pow, cmp_lt, cmp_le, cmp_gt, cmp_ge, cmp_eqI, cmp_neI, cmp_eqS, cmp_neS, opt_ite, ite_and, List.getElem?_cons_zero, List.getElem?_cons_succ, List.set_cons_zero, List.set_cons_succ, List.length_cons, List.length_nil, List.append_nil, List.map_cons, List.map_nil, assignT, setSlots, List.cons_append, List.nil_append, Nat.reduceSub, Nat.reduceAdd, decide_eq_true_eq, if_true, if_false, Bool.false_eq_true, Bool.not_true, Bool.not_false, beq_true, beq_false, decide_true, decide_false, List.replicate_zero, List.replicate_succ, true_and, and_true]
      refine ⟨size_ok (by decide), ?_⟩
      rw [srcOf_lst (Heap.get_new _ _)]
      try simp only [wp_ok, wp_bad, wp_bind, wp_ite, wp_nx, wp_ret, wp_fbad, wp_st, retE_ret, retE_exc, opt_some, opt_none, tru_bl, slotQ_some, intV_int, blV_bl, refV_ref, tupV_tup, wp_loc, wp_cint, wp_cstr, wp_cbl, wp_cnon, wp_cval, wp_bin, wp_neg, wp_nt, wp_cmp, wp_chain, wp_is, wp_and, wp_or, wp_ife, wp_fld, wp_ix, wp_sl, wp_tup, wp_lst, wp_dnew, wp_call, wp_mk, wp_make, wp_meth, wp_methK, wp_blt, wp_bm, wp_comp, wp_comp2, wp_pno, wp_pyes, wp_ono, wp_oyes, wp_esnil, wp_escons, wp_over, wp_range1, wp_range2, wp_range3, wp_enum, wp_rev, wp_nil, wp_ex, wp_set, wp_setf, wp_seti, wp_setTF, wp_sret, wp_retn, wp_pass, wp_brk, wp_cnt, wp_if, wp_for, wp_while, wp_binI, binI_add, binI_sub, binI_mul, binI_fdiv, binI_mod, binI_shr, binI_band, binI_bxor, binI_pow, cmp_lt, cmp_le, cmp_gt, cmp_ge, cmp_eqI, cmp_neI, cmp_eqS, cmp_neS, opt_ite, ite_and, List.getElem?_cons_zero, List.getElem?_cons_succ, List.set_cons_zero, List.set_cons_succ, List.length_cons, List.length_nil, List.append_nil, List.map_cons, List.map_nil, assignT, setSlots, List.cons_append, List.nil_append, Nat.reduceSub, Nat.reduceAdd, decide_eq_true_eq, if_true, if_false, Bool.false_eq_true, Bool.not_true, Bool.not_false, beq_true, beq_false, decide_true, decide_false, List.replicate_zero, List.replicate_succ, true_and, and_true]
      have s5 := s4.ext (Ext.push h5 (.lst [.int 3, .int 6, .int 7]))
      have hr5 := (Ext.push h5 (.lst [.int 3, .int 6, .int 7])).2 _ _ hr4
      have hs5 : (h5.push (.lst [.int 3, .int 6, .int 7])).get h5.size = _ := Heap.get_new _ _
      have hne5 : h5.size ≠ r := by
        have := Heap.get_lt hr4
        omega
      generalize h5.push (.lst [.int 3, .int 6, .int 7]) = h6 at s5 hr5 hs5 ⊢
      generalize h5.size = rw_ at hs5 hne5 ⊢
      refine for_inv (items := [.int 3, .int 6, .int 7]) (fun j σ h' => ∃ a xs, σ = [some (.glb 6), some (.ref 0), some (.ref 6), some (.ref 11), some (.ref 12), some (.int (fl + 1)), some (.int k), some (.int x), some (.int v), some (.int p), some (.str (wayS w)), some (.int q), some (.int 2), some (.int (2 * mm : Nat)), some (.ref r), a, a16, a17, none] ∧ S h' vs lv lv ls lf (putK (key p w) (.ref h3.size) fs) L L (4 * k + 1) ∧ h'.get r = some (.lst xs) ∧ xs.length ≤ 2 + j ∧ h'.get rw_ = some (.lst [.int 3, .int 6, .int 7])) ?_ ?_ ?_ ⟨a15, _, rfl, s5, hr5, Nat.le_refl _, hs5⟩
      · rintro j σ h' hj ⟨a, xs, rfl, s6, g6, l6, gs⟩
        exact stands_some gs
      · rintro j hj σ h' ⟨a, xs, rfl, s6, g6, l6, gs⟩
        have hj3 : j < 3 := hj
        obtain ⟨z, ez⟩ : ∃ z : Nat, [Val.int 3, .int 6, .int 7][j]'hj = .int (z : Nat) := by
          have : j = 0 ∨ j = 1 ∨ j = 2 := by omega
          rcases this with rfl | rfl | rfl
          · exact ⟨3, rfl⟩
          · exact ⟨6, rfl⟩
          · exact ⟨7, rfl⟩
        rw [ez]
        refine ⟨_, rfl, ?_⟩
        rw [wp_cons]
        try simp only [wp_ok, wp_bad, wp_bind, wp_ite, wp_nx, wp_ret, wp_fbad, wp_st, retE_ret, retE_exc, opt_some, opt_none, tru_bl, slotQ_some, intV_int, blV_bl, refV_ref, tupV_tup, wp_loc, wp_cint, wp_cstr, wp_cbl, wp_cnon, wp_cval, wp_bin, wp_neg, wp_nt, wp_cmp, wp_chain, wp_is, wp_and, wp_or, wp_ife, wp_fld, wp_ix, wp_sl, wp_tup, wp_lst, wp_dnew, wp_call, wp_mk, wp_make, wp_meth, wp_methK, wp_blt, wp_bm, wp_comp, wp_comp2, wp_pno, wp_pyes, wp_ono, wp_oyes, wp_esnil, wp_escons, wp_over, wp_range1, wp_range2, wp_range3, wp_enum, wp_rev, wp_nil, wp_ex, wp_set, wp_setf, wp_seti, wp_setTF, wp_sret, wp_retn, wp_pass, wp_brk, wp_cnt, wp_if, wp_for, wp_while, wp_binI, binI_add, binI_sub, binI_mul, binI_fdiv, binI_mod, binI_shr, binI_band, binI_bxor, binI_pow, cmp_lt, cmp_le, cmp_gt, cmp_ge, cmp_eqI, cmp_neI, cmp_eqS, cmp_neS, opt_ite, ite_and, List.getElem?_cons_zero, List.getElem?_cons_succ, List.set_cons_zero, List.set_cons_succ, List.length_cons, List.length_nil, List.append_nil, List.map_cons, List.map_nil, assignT, setSlots, List.cons_append, List.nil_append, Nat.reduceSub, Nat.reduceAdd, decide_eq_true_eq, if_true, if_false, Bool.false_eq_true, Bool.not_true, Bool.not_false, beq_true, beq_false, decide_true, decide_false, List.replicate_zero, List.replicate_succ, true_and, and_true]
        rw [recv_append g6]
        try simp only [wp_ok, wp_bad, wp_bind, wp_ite, wp_nx, wp_ret, wp_fbad, wp_st, retE_ret, retE_exc, opt_some, opt_none, tru_bl, slotQ_some, intV_int, blV_bl, refV_ref, tupV_tup, wp_loc, wp_cint, wp_cstr, wp_cbl, wp_cnon, wp_cval, wp_bin, wp_neg, wp_nt, wp_cmp, wp_chain, wp_is, wp_and, wp_or, wp_ife, wp_fld, wp_ix, wp_sl, wp_tup, wp_lst, wp_dnew, wp_call, wp_mk, wp_make, wp_meth, wp_methK, wp_blt, wp_bm, wp_comp, wp_comp2, wp_pno, wp_pyes, wp_ono, wp_oyes, wp_esnil, wp_escons, wp_over, wp_range1, wp_range2, wp_range3, wp_enum, wp_rev, wp_nil, wp_ex, wp_set, wp_setf, wp_seti, wp_setTF, wp_sret, wp_retn, wp_pass, wp_brk, wp_cnt, wp_if, wp_for, wp_while, wp_binI, binI_add, binI_sub, binI_mul, binI_fdiv, binI_mod, binI_shr, binI_band, binI_bxor, binI_pow, cmp_lt, cmp_le, cmp_gt, cmp_ge, cmp_eqI, cmp_neI, cmp_eqS, cmp_neS, opt_ite, ite_and, List.getElem?_cons_zero, List.getElem?_cons_succ, List.set_cons_zero, List.set_cons_succ, List.length_cons, List.length_nil, List.append_nil, List.map_cons, List.map_nil, assignT, setSlots, List.cons_append, List.nil_append, Nat.reduceSub, Nat.reduceAdd, decide_eq_true_eq, if_true, if_false, Bool.false_eq_true, Bool.not_true, Bool.not_false, beq_true, beq_false, decide_true, decide_false, List.replicate_zero, List.replicate_succ, true_and, and_true]
        rw [show ((2 * mm : Nat) : Int) + (z : Nat) = ((2 * mm + z : Nat) : Int) by omega]
        refine (law_place_wp (n + 6) h' (2 * mm + z) (X := nox)).mono ?_ (fun _ _ _ q => q.elim)
        rintro v' h7 ⟨rfl, rfl⟩
        rw [append_lst g6]
        refine ⟨by unfold sizeLine; omega, _, _, rfl, s6.setR (by omega) hfr4 _, Heap.get_set_eq _ g6, ?_, ?_⟩
        · rw [List.length_append, List.length_cons, List.length_nil]; omega
        · rw [Heap.get_set_ne _ _ hne5]; exact gs
      · rintro σ h' ⟨a, xs, rfl, s6, g6, l6, gs⟩
        simp only [wp_cons, k2, wp_ok, wp_bad, wp_bind, wp_ite, wp_nx, wp_ret, wp_fbad, wp_st, retE_ret, retE_exc, opt_some, opt_none, tru_bl, slotQ_some, intV_int, blV_bl, refV_ref, tupV_tup, wp_loc, wp_cint, wp_cstr, wp_cbl, wp_cnon, wp_cval, wp_bin, wp_neg, wp_nt, wp_cmp, wp_chain, wp_is, wp_and, wp_or, wp_ife, wp_fld, wp_ix, wp_sl, wp_tup, wp_lst, wp_dnew, wp_call, wp_mk, wp_make, wp_meth, wp_methK, wp_blt, wp_bm, wp_comp, wp_comp2, wp_pno, wp_pyes, wp_ono, wp_oyes, wp_esnil, wp_escons, wp_over, wp_range1, wp_range2, wp_range3, wp_enum, wp_rev, wp_nil, wp_ex, wp_set, wp_setf, wp_seti, wp_setTF, wp_sret, wp_retn, wp_pass, wp_brk, wp_cnt, wp_if, wp_for, wp_while, wp_binI, binI_add, binI_sub, binI_mul, binI_fdiv, binI_mod, binI_shr, binI_band, binI_bxor, binI_pow, cmp_lt, cmp_le, cmp_gt, cmp_ge, cmp_eqI, cmp_neI, cmp_eqS, cmp_neS, opt_ite, ite_and, List.getElem?_cons_zero, List.getElem?_cons_succ, List.set_cons_zero, List.set_cons_succ, List.length_cons, List.length_nil, List.append_nil, List.map_cons, List.map_nil, assignT, setSlots, List.cons_append, List.nil_append, Nat.reduceSub, Nat.reduceAdd, decide_eq_true_eq, if_true, if_false, Bool.false_eq_true, Bool.not_true, Bool.not_false, beq_true, beq_false, decide_true, decide_false, List.replicate_zero, List.replicate_succ, true_and, and_true]
        rw [if_neg (by decide)]
        exact ⟨fl + 1, _, _, _, _, _, ⟨_, _, _, _, _, _, _, _, _, _, _, _, rfl⟩, s6.up (by omega)⟩
    · simp only [kf, wp_cons, k2, wp_ok, wp_bad, wp_bind, wp_ite, wp_nx, wp_ret, wp_fbad, wp_st, retE_ret, retE_exc, opt_some, opt_none, tru_bl, slotQ_some, intV_int, blV_bl, refV_ref, tupV_tup, wp_loc, wp_cint, wp_cstr, wp_cbl, wp_cnon, wp_cval, wp_bin, wp_neg, wp_nt, wp_cmp, wp_chain, wp_is, wp_and, wp_or, wp_ife, wp_fld, wp_ix, wp_sl, wp_tup, wp_lst, wp_dnew, wp_call, wp_mk, wp_make, wp_meth, wp_methK, wp_blt, wp_bm, wp_comp, wp_comp2, wp_pno, wp_pyes, wp_ono, wp_oyes, wp_esnil, wp_escons, wp_over, wp_range1, wp_range2, wp_range3, wp_enum, wp_rev, wp_nil, wp_ex, wp_set, wp_setf, wp_seti, wp_setTF, wp_sret, wp_retn, wp_pass, wp_brk, wp_cnt, wp_if, wp_for, wp_while, wp_binI, binI_add, binI_sub, binI_mul, binI_fdiv, binI_mod, binI_shr, binI_band, binI_bxor, binI_pow, cmp_lt, cmp_le, cmp_gt, cmp_ge, cmp_eqI, cmp_neI, cmp_eqS, cmp_neS, opt_ite, ite_and, List.getElem?_cons_zero, List.getElem?_cons_succ, List.set_cons_zero, List.set_cons_succ, List.length_cons, List.length_nil, List.append_nil, List.map_cons, List.map_nil, assignT, setSlots, List.cons_append, List.nil_append, Nat.reduceSub, Nat.reduceAdd, decide_eq_true_eq, if_true, if_false, Bool.false_eq_true, Bool.not_true, Bool.not_false, beq_true, beq_false, decide_true, decide_false, List.replicate_zero, List.replicate_succ, true_and, and_true]
      rw [if_neg (by decide)]
      exact ⟨fl, _, _, _, _, _, ⟨_, _, _, _, _, _, _, _, _, _, _, _, rfl⟩, s1.up (by omega)⟩
  simp only [k2, wp_ok, wp_bad, wp_bind, wp_ite, wp_nx, wp_ret, wp_fbad, wp_st, retE_ret, retE_exc, opt_some, opt_none, tru_bl, slotQ_some, intV_int, blV_bl, refV_ref, tupV_tup, wp_loc, wp_cint, wp_cstr, wp_cbl, wp_cnon, wp_cval, wp_bin, wp_neg, wp_nt, wp_cmp, wp_chain, wp_is, wp_and, wp_or, wp_ife, wp_fld, wp_ix, wp_sl, wp_tup, wp_lst, wp_dnew, wp_call, wp_mk, wp_make, wp_meth, wp_methK, wp_blt, wp_bm, wp_comp, wp_comp2, wp_pno, wp_pyes, wp_ono, wp_oyes, wp_esnil, wp_escons, wp_over, wp_range1, wp_range2, wp_range3, wp_enum, wp_rev, wp_nil, wp_ex, wp_set, wp_setf, wp_seti, wp_setTF, wp_sret, wp_retn, wp_pass, wp_brk, wp_cnt, wp_if, wp_for, wp_while, wp_binI, binI_add, binI_sub, binI_mul, binI_fdiv, binI_mod, binI_shr, binI_band, binI_bxor, binI_pow, cmp_lt, cmp_le, cmp_gt, cmp_ge, cmp_eqI, cmp_neI, cmp_eqS, cmp_neS, opt_ite, ite_and, List.getElem?_cons_zero, List.getElem?_cons_succ, List.set_cons_zero, List.set_cons_succ, List.length_cons, List.length_nil, List.append_nil, List.map_cons, List.map_nil, assignT, setSlots, List.cons_append, List.nil_append, Nat.reduceSub, Nat.reduceAdd, decide_eq_true_eq, if_true, if_false, Bool.false_eq_true, Bool.not_true, Bool.not_false, beq_true, beq_false, decide_true, decide_false, List.replicate_zero, List.replicate_succ, true_and, and_true]
  rw [wp_cons]
  try simp only [wp_ok, wp_bad, wp_bind, wp_ite, wp_nx, wp_ret, wp_fbad, wp_st, retE_ret, retE_exc, opt_some, opt_none, tru_bl, slotQ_some, intV_int, blV_bl, refV_ref, tupV_tup, wp_loc, wp_cint, wp_cstr, wp_cbl, wp_cnon, wp_cval, wp_bin, wp_neg, wp_nt, wp_cmp, wp_chain, wp_is, wp_and, wp_or, wp_ife, wp_fld, wp_ix, wp_sl, wp_tup, wp_lst, wp_dnew, wp_call, wp_mk, wp_make, wp_meth, wp_methK, wp_blt, wp_bm, wp_comp, wp_comp2, wp_pno, wp_pyes, wp_ono, wp_oyes, wp_esnil, wp_escons, wp_over, wp_range1, wp_range2, wp_range3, wp_enum, wp_rev, wp_nil, wp_ex, wp_set, wp_setf, wp_seti, wp_setTF, wp_sret, wp_retn, wp_pass, wp_brk, wp_cnt, wp_if, wp_for, wp_while, wp_binI, binI_add, binI_sub, binI_mul, binI_fdiv, binI_mod, binI_shr, binI_band, binI_bxor, binI_pow, cmp_lt, cmp_le, cmp_gt, cmp_ge, cmp_eqI, cmp_neI, cmp_eqS, cmp_neS, opt_ite, ite_and, List.getElem?_cons_zero, List.getElem?_cons_succ, List.set_cons_zero, List.set_cons_succ, List.length_cons, List.length_nil, List.append_nil, List.map_cons, List.map_nil, assignT, setSlots, List.cons_append, List.nil_append, Nat.reduceSub, Nat.reduceAdd, decide_eq_true_eq, if_true, if_false, Bool.false_eq_true, Bool.not_true, Bool.not_false, beq_true, beq_false, decide_true, decide_false, List.replicate_zero, List.replicate_succ, true_and, and_true]
  rw [if_pos (by omega)]
  rw [wp_cons]
  simp only [wipeT, wp_ok, wp_bad, wp_bind, wp_ite, wp_nx, wp_ret, wp_fbad, wp_st, retE_ret, retE_exc, opt_some, opt_none, tru_bl, slotQ_some, intV_int, blV_bl, refV_ref, tupV_tup, wp_loc, wp_cint, wp_cstr, wp_cbl, wp_cnon, wp_cval, wp_bin, wp_neg, wp_nt, wp_cmp, wp_chain, wp_is, wp_and, wp_or, wp_ife, wp_fld, wp_ix, wp_sl, wp_tup, wp_lst, wp_dnew, wp_call, wp_mk, wp_make, wp_meth, wp_methK, wp_blt, wp_bm, wp_comp, wp_comp2, wp_pno, wp_pyes, wp_ono, wp_oyes, wp_esnil, wp_escons, wp_over, wp_range1, wp_range2, wp_range3, wp_enum, wp_rev, wp_nil, wp_ex, wp_set, wp_setf, wp_seti, wp_setTF, wp_sret, wp_retn, wp_pass, wp_brk, wp_cnt, wp_if, wp_for, wp_while, wp_binI, binI_add, binI_sub, binI_mul, binI_fdiv, binI_mod, binI_shr, binI_band, binI_bxor, binI_pow, cmp_lt, cmp_le, cmp_gt, cmp_ge, cmp_eqI, cmp_neI, cmp_eqS, cmp_neS, opt_ite, ite_and, List.getElem?_cons_zero, List.getElem?_cons_succ, List.set_cons_zero, List.set_cons_succ, List.length_cons, List.length_nil, List.append_nil, List.map_cons, List.map_nil, assignT, setSlots, List.cons_append, List.nil_append, Nat.reduceSub, Nat.reduceAdd, decide_eq_true_eq, if_true, if_false, Bool.false_eq_true, Bool.not_true, Bool.not_false, beq_true, beq_false, decide_true, decide_false, List.replicate_zero, List.replicate_succ, true_and, and_true]
  rw [show in62 23 = true from rfl, show (23 : Int).toNat = 23 from rfl]
  refine ⟨rfl, ?_⟩
  refine comp_inv (fun j acc h' => ∃ os : List Nat, acc = os.map nI ∧ os.length = j ∧ (∀ o ∈ os, o < 256) ∧ h' = h1) (fun _ _ _ _ _ => rfl) ?_ ?_ ⟨[], rfl, rfl, (fun o ho => by cases ho), rfl⟩
  · rintro j hj acc h' ⟨os, rfl, hl, ho, rfl⟩
    rw [rangeL_length] at hj
    rw [rangeL_get, show (0 + (j : Int) * 1) = (j : Int) by omega]
    refine ⟨_, rfl, ?_⟩
    try simp only [wp_ok, wp_bad, wp_bind, wp_ite, wp_nx, wp_ret, wp_fbad, wp_st, retE_ret, retE_exc, opt_some, opt_none, tru_bl, slotQ_some, intV_int, blV_bl, refV_ref, tupV_tup, wp_loc, wp_cint, wp_cstr, wp_cbl, wp_cnon, wp_cval, wp_bin, wp_neg, wp_nt, wp_cmp, wp_chain, wp_is, wp_and, wp_or, wp_ife, wp_fld, wp_ix, wp_sl, wp_tup, wp_lst, wp_dnew, wp_call, wp_mk, wp_make, wp_meth, wp_methK, wp_blt, wp_bm, wp_comp, wp_comp2, wp_pno, wp_pyes, wp_ono, wp_oyes, wp_esnil, wp_escons, wp_over, wp_range1, wp_range2, wp_range3, wp_enum, wp_rev, wp_nil, wp_ex, wp_set, wp_setf, wp_seti, wp_setTF, wp_sret, wp_retn, wp_pass, wp_brk, wp_cnt, wp_if, wp_for, wp_while, wp_binI, binI_add, binI_sub, binI_mul, binI_fdiv, binI_mod, binI_shr, binI_band, binI_bxor, binI_pow, cmp_lt, cmp_le, cmp_gt, cmp_ge, cmp_eqI, cmp_neI, cmp_eqS, cmp_neS, opt_ite, ite_and, List.getElem?_cons_zero, List.getElem?_cons_succ, List.set_cons_zero, List.set_cons_succ, List.length_cons, List.length_nil, List.append_nil, List.map_cons, List.map_nil, assignT, setSlots, List.cons_append, List.nil_append, Nat.reduceSub, Nat.reduceAdd, decide_eq_true_eq, if_true, if_false, Bool.false_eq_true, Bool.not_true, Bool.not_false, beq_true, beq_false, decide_true, decide_false, List.replicate_zero, List.replicate_succ, true_and, and_true]
    refine ⟨by omega, small_ok rfl, by decide, os ++ [((v / ((j : Int) + 5) + 3 * j) % 256).toNat], ?_, ?_, ?_⟩
    · rw [List.map_append]
      congr 1
      unfold nI
      simp only [List.map_cons, List.map_nil]
      congr 2
      omega
    · rw [List.length_append, hl]; rfl
    · intro o ho'
      rcases List.mem_append.mp ho' with z | z
      · exact ho o z
      · rw [List.mem_singleton] at z
        omega
  rintro acc h2 ⟨os, rfl, hl, ho, rfl⟩
  rw [rangeL_length] at hl
  refine ⟨size_ok (by rw [List.length_map]; omega), ?_⟩
  rw [tuple_ref (Heap.get_new _ _)]
  have s2 := s1.ext (Ext.push h2 (.lst (os.map nI)))
  generalize h2.push (.lst (os.map nI)) = h3 at s2 ⊢
  rw [wp_cons]
  try simp only [wp_ok, wp_bad, wp_bind, wp_ite, wp_nx, wp_ret, wp_fbad, wp_st, retE_ret, retE_exc, opt_some, opt_none, tru_bl, slotQ_some, intV_int, blV_bl, refV_ref, tupV_tup, wp_loc, wp_cint, wp_cstr, wp_cbl, wp_cnon, wp_cval, wp_bin, wp_neg, wp_nt, wp_cmp, wp_chain, wp_is, wp_and, wp_or, wp_ife, wp_fld, wp_ix, wp_sl, wp_tup, wp_lst, wp_dnew, wp_call, wp_mk, wp_make, wp_meth, wp_methK, wp_blt, wp_bm, wp_comp, wp_comp2, wp_pno, wp_pyes, wp_ono, wp_oyes, wp_esnil, wp_escons, wp_over, wp_range1, wp_range2, wp_range3, wp_enum, wp_rev, wp_nil, wp_ex, wp_set, wp_setf, wp_seti, wp_setTF, wp_sret, wp_retn, wp_pass, wp_brk, wp_cnt, wp_if, wp_for, wp_while, wp_binI, binI_add, binI_sub, binI_mul, binI_fdiv, binI_mod, binI_shr, binI_band, binI_bxor, binI_pow, cmp_lt, cmp_le, cmp_gt, cmp_ge, cmp_eqI, cmp_neI, cmp_eqS, cmp_neS, opt_ite, ite_and, List.getElem?_cons_zero, List.getElem?_cons_succ, List.set_cons_zero, List.set_cons_succ, List.length_cons, List.length_nil, List.append_nil, List.map_cons, List.map_nil, assignT, setSlots, List.cons_append, List.nil_append, Nat.reduceSub, Nat.reduceAdd, decide_eq_true_eq, if_true, if_false, Bool.false_eq_true, Bool.not_true, Bool.not_false, beq_true, beq_false, decide_true, decide_false, List.replicate_zero, List.replicate_succ, true_and, and_true]
  rw [wp_cons]
  simp only [kv, wp_ok, wp_bad, wp_bind, wp_ite, wp_nx, wp_ret, wp_fbad, wp_st, retE_ret, retE_exc, opt_some, opt_none, tru_bl, slotQ_some, intV_int, blV_bl, refV_ref, tupV_tup, wp_loc, wp_cint, wp_cstr, wp_cbl, wp_cnon, wp_cval, wp_bin, wp_neg, wp_nt, wp_cmp, wp_chain, wp_is, wp_and, wp_or, wp_ife, wp_fld, wp_ix, wp_sl, wp_tup, wp_lst, wp_dnew, wp_call, wp_mk, wp_make, wp_meth, wp_methK, wp_blt, wp_bm, wp_comp, wp_comp2, wp_pno, wp_pyes, wp_ono, wp_oyes, wp_esnil, wp_escons, wp_over, wp_range1, wp_range2, wp_range3, wp_enum, wp_rev, wp_nil, wp_ex, wp_set, wp_setf, wp_seti, wp_setTF, wp_sret, wp_retn, wp_pass, wp_brk, wp_cnt, wp_if, wp_for, wp_while, wp_binI, binI_add, binI_sub, binI_mul, binI_fdiv, binI_mod, binI_shr, binI_band, binI_bxor, binI_pow, cmp_lt, cmp_le, cmp_gt, cmp_ge, cmp_eqI, cmp_neI, cmp_eqS, cmp_neS, opt_ite, ite_and, List.getElem?_cons_zero, List.getElem?_cons_succ, List.set_cons_zero, List.set_cons_succ, List.length_cons, List.length_nil, List.append_nil, List.map_cons, List.map_nil, assignT, setSlots, List.cons_append, List.nil_append, Nat.reduceSub, Nat.reduceAdd, decide_eq_true_eq, if_true, if_false, Bool.false_eq_true, Bool.not_true, Bool.not_false, beq_true, beq_false, decide_true, decide_false, List.replicate_zero, List.replicate_succ, true_and, and_true]
  rw [recv_get s2.s12]
  refine ⟨rfl, two_le, ?_⟩
  rw [get_key s2.s12 hp, s2.df]
  try simp only [wp_ok, wp_bad, wp_bind, wp_ite, wp_nx, wp_ret, wp_fbad, wp_st, retE_ret, retE_exc, opt_some, opt_none, tru_bl, slotQ_some, intV_int, blV_bl, refV_ref, tupV_tup, wp_loc, wp_cint, wp_cstr, wp_cbl, wp_cnon, wp_cval, wp_bin, wp_neg, wp_nt, wp_cmp, wp_chain, wp_is, wp_and, wp_or, wp_ife, wp_fld, wp_ix, wp_sl, wp_tup, wp_lst, wp_dnew, wp_call, wp_mk, wp_make, wp_meth, wp_methK, wp_blt, wp_bm, wp_comp, wp_comp2, wp_pno, wp_pyes, wp_ono, wp_oyes, wp_esnil, wp_escons, wp_over, wp_range1, wp_range2, wp_range3, wp_enum, wp_rev, wp_nil, wp_ex, wp_set, wp_setf, wp_seti, wp_setTF, wp_sret, wp_retn, wp_pass, wp_brk, wp_cnt, wp_if, wp_for, wp_while, wp_binI, binI_add, binI_sub, binI_mul, binI_fdiv, binI_mod, binI_shr, binI_band, binI_bxor, binI_pow, cmp_lt, cmp_le, cmp_gt, cmp_ge, cmp_eqI, cmp_neI, cmp_eqS, cmp_neS, opt_ite, ite_and, List.getElem?_cons_zero, List.getElem?_cons_succ, List.set_cons_zero, List.set_cons_succ, List.length_cons, List.length_nil, List.append_nil, List.map_cons, List.map_nil, assignT, setSlots, List.cons_append, List.nil_append, Nat.reduceSub, Nat.reduceAdd, decide_eq_true_eq, if_true, if_false, Bool.false_eq_true, Bool.not_true, Bool.not_false, beq_true, beq_false, decide_true, decide_false, List.replicate_zero, List.replicate_succ, true_and, and_true]
  rw [ix2 s2.s11 hp, opt_some, ref_if, ix2 (s2.rowq hp) hq, int_if hq]
  try simp only [wp_ok, wp_bad, wp_bind, wp_ite, wp_nx, wp_ret, wp_fbad, wp_st, retE_ret, retE_exc, opt_some, opt_none, tru_bl, slotQ_some, intV_int, blV_bl, refV_ref, tupV_tup, wp_loc, wp_cint, wp_cstr, wp_cbl, wp_cnon, wp_cval, wp_bin, wp_neg, wp_nt, wp_cmp, wp_chain, wp_is, wp_and, wp_or, wp_ife, wp_fld, wp_ix, wp_sl, wp_tup, wp_lst, wp_dnew, wp_call, wp_mk, wp_make, wp_meth, wp_methK, wp_blt, wp_bm, wp_comp, wp_comp2, wp_pno, wp_pyes, wp_ono, wp_oyes, wp_esnil, wp_escons, wp_over, wp_range1, wp_range2, wp_range3, wp_enum, wp_rev, wp_nil, wp_ex, wp_set, wp_setf, wp_seti, wp_setTF, wp_sret, wp_retn, wp_pass, wp_brk, wp_cnt, wp_if, wp_for, wp_while, wp_binI, binI_add, binI_sub, binI_mul, binI_fdiv, binI_mod, binI_shr, binI_band, binI_bxor, binI_pow, cmp_lt, cmp_le, cmp_gt, cmp_ge, cmp_eqI, cmp_neI, cmp_eqS, cmp_neS, opt_ite, ite_and, List.getElem?_cons_zero, List.getElem?_cons_succ, List.set_cons_zero, List.set_cons_succ, List.length_cons, List.length_nil, List.append_nil, List.map_cons, List.map_nil, assignT, setSlots, List.cons_append, List.nil_append, Nat.reduceSub, Nat.reduceAdd, decide_eq_true_eq, if_true, if_false, Bool.false_eq_true, Bool.not_true, Bool.not_false, beq_true, beq_false, decide_true, decide_false, List.replicate_zero, List.replicate_succ, true_and, and_true]
  have rest : ∀ due, due = (if 0 < L (key p w) ∨ lv p q < 5 then .non else .tup (os.map nI)) → ∀ E0 : Fl → Prop, (evB TT (callAt TT (n + 7)) (match c_law.body with
      | .cons _ (.cons _ (.cons _ (.cons _ (.cons _ (.cons (.for_ _ _ (.cons _ (.cons _ (.cons _ (.cons _ (.cons _ (.cons _ (.cons _ (.cons _ (.cons (.if_ _ (.cons _ (.cons _ (.cons _ b))) _) _)))))))))) _))))) => b
      | _ => .nil) [some (.glb 6), some (.ref 0), some (.ref 6), some (.ref 11), some (.ref 12), some (.int fl), some (.int k), some (.int x), some (.int v), some (.int p), some (.str (wayS w)), some (.int q), some (.int (v % 8)), a13, a14, a15, some (.tup (os.map nI)), some due, none] h3).wp (turnI vs (k + 1)) E0 := by
    intro due hd E0
    unfold c_law
    simp only
    rw [wp_cons]
    simp only [kv, wp_ok, wp_bad, wp_bind, wp_ite, wp_nx, wp_ret, wp_fbad, wp_st, retE_ret, retE_exc, opt_some, opt_none, tru_bl, slotQ_some, intV_int, blV_bl, refV_ref, tupV_tup, wp_loc, wp_cint, wp_cstr, wp_cbl, wp_cnon, wp_cval, wp_bin, wp_neg, wp_nt, wp_cmp, wp_chain, wp_is, wp_and, wp_or, wp_ife, wp_fld, wp_ix, wp_sl, wp_tup, wp_lst, wp_dnew, wp_call, wp_mk, wp_make, wp_meth, wp_methK, wp_blt, wp_bm, wp_comp, wp_comp2, wp_pno, wp_pyes, wp_ono, wp_oyes, wp_esnil, wp_escons, wp_over, wp_range1, wp_range2, wp_range3, wp_enum, wp_rev, wp_nil, wp_ex, wp_set, wp_setf, wp_seti, wp_setTF, wp_sret, wp_retn, wp_pass, wp_brk, wp_cnt, wp_if, wp_for, wp_while, wp_binI, binI_add, binI_sub, binI_mul, binI_fdiv, binI_mod, binI_shr, binI_band, binI_bxor, binI_pow, cmp_lt, cmp_le, cmp_gt, cmp_ge, cmp_eqI, cmp_neI, cmp_eqS, cmp_neS, opt_ite, ite_and, List.getElem?_cons_zero, List.getElem?_cons_succ, List.set_cons_zero, List.set_cons_succ, List.length_cons, List.length_nil, List.append_nil, List.map_cons, List.map_nil, assignT, setSlots, List.cons_append, List.nil_append, Nat.reduceSub, Nat.reduceAdd, decide_eq_true_eq, if_true, if_false, Bool.false_eq_true, Bool.not_true, Bool.not_false, beq_true, beq_false, decide_true, decide_false, List.replicate_zero, List.replicate_succ, true_and, and_true]
    rw [recv_get s2.s12]
    refine ⟨rfl, two_le, ?_⟩
    rw [get_key s2.s12 hp, s2.df]
    try simp only [wp_ok, wp_bad, wp_bind, wp_ite, wp_nx, wp_ret, wp_fbad, wp_st, retE_ret, retE_exc, opt_some, opt_none, tru_bl, slotQ_some, intV_int, blV_bl, refV_ref, tupV_tup, wp_loc, wp_cint, wp_cstr, wp_cbl, wp_cnon, wp_cval, wp_bin, wp_neg, wp_nt, wp_cmp, wp_chain, wp_is, wp_and, wp_or, wp_ife, wp_fld, wp_ix, wp_sl, wp_tup, wp_lst, wp_dnew, wp_call, wp_mk, wp_make, wp_meth, wp_methK, wp_blt, wp_bm, wp_comp, wp_comp2, wp_pno, wp_pyes, wp_ono, wp_oyes, wp_esnil, wp_escons, wp_over, wp_range1, wp_range2, wp_range3, wp_enum, wp_rev, wp_nil, wp_ex, wp_set, wp_setf, wp_seti, wp_setTF, wp_sret, wp_retn, wp_pass, wp_brk, wp_cnt, wp_if, wp_for, wp_while, wp_binI, binI_add, binI_sub, binI_mul, binI_fdiv, binI_mod, binI_shr, binI_band, binI_bxor, binI_pow, cmp_lt, cmp_le, cmp_gt, cmp_ge, cmp_eqI, cmp_neI, cmp_eqS, cmp_neS, opt_ite, ite_and, List.getElem?_cons_zero, List.getElem?_cons_succ, List.set_cons_zero, List.set_cons_succ, List.length_cons, List.length_nil, List.append_nil, List.map_cons, List.map_nil, assignT, setSlots, List.cons_append, List.nil_append, Nat.reduceSub, Nat.reduceAdd, decide_eq_true_eq, if_true, if_false, Bool.false_eq_true, Bool.not_true, Bool.not_false, beq_true, beq_false, decide_true, decide_false, List.replicate_zero, List.replicate_succ, true_and, and_true]
    rw [max_int]
    refine ⟨two_le, ?_⟩
    rw [set_key s2.s12 hp (by have := s2.nf; omega)]
    try simp only [wp_ok, wp_bad, wp_bind, wp_ite, wp_nx, wp_ret, wp_fbad, wp_st, retE_ret, retE_exc, opt_some, opt_none, tru_bl, slotQ_some, intV_int, blV_bl, refV_ref, tupV_tup, wp_loc, wp_cint, wp_cstr, wp_cbl, wp_cnon, wp_cval, wp_bin, wp_neg, wp_nt, wp_cmp, wp_chain, wp_is, wp_and, wp_or, wp_ife, wp_fld, wp_ix, wp_sl, wp_tup, wp_lst, wp_dnew, wp_call, wp_mk, wp_make, wp_meth, wp_methK, wp_blt, wp_bm, wp_comp, wp_comp2, wp_pno, wp_pyes, wp_ono, wp_oyes, wp_esnil, wp_escons, wp_over, wp_range1, wp_range2, wp_range3, wp_enum, wp_rev, wp_nil, wp_ex, wp_set, wp_setf, wp_seti, wp_setTF, wp_sret, wp_retn, wp_pass, wp_brk, wp_cnt, wp_if, wp_for, wp_while, wp_binI, binI_add, binI_sub, binI_mul, binI_fdiv, binI_mod, binI_shr, binI_band, binI_bxor, binI_pow, cmp_lt, cmp_le, cmp_gt, cmp_ge, cmp_eqI, cmp_neI, cmp_eqS, cmp_neS, opt_ite, ite_and, List.getElem?_cons_zero, List.getElem?_cons_succ, List.set_cons_zero, List.set_cons_succ, List.length_cons, List.length_nil, List.append_nil, List.map_cons, List.map_nil, assignT, setSlots, List.cons_append, List.nil_append, Nat.reduceSub, Nat.reduceAdd, decide_eq_true_eq, if_true, if_false, Bool.false_eq_true, Bool.not_true, Bool.not_false, beq_true, beq_false, decide_true, decide_false, List.replicate_zero, List.replicate_succ, true_and, and_true]
    have hmx : (if L (key p w) - 1 > 0 then L (key p w) - 1 else 0) = max (L (key p w) - 1) 0 := by split <;> omega
    rw [hmx]
    have s3 := s2.set12 (key p w) (max (L (key p w) - 1) 0)
    generalize h3.set 12 _ = h4 at s3 ⊢
    rw [wp_cons]
    try simp only [wp_ok, wp_bad, wp_bind, wp_ite, wp_nx, wp_ret, wp_fbad, wp_st, retE_ret, retE_exc, opt_some, opt_none, tru_bl, slotQ_some, intV_int, blV_bl, refV_ref, tupV_tup, wp_loc, wp_cint, wp_cstr, wp_cbl, wp_cnon, wp_cval, wp_bin, wp_neg, wp_nt, wp_cmp, wp_chain, wp_is, wp_and, wp_or, wp_ife, wp_fld, wp_ix, wp_sl, wp_tup, wp_lst, wp_dnew, wp_call, wp_mk, wp_make, wp_meth, wp_methK, wp_blt, wp_bm, wp_comp, wp_comp2, wp_pno, wp_pyes, wp_ono, wp_oyes, wp_esnil, wp_escons, wp_over, wp_range1, wp_range2, wp_range3, wp_enum, wp_rev, wp_nil, wp_ex, wp_set, wp_setf, wp_seti, wp_setTF, wp_sret, wp_retn, wp_pass, wp_brk, wp_cnt, wp_if, wp_for, wp_while, wp_binI, binI_add, binI_sub, binI_mul, binI_fdiv, binI_mod, binI_shr, binI_band, binI_bxor, binI_pow, cmp_lt, cmp_le, cmp_gt, cmp_ge, cmp_eqI, cmp_neI, cmp_eqS, cmp_neS, opt_ite, ite_and, List.getElem?_cons_zero, List.getElem?_cons_succ, List.set_cons_zero, List.set_cons_succ, List.length_cons, List.length_nil, List.append_nil, List.map_cons, List.map_nil, assignT, setSlots, List.cons_append, List.nil_append, Nat.reduceSub, Nat.reduceAdd, decide_eq_true_eq, if_true, if_false, Bool.false_eq_true, Bool.not_true, Bool.not_false, beq_true, beq_false, decide_true, decide_false, List.replicate_zero, List.replicate_succ, true_and, and_true]
    rw [meth_ref s3.s6 rfl, m32]
    try simp only [wp_ok, wp_bad, wp_bind, wp_ite, wp_nx, wp_ret, wp_fbad, wp_st, retE_ret, retE_exc, opt_some, opt_none, tru_bl, slotQ_some, intV_int, blV_bl, refV_ref, tupV_tup, wp_loc, wp_cint, wp_cstr, wp_cbl, wp_cnon, wp_cval, wp_bin, wp_neg, wp_nt, wp_cmp, wp_chain, wp_is, wp_and, wp_or, wp_ife, wp_fld, wp_ix, wp_sl, wp_tup, wp_lst, wp_dnew, wp_call, wp_mk, wp_make, wp_meth, wp_methK, wp_blt, wp_bm, wp_comp, wp_comp2, wp_pno, wp_pyes, wp_ono, wp_oyes, wp_esnil, wp_escons, wp_over, wp_range1, wp_range2, wp_range3, wp_enum, wp_rev, wp_nil, wp_ex, wp_set, wp_setf, wp_seti, wp_setTF, wp_sret, wp_retn, wp_pass, wp_brk, wp_cnt, wp_if, wp_for, wp_while, wp_binI, binI_add, binI_sub, binI_mul, binI_fdiv, binI_mod, binI_shr, binI_band, binI_bxor, binI_pow, cmp_lt, cmp_le, cmp_gt, cmp_ge, cmp_eqI, cmp_neI, cmp_eqS, cmp_neS, opt_ite, ite_and, List.getElem?_cons_zero, List.getElem?_cons_succ, List.set_cons_zero, List.set_cons_succ, List.length_cons, List.length_nil, List.append_nil, List.map_cons, List.map_nil, assignT, setSlots, List.cons_append, List.nil_append, Nat.reduceSub, Nat.reduceAdd, decide_eq_true_eq, if_true, if_false, Bool.false_eq_true, Bool.not_true, Bool.not_false, beq_true, beq_false, decide_true, decide_false, List.replicate_zero, List.replicate_succ, true_and, and_true]
    refine (carry_wp (n + 1) s3 (by omega) hp hq hl ho (X := nox)).mono ?_ (fun _ _ _ q => q.elim)
    rintro v' h5 ⟨rfl, ls', fs', s5⟩
    rw [← hd]
    have hne : cmpV .ne due due h5 = some false := by
      rw [hd]
      split
      · exact ne_non _
      · exact ne_tup _ _
    rw [hne]
    try simp only [wp_ok, wp_bad, wp_bind, wp_ite, wp_nx, wp_ret, wp_fbad, wp_st, retE_ret, retE_exc, opt_some, opt_none, tru_bl, slotQ_some, intV_int, blV_bl, refV_ref, tupV_tup, wp_loc, wp_cint, wp_cstr, wp_cbl, wp_cnon, wp_cval, wp_bin, wp_neg, wp_nt, wp_cmp, wp_chain, wp_is, wp_and, wp_or, wp_ife, wp_fld, wp_ix, wp_sl, wp_tup, wp_lst, wp_dnew, wp_call, wp_mk, wp_make, wp_meth, wp_methK, wp_blt, wp_bm, wp_comp, wp_comp2, wp_pno, wp_pyes, wp_ono, wp_oyes, wp_esnil, wp_escons, wp_over, wp_range1, wp_range2, wp_range3, wp_enum, wp_rev, wp_nil, wp_ex, wp_set, wp_setf, wp_seti, wp_setTF, wp_sret, wp_retn, wp_pass, wp_brk, wp_cnt, wp_if, wp_for, wp_while, wp_binI, binI_add, binI_sub, binI_mul, binI_fdiv, binI_mod, binI_shr, binI_band, binI_bxor, binI_pow, cmp_lt, cmp_le, cmp_gt, cmp_ge, cmp_eqI, cmp_neI, cmp_eqS, cmp_neS, opt_ite, ite_and, List.getElem?_cons_zero, List.getElem?_cons_succ, List.set_cons_zero, List.set_cons_succ, List.length_cons, List.length_nil, List.append_nil, List.map_cons, List.map_nil, assignT, setSlots, List.cons_append, List.nil_append, Nat.reduceSub, Nat.reduceAdd, decide_eq_true_eq, if_true, if_false, Bool.false_eq_true, Bool.not_true, Bool.not_false, beq_true, beq_false, decide_true, decide_false, List.replicate_zero, List.replicate_succ, true_and, and_true]
    exact ⟨fl, _, _, _, _, _, ⟨_, _, _, _, _, _, _, _, _, _, _, _, rfl⟩, s5.up (by omega)⟩
  unfold c_law at rest
  simp only at rest
  by_cases q1 : 0 < L (key p w)
  · rw [if_pos q1, wp_cons]
    try simp only [wp_ok, wp_bad, wp_bind, wp_ite, wp_nx, wp_ret, wp_fbad, wp_st, retE_ret, retE_exc, opt_some, opt_none, tru_bl, slotQ_some, intV_int, blV_bl, refV_ref, tupV_tup, wp_loc, wp_cint, wp_cstr, wp_cbl, wp_cnon, wp_cval, wp_bin, wp_neg, wp_nt, wp_cmp, wp_chain, wp_is, wp_and, wp_or, wp_ife, wp_fld, wp_ix, wp_sl, wp_tup, wp_lst, wp_dnew, wp_call, wp_mk, wp_make, wp_meth, wp_methK, wp_blt, wp_bm, wp_comp, wp_comp2, wp_pno, wp_pyes, wp_ono, wp_oyes, wp_esnil, wp_escons, wp_over, wp_range1, wp_range2, wp_range3, wp_enum, wp_rev, wp_nil, wp_ex, wp_set, wp_setf, wp_seti, wp_setTF, wp_sret, wp_retn, wp_pass, wp_brk, wp_cnt, wp_if, wp_for, wp_while, wp_binI, binI_add, binI_sub, binI_mul, binI_fdiv, binI_mod, binI_shr, binI_band, binI_bxor, binI_pow, cmp_lt, cmp_le, cmp_gt, cmp_ge, cmp_eqI, cmp_neI, cmp_eqS, cmp_neS, opt_ite, ite_and, List.getElem?_cons_zero, List.getElem?_cons_succ, List.set_cons_zero, List.set_cons_succ, List.length_cons, List.length_nil, List.append_nil, List.map_cons, List.map_nil, assignT, setSlots, List.cons_append, List.nil_append, Nat.reduceSub, Nat.reduceAdd, decide_eq_true_eq, if_true, if_false, Bool.false_eq_true, Bool.not_true, Bool.not_false, beq_true, beq_false, decide_true, decide_false, List.replicate_zero, List.replicate_succ, true_and, and_true]
    exact rest .non (by rw [if_pos (.inl q1)]) _
  · rw [if_neg q1]
    by_cases q2 : lv p q < 5
    · rw [if_pos q2, wp_cons]
      try simp only [wp_ok, wp_bad, wp_bind, wp_ite, wp_nx, wp_ret, wp_fbad, wp_st, retE_ret, retE_exc, opt_some, opt_none, tru_bl, slotQ_some, intV_int, blV_bl, refV_ref, tupV_tup, wp_loc, wp_cint, wp_cstr, wp_cbl, wp_cnon, wp_cval, wp_bin, wp_neg, wp_nt, wp_cmp, wp_chain, wp_is, wp_and, wp_or, wp_ife, wp_fld, wp_ix, wp_sl, wp_tup, wp_lst, wp_dnew, wp_call, wp_mk, wp_make, wp_meth, wp_methK, wp_blt, wp_bm, wp_comp, wp_comp2, wp_pno, wp_pyes, wp_ono, wp_oyes, wp_esnil, wp_escons, wp_over, wp_range1, wp_range2, wp_range3, wp_enum, wp_rev, wp_nil, wp_ex, wp_set, wp_setf, wp_seti, wp_setTF, wp_sret, wp_retn, wp_pass, wp_brk, wp_cnt, wp_if, wp_for, wp_while, wp_binI, binI_add, binI_sub, binI_mul, binI_fdiv, binI_mod, binI_shr, binI_band, binI_bxor, binI_pow, cmp_lt, cmp_le, cmp_gt, cmp_ge, cmp_eqI, cmp_neI, cmp_eqS, cmp_neS, opt_ite, ite_and, List.getElem?_cons_zero, List.getElem?_cons_succ, List.set_cons_zero, List.set_cons_succ, List.length_cons, List.length_nil, List.append_nil, List.map_cons, List.map_nil, assignT, setSlots, List.cons_append, List.nil_append, Nat.reduceSub, Nat.reduceAdd, decide_eq_true_eq, if_true, if_false, Bool.false_eq_true, Bool.not_true, Bool.not_false, beq_true, beq_false, decide_true, decide_false, List.replicate_zero, List.replicate_succ, true_and, and_true]
      exact rest .non (by rw [if_pos (.inr q2)]) _
    · rw [if_neg q2]
      exact rest _ (by rw [if_neg]; omega) _
theorem fn_law : TT.fn 327 = some c_law := rfl
def H0 (scr : List Val) : Heap := ⟨#[.ins 22 [(138, .ref 5)], .lst [.int 0], .lst [.int 0, .int 0], .lst [.int 0], .lst [.int 0, .int 0], .lst [.ref 2, .ref 4]], scr⟩
theorem init_sig (n : Nat) (scr : List Val) : callAt TT (n + 1) 141 [.ref 0, .int 2, .int 2] ⟨#[.ins 22 []], scr⟩ = .ok .non (H0 scr) := rfl
def H1 (scr : List Val) : Heap := ⟨#[.ins 22 [(138, .ref 5)], .lst [.int 0], .lst [.int 0, .int 0], .lst [.int 0], .lst [.int 0, .int 0], .lst [.ref 2, .ref 4], .ins 0 [(153, .ref 0), (97, .ref 7), (62, .ref 8)], .dcT [], .dcT []], scr⟩
theorem init_air (n : Nat) (scr : List Val) : callAt TT (n + 1) 0 [.ref 6, .ref 0] ((H0 scr).push (.ins 0 [])) = .ok .non (H1 scr) := rfl
def H2 (scr vs : List Val) : Heap := ⟨#[.ins 22 [(138, .ref 5)], .lst [.int 0], .lst [.int 0, .int 0], .lst [.int 0], .lst [.int 0, .int 0], .lst [.ref 2, .ref 4], .ins 0 [(153, .ref 0), (97, .ref 7), (62, .ref 8)], .dcT [], .dcT [], .lst [.int 0, .int 0], .lst [.int 0, .int 0], .lst [.ref 9, .ref 10], .dcT [], .lst vs], scr⟩
theorem H2_S (scr vs : List Val) : S (H2 scr vs) vs (fun _ _ => 0) (fun _ _ => 0) [] [] [] (fun _ => 0) (fun _ => 0) 0 :=
  ⟨rfl, rfl, rfl, rfl, rfl, rfl, rfl, rfl, rfl, rfl, rfl, rfl, fun _ => rfl, fun _ => rfl, (fun _ _ e => by cases e), Nat.le_refl _, Nat.le_refl _, Nat.le_refl _⟩
theorem cut_to40 {α : Type} (xs : List α) : cutL xs none (some 40) = xs.take 40 := by
  unfold cutL clip
  simp only
  rw [if_neg (by decide), show (40 : Int).toNat = 40 from rfl, List.drop_zero, Nat.sub_zero]
  rw [Nat.min_def]
  split
  · rfl
  · rw [List.take_of_length_le (Nat.le_refl _), List.take_of_length_le (by omega)]
theorem law_plain_n (n : Nat) (ns : List Int) (hl : ns.length ≤ 63) : ∃ h', callAt TT (n + 8) 327 [.glb 6] ⟨#[], ns.map .int⟩ = .ok (.bl true) h' := by
  have key : (callAt TT (n + 8) 327 [.glb 6] ⟨#[], ns.map .int⟩).wp (fun v _ => v = .bl true) nox := by
    have turn := turn_wp n ((ns.map Val.int).take 40) (fun v hv => by
      have := List.mem_of_mem_take hv
      rw [List.mem_map] at this
      obtain ⟨x, _, e⟩ := this
      exact ⟨x, e.symm⟩)
    have cw := @call_wp TT (n + 7) 327 c_law [.glb 6] ⟨#[], ns.map .int⟩ (fun v _ => v = .bl true) nox fn_law rfl
    revert cw
    generalize (callAt TT (n + 8) 327 [.glb 6] ⟨#[], ns.map .int⟩) = rr
    intro cw
    refine cw ?_
    unfold c_law at turn ⊢
    simp only at turn
    rw [wp_cons]
    try simp only [wp_ok, wp_bad, wp_bind, wp_ite, wp_nx, wp_ret, wp_fbad, wp_st, retE_ret, retE_exc, opt_some, opt_none, tru_bl, slotQ_some, intV_int, blV_bl, refV_ref, tupV_tup, wp_loc, wp_cint, wp_cstr, wp_cbl, wp_cnon, wp_cval, wp_bin, wp_neg, wp_nt, wp_cmp, wp_chain, wp_is, wp_and, wp_or, wp_ife, wp_fld, wp_ix, wp_sl, wp_tup, wp_lst, wp_dnew, wp_call, wp_mk, wp_make, wp_meth, wp_methK, wp_blt, wp_bm, wp_comp, wp_comp2, wp_pno, wp_pyes, wp_ono, wp_oyes, wp_esnil, wp_escons, wp_over, wp_range1, wp_range2, wp_range3, wp_enum, wp_rev, wp_nil, wp_ex, wp_set, wp_setf, wp_seti, wp_setTF, wp_sret, wp_retn, wp_pass, wp_brk, wp_cnt, wp_if, wp_for, wp_while, wp_binI, binI_add, binI_sub, binI_mul, binI_fdiv, binI_mod, binI_shr, binI_band, binI_bxor, binI_pow, cmp_lt, cmp_le, cmp_gt, cmp_ge, cmp_eqI, cmp_neI, cmp_eqS, cmp_neS, opt_ite, ite_and, List.getElem?_cons_zero, List.getElem?_cons_succ, List.set_cons_zero, List.set_cons_succ, List.length_cons, List.length_nil, List.append_nil, List.map_cons, List.map_nil, assignT, setSlots, List.cons_append, List.nil_append, Nat.reduceSub, Nat.reduceAdd, decide_eq_true_eq, if_true, if_false, Bool.false_eq_true, Bool.not_true, Bool.not_false, beq_true, beq_false, decide_true, decide_false, List.replicate_zero, List.replicate_succ, true_and, and_true]
    rw [show TT.init 22 = some 141 from rfl, opt_some]
    rw [show (⟨#[], ns.map Val.int⟩ : Heap).size = 0 from rfl, show (⟨#[], ns.map Val.int⟩ : Heap).push (.ins 22 []) = ⟨#[.ins 22 []], ns.map Val.int⟩ from rfl, init_sig (n + 6)]
    try simp only [wp_ok, wp_bad, wp_bind, wp_ite, wp_nx, wp_ret, wp_fbad, wp_st, retE_ret, retE_exc, opt_some, opt_none, tru_bl, slotQ_some, intV_int, blV_bl, refV_ref, tupV_tup, wp_loc, wp_cint, wp_cstr, wp_cbl, wp_cnon, wp_cval, wp_bin, wp_neg, wp_nt, wp_cmp, wp_chain, wp_is, wp_and, wp_or, wp_ife, wp_fld, wp_ix, wp_sl, wp_tup, wp_lst, wp_dnew, wp_call, wp_mk, wp_make, wp_meth, wp_methK, wp_blt, wp_bm, wp_comp, wp_comp2, wp_pno, wp_pyes, wp_ono, wp_oyes, wp_esnil, wp_escons, wp_over, wp_range1, wp_range2, wp_range3, wp_enum, wp_rev, wp_nil, wp_ex, wp_set, wp_setf, wp_seti, wp_setTF, wp_sret, wp_retn, wp_pass, wp_brk, wp_cnt, wp_if, wp_for, wp_while, wp_binI, binI_add, binI_sub, binI_mul, binI_fdiv, binI_mod, binI_shr, binI_band, binI_bxor, binI_pow, cmp_lt, cmp_le, cmp_gt, cmp_ge, cmp_eqI, cmp_neI, cmp_eqS, cmp_neS, opt_ite, ite_and, List.getElem?_cons_zero, List.getElem?_cons_succ, List.set_cons_zero, List.set_cons_succ, List.length_cons, List.length_nil, List.append_nil, List.map_cons, List.map_nil, assignT, setSlots, List.cons_append, List.nil_append, Nat.reduceSub, Nat.reduceAdd, decide_eq_true_eq, if_true, if_false, Bool.false_eq_true, Bool.not_true, Bool.not_false, beq_true, beq_false, decide_true, decide_false, List.replicate_zero, List.replicate_succ, true_and, and_true]
    rw [wp_cons]
    try simp only [wp_ok, wp_bad, wp_bind, wp_ite, wp_nx, wp_ret, wp_fbad, wp_st, retE_ret, retE_exc, opt_some, opt_none, tru_bl, slotQ_some, intV_int, blV_bl, refV_ref, tupV_tup, wp_loc, wp_cint, wp_cstr, wp_cbl, wp_cnon, wp_cval, wp_bin, wp_neg, wp_nt, wp_cmp, wp_chain, wp_is, wp_and, wp_or, wp_ife, wp_fld, wp_ix, wp_sl, wp_tup, wp_lst, wp_dnew, wp_call, wp_mk, wp_make, wp_meth, wp_methK, wp_blt, wp_bm, wp_comp, wp_comp2, wp_pno, wp_pyes, wp_ono, wp_oyes, wp_esnil, wp_escons, wp_over, wp_range1, wp_range2, wp_range3, wp_enum, wp_rev, wp_nil, wp_ex, wp_set, wp_setf, wp_seti, wp_setTF, wp_sret, wp_retn, wp_pass, wp_brk, wp_cnt, wp_if, wp_for, wp_while, wp_binI, binI_add, binI_sub, binI_mul, binI_fdiv, binI_mod, binI_shr, binI_band, binI_bxor, binI_pow, cmp_lt, cmp_le, cmp_gt, cmp_ge, cmp_eqI, cmp_neI, cmp_eqS, cmp_neS, opt_ite, ite_and, List.getElem?_cons_zero, List.getElem?_cons_succ, List.set_cons_zero, List.set_cons_succ, List.length_cons, List.length_nil, List.append_nil, List.map_cons, List.map_nil, assignT, setSlots, List.cons_append, List.nil_append, Nat.reduceSub, Nat.reduceAdd, decide_eq_true_eq, if_true, if_false, Bool.false_eq_true, Bool.not_true, Bool.not_false, beq_true, beq_false, decide_true, decide_false, List.replicate_zero, List.replicate_succ, true_and, and_true]
    rw [show TT.init 0 = some 0 from rfl, opt_some]
    rw [show (H0 (ns.map Val.int)).size = 6 from rfl, init_air (n + 6)]
    try simp only [wp_ok, wp_bad, wp_bind, wp_ite, wp_nx, wp_ret, wp_fbad, wp_st, retE_ret, retE_exc, opt_some, opt_none, tru_bl, slotQ_some, intV_int, blV_bl, refV_ref, tupV_tup, wp_loc, wp_cint, wp_cstr, wp_cbl, wp_cnon, wp_cval, wp_bin, wp_neg, wp_nt, wp_cmp, wp_chain, wp_is, wp_and, wp_or, wp_ife, wp_fld, wp_ix, wp_sl, wp_tup, wp_lst, wp_dnew, wp_call, wp_mk, wp_make, wp_meth, wp_methK, wp_blt, wp_bm, wp_comp, wp_comp2, wp_pno, wp_pyes, wp_ono, wp_oyes, wp_esnil, wp_escons, wp_over, wp_range1, wp_range2, wp_range3, wp_enum, wp_rev, wp_nil, wp_ex, wp_set, wp_setf, wp_seti, wp_setTF, wp_sret, wp_retn, wp_pass, wp_brk, wp_cnt, wp_if, wp_for, wp_while, wp_binI, binI_add, binI_sub, binI_mul, binI_fdiv, binI_mod, binI_shr, binI_band, binI_bxor, binI_pow, cmp_lt, cmp_le, cmp_gt, cmp_ge, cmp_eqI, cmp_neI, cmp_eqS, cmp_neS, opt_ite, ite_and, List.getElem?_cons_zero, List.getElem?_cons_succ, List.set_cons_zero, List.set_cons_succ, List.length_cons, List.length_nil, List.append_nil, List.map_cons, List.map_nil, assignT, setSlots, List.cons_append, List.nil_append, Nat.reduceSub, Nat.reduceAdd, decide_eq_true_eq, if_true, if_false, Bool.false_eq_true, Bool.not_true, Bool.not_false, beq_true, beq_false, decide_true, decide_false, List.replicate_zero, List.replicate_succ, true_and, and_true]
    rw [wp_cons]
    try simp only [wp_ok, wp_bad, wp_bind, wp_ite, wp_nx, wp_ret, wp_fbad, wp_st, retE_ret, retE_exc, opt_some, opt_none, tru_bl, slotQ_some, intV_int, blV_bl, refV_ref, tupV_tup, wp_loc, wp_cint, wp_cstr, wp_cbl, wp_cnon, wp_cval, wp_bin, wp_neg, wp_nt, wp_cmp, wp_chain, wp_is, wp_and, wp_or, wp_ife, wp_fld, wp_ix, wp_sl, wp_tup, wp_lst, wp_dnew, wp_call, wp_mk, wp_make, wp_meth, wp_methK, wp_blt, wp_bm, wp_comp, wp_comp2, wp_pno, wp_pyes, wp_ono, wp_oyes, wp_esnil, wp_escons, wp_over, wp_range1, wp_range2, wp_range3, wp_enum, wp_rev, wp_nil, wp_ex, wp_set, wp_setf, wp_seti, wp_setTF, wp_sret, wp_retn, wp_pass, wp_brk, wp_cnt, wp_if, wp_for, wp_while, wp_binI, binI_add, binI_sub, binI_mul, binI_fdiv, binI_mod, binI_shr, binI_band, binI_bxor, binI_pow, cmp_lt, cmp_le, cmp_gt, cmp_ge, cmp_eqI, cmp_neI, cmp_eqS, cmp_neS, opt_ite, ite_and, List.getElem?_cons_zero, List.getElem?_cons_succ, List.set_cons_zero, List.set_cons_succ, List.length_cons, List.length_nil, List.append_nil, List.map_cons, List.map_nil, assignT, setSlots, List.cons_append, List.nil_append, Nat.reduceSub, Nat.reduceAdd, decide_eq_true_eq, if_true, if_false, Bool.false_eq_true, Bool.not_true, Bool.not_false, beq_true, beq_false, decide_true, decide_false, List.replicate_zero, List.replicate_succ, true_and, and_true]
    refine ⟨two_le, two_le, two_le, ?_⟩
    rw [wp_cons]
    try simp only [wp_ok, wp_bad, wp_bind, wp_ite, wp_nx, wp_ret, wp_fbad, wp_st, retE_ret, retE_exc, opt_some, opt_none, tru_bl, slotQ_some, intV_int, blV_bl, refV_ref, tupV_tup, wp_loc, wp_cint, wp_cstr, wp_cbl, wp_cnon, wp_cval, wp_bin, wp_neg, wp_nt, wp_cmp, wp_chain, wp_is, wp_and, wp_or, wp_ife, wp_fld, wp_ix, wp_sl, wp_tup, wp_lst, wp_dnew, wp_call, wp_mk, wp_make, wp_meth, wp_methK, wp_blt, wp_bm, wp_comp, wp_comp2, wp_pno, wp_pyes, wp_ono, wp_oyes, wp_esnil, wp_escons, wp_over, wp_range1, wp_range2, wp_range3, wp_enum, wp_rev, wp_nil, wp_ex, wp_set, wp_setf, wp_seti, wp_setTF, wp_sret, wp_retn, wp_pass, wp_brk, wp_cnt, wp_if, wp_for, wp_while, wp_binI, binI_add, binI_sub, binI_mul, binI_fdiv, binI_mod, binI_shr, binI_band, binI_bxor, binI_pow, cmp_lt, cmp_le, cmp_gt, cmp_ge, cmp_eqI, cmp_neI, cmp_eqS, cmp_neS, opt_ite, ite_and, List.getElem?_cons_zero, List.getElem?_cons_succ, List.set_cons_zero, List.set_cons_succ, List.length_cons, List.length_nil, List.append_nil, List.map_cons, List.map_nil, assignT, setSlots, List.cons_append, List.nil_append, Nat.reduceSub, Nat.reduceAdd, decide_eq_true_eq, if_true, if_false, Bool.false_eq_true, Bool.not_true, Bool.not_false, beq_true, beq_false, decide_true, decide_false, List.replicate_zero, List.replicate_succ, true_and, and_true]
    rw [wp_cons]
    try simp only [wp_ok, wp_bad, wp_bind, wp_ite, wp_nx, wp_ret, wp_fbad, wp_st, retE_ret, retE_exc, opt_some, opt_none, tru_bl, slotQ_some, intV_int, blV_bl, refV_ref, tupV_tup, wp_loc, wp_cint, wp_cstr, wp_cbl, wp_cnon, wp_cval, wp_bin, wp_neg, wp_nt, wp_cmp, wp_chain, wp_is, wp_and, wp_or, wp_ife, wp_fld, wp_ix, wp_sl, wp_tup, wp_lst, wp_dnew, wp_call, wp_mk, wp_make, wp_meth, wp_methK, wp_blt, wp_bm, wp_comp, wp_comp2, wp_pno, wp_pyes, wp_ono, wp_oyes, wp_esnil, wp_escons, wp_over, wp_range1, wp_range2, wp_range3, wp_enum, wp_rev, wp_nil, wp_ex, wp_set, wp_setf, wp_seti, wp_setTF, wp_sret, wp_retn, wp_pass, wp_brk, wp_cnt, wp_if, wp_for, wp_while, wp_binI, binI_add, binI_sub, binI_mul, binI_fdiv, binI_mod, binI_shr, binI_band, binI_bxor, binI_pow, cmp_lt, cmp_le, cmp_gt, cmp_ge, cmp_eqI, cmp_neI, cmp_eqS, cmp_neS, opt_ite, ite_and, List.getElem?_cons_zero, List.getElem?_cons_succ, List.set_cons_zero, List.set_cons_succ, List.length_cons, List.length_nil, List.append_nil, List.map_cons, List.map_nil, assignT, setSlots, List.cons_append, List.nil_append, Nat.reduceSub, Nat.reduceAdd, decide_eq_true_eq, if_true, if_false, Bool.false_eq_true, Bool.not_true, Bool.not_false, beq_true, beq_false, decide_true, decide_false, List.replicate_zero, List.replicate_succ, true_and, and_true]
    rw [wp_cons]
    try simp only [wp_ok, wp_bad, wp_bind, wp_ite, wp_nx, wp_ret, wp_fbad, wp_st, retE_ret, retE_exc, opt_some, opt_none, tru_bl, slotQ_some, intV_int, blV_bl, refV_ref, tupV_tup, wp_loc, wp_cint, wp_cstr, wp_cbl, wp_cnon, wp_cval, wp_bin, wp_neg, wp_nt, wp_cmp, wp_chain, wp_is, wp_and, wp_or, wp_ife, wp_fld, wp_ix, wp_sl, wp_tup, wp_lst, wp_dnew, wp_call, wp_mk, wp_make, wp_meth, wp_methK, wp_blt, wp_bm, wp_comp, wp_comp2, wp_pno, wp_pyes, wp_ono, wp_oyes, wp_esnil, wp_escons, wp_over, wp_range1, wp_range2, wp_range3, wp_enum, wp_rev, wp_nil, wp_ex, wp_set, wp_setf, wp_seti, wp_setTF, wp_sret, wp_retn, wp_pass, wp_brk, wp_cnt, wp_if, wp_for, wp_while, wp_binI, binI_add, binI_sub, binI_mul, binI_fdiv, binI_mod, binI_shr, binI_band, binI_bxor, binI_pow, cmp_lt, cmp_le, cmp_gt, cmp_ge, cmp_eqI, cmp_neI, cmp_eqS, cmp_neS, opt_ite, ite_and, List.getElem?_cons_zero, List.getElem?_cons_succ, List.set_cons_zero, List.set_cons_succ, List.length_cons, List.length_nil, List.append_nil, List.map_cons, List.map_nil, assignT, setSlots, List.cons_append, List.nil_append, Nat.reduceSub, Nat.reduceAdd, decide_eq_true_eq, if_true, if_false, Bool.false_eq_true, Bool.not_true, Bool.not_false, beq_true, beq_false, decide_true, decide_false, List.replicate_zero, List.replicate_succ, true_and, and_true]
    have slg : ∀ (h : Heap) (Q : Val → Heap → Prop), (slV h (.glb 6) none (some 40)).wp Q nox = Q (.ref h.size) (h.push (.lst (h.scr.take 40))) := by
      intro h Q
      have : slV h (.glb 6) none (some 40) = .ok (.ref h.size) (h.push (.lst (cutL h.scr none (some 40)))) := rfl
      rw [this, wp_ok, cut_to40]
    rw [slg, refV_ref]
    have hH : ((((((H1 (ns.map Val.int)).push (Obj.lst [Val.int 0, Val.int 0])).push (Obj.lst [Val.int 0, Val.int 0])).push (.lst [.ref (H1 (ns.map Val.int)).size, .ref ((H1 (ns.map Val.int)).push (Obj.lst [Val.int 0, Val.int 0])).size])).push (.dcT [])).push (.lst ((ns.map Val.int).take 40))) = H2 (ns.map Val.int) ((ns.map Val.int).take 40) := rfl
    have hsc : (((((H1 (ns.map Val.int)).push (Obj.lst [Val.int 0, Val.int 0])).push (Obj.lst [Val.int 0, Val.int 0])).push (.lst [.ref (H1 (ns.map Val.int)).size, .ref ((H1 (ns.map Val.int)).push (Obj.lst [Val.int 0, Val.int 0])).size])).push (.dcT [])).scr = ns.map Val.int := rfl
    rw [hsc, hH]
    have hs13 : (((((H1 (ns.map Val.int)).push (Obj.lst [Val.int 0, Val.int 0])).push (Obj.lst [Val.int 0, Val.int 0])).push (.lst [.ref (H1 (ns.map Val.int)).size, .ref ((H1 (ns.map Val.int)).push (Obj.lst [Val.int 0, Val.int 0])).size])).push (.dcT [])).size = 13 := rfl
    rw [hs13]
    have sS := H2_S (ns.map Val.int) ((ns.map Val.int).take 40)
    generalize H2 (ns.map Val.int) ((ns.map Val.int).take 40) = h2 at sS ⊢
    generalize hvs : (ns.map Val.int).take 40 = vs at sS turn ⊢
    have hl40 : vs.length ≤ 40 := by rw [← hvs, List.length_take]; omega
    rw [lstOf_ref sS.s13, opt_some]
    refine for_inv (turnI vs) ?_ ?_ ?_ ?_
    · rintro k σ h' hk ⟨fl, lv, L, ls, lf, fs, _, s⟩
      exact stands_some s.s13
    · intro k hk σ h' i
      rw [enumL_length] at hk
      rw [enumL_get]
      have := turn k hk (by omega) σ h' i
      rw [show (0 + (k : Int)) = (k : Int) by omega]
      obtain ⟨σ1, e, w⟩ := this _
      exact ⟨σ1, e, w⟩
    · intro σ h' i
      rw [enumL_length] at i
      obtain ⟨fl, lv, L, ls, lf, fs, ⟨a6, a7, a8, a9, a10, a11, a12, a13, a14, a15, a16, a17, rfl⟩, s⟩ := i
      rw [wp_cons]
      try simp only [wp_ok, wp_bad, wp_bind, wp_ite, wp_nx, wp_ret, wp_fbad, wp_st, retE_ret, retE_exc, opt_some, opt_none, tru_bl, slotQ_some, intV_int, blV_bl, refV_ref, tupV_tup, wp_loc, wp_cint, wp_cstr, wp_cbl, wp_cnon, wp_cval, wp_bin, wp_neg, wp_nt, wp_cmp, wp_chain, wp_is, wp_and, wp_or, wp_ife, wp_fld, wp_ix, wp_sl, wp_tup, wp_lst, wp_dnew, wp_call, wp_mk, wp_make, wp_meth, wp_methK, wp_blt, wp_bm, wp_comp, wp_comp2, wp_pno, wp_pyes, wp_ono, wp_oyes, wp_esnil, wp_escons, wp_over, wp_range1, wp_range2, wp_range3, wp_enum, wp_rev, wp_nil, wp_ex, wp_set, wp_setf, wp_seti, wp_setTF, wp_sret, wp_retn, wp_pass, wp_brk, wp_cnt, wp_if, wp_for, wp_while, wp_binI, binI_add, binI_sub, binI_mul, binI_fdiv, binI_mod, binI_shr, binI_band, binI_bxor, binI_pow, cmp_lt, cmp_le, cmp_gt, cmp_ge, cmp_eqI, cmp_neI, cmp_eqS, cmp_neS, opt_ite, ite_and, List.getElem?_cons_zero, List.getElem?_cons_succ, List.set_cons_zero, List.set_cons_succ, List.length_cons, List.length_nil, List.append_nil, List.map_cons, List.map_nil, assignT, setSlots, List.cons_append, List.nil_append, Nat.reduceSub, Nat.reduceAdd, decide_eq_true_eq, if_true, if_false, Bool.false_eq_true, Bool.not_true, Bool.not_false, beq_true, beq_false, decide_true, decide_false, List.replicate_zero, List.replicate_succ, true_and, and_true]
    · exact ⟨0, _, _, _, _, _, ⟨_, _, _, _, _, _, _, _, _, _, _, _, rfl⟩, sS⟩
  obtain ⟨v, h', e, q⟩ := key.out
  exact ⟨h', by rw [e, q]⟩
theorem law_plain (ns : List Int) (hl : ns.length ≤ 63) : ∃ h', callAt TT 40 327 [.glb 6] ⟨#[], ns.map .int⟩ = .ok (.bl true) h' := law_plain_n 32 ns hl
end M
end

theorem table_eq : Hd.dat.T = M.TT := rfl
theorem PySem.Challenge.cw_mobileair_k81_air_holds : PySem.Challenge.rw_mobileair_k81_air.Holds := by
  refine holds_of fun ns h => ?_
  rw [table_eq]
  exact M.law_plain ns h
